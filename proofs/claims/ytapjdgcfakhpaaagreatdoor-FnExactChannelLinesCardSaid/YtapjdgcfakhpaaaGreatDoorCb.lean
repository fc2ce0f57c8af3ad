/- Cb: merged out of KSk, KSm, KSw. -/
import Derived.Test.YtapjdgcfakhpaaaGreatDoorCa
import Derived.Test.YtapjdgcfakhpaaaGreatDoorAc
import Derived.Test.YtapjdgcfakhpaaaGreatDoorBa
set_option linter.unusedSectionVars false
set_option linter.unusedSimpArgs false
set_option linter.unusedVariables false
set_option maxRecDepth 100000
section
namespace Go.Proofs
open Go.PW Go.KP
attribute [local simp] RV.cells RV.one PV.cells PV.solid PV.one G6 i7 M3 L4 RV.ofCells elems PV.killL
variable [GF]
theorem c5q (t:Tx) (ht:t.length < 1099511627776):d8 Tryz.prog 189 [.val (tx t)] (.ret (Z2 (b0g t)) []) []:=by
 refine f8 mixed ok189 rfl (fun _=>rfl) ?_
 unfold ir189
 rw [b6]
 have hsm:=b1l ht
 have hp:=b6o t ht
 unfold b0g
 generalize I3 t=r at *
 obtain ⟨u,b⟩:=r
 simp only at hsm ⊢
 simp [d9,i6,j9,b9,d7,tx]
 refine a8w rfl rfl (fun _=>rfl) rfl (.inl rfl) hp ?_
 simp [a6k,X5,tx,num]
 cases b with
 | false=>simp [Z2,tx,bs]
 | true=>
  simp
  refine b7 rfl rfl (.inl rfl) (a8z u.scheme) ?_
  cases hw:a0x u.scheme with
  | false=>simp [Z2,tx,bs]
  | true=>
   simp
   have hs2:LUrl.Small { u with frag:=[],hasF:=false }:=⟨hsm.1,hsm.2.1,hsm.2.2.1,hsm.2.2.2.1,hsm.2.2.2.2.1,by simp,hsm.2.2.2.2.2.2⟩
   refine b7 rfl rfl (.inl rfl) (b2u { u with frag:=[],hasF:=false } hs2) ?_
   simp [Z2,tx]
theorem a8e {c:UInt8} (h:P9 c=true):a3a c=true:=by simp [a3a,h]
theorem c83 (t:Tx) (ht:t.length < 1099511627776):d8 Tryz.prog 124 [.val (tx t)] (.ret (.val (.bool (a1y t))) []) []:=by
 refine f8 mixed ok124 rfl (fun _=>rfl) ?_
 unfold ir124
 rw [b6]
 simp [d9,i6,j9,b9,d7,tx,b8]
 refine b7 rfl rfl (.inl rfl) (U4 .i64 t.length 1 24) ?_
 by_cases hlen:1≤t.length∧t.length≤24
 rotate_left
 · rw [show decide ((1:Int)≤t.length∧(t.length:Int)≤24)=false from decide_eq_false (by omega)]
   have:a1y t=false:=by unfold a1y;rw [decide_eq_false hlen];rfl
   simp [this]
 rw [show decide ((1:Int)≤t.length∧(t.length:Int)≤24)=true from decide_eq_true (by omega)]
 have hw:a1y t=Y1 P9 a3a t:=by unfold a1y;rw [decide_eq_true hlen];rfl
 simp
 refine j8 (X:=Nat) (fun i=>⟨u0 [(0,.val (.str (bs t))),(3,.val (.int .i64 i))],u5 []⟩) (fun i=>i≤t.length∧Y1 P9 a3a (t.take i)=true) (fun i=>t.length - i) 0 (Le.mk _ _ ?_ ?_) ?_ ?_
 · simp [upd]
 · simp
 · simp [Y1]
 · rintro i ⟨hi,hall⟩
   simp [b8,j5]
   refine f7 (fun h3=>?_) (fun h3=>?_)
   · have hstep:=a3p (p:=P9) (q:=a3a) (fun _ h=>a8e h) t i h3
     rw [hall,Bool.true_and] at hstep
     have H0:=a2s (p:=P9) (q:=a3a) t i h3
     have e1:((t[i].toNat:Int) < 97)↔t[i].toNat < 97:=by omega
     have e2:((122:Int) < t[i].toNat)↔122 < t[i].toNat:=by omega
     have e3:((t[i].toNat:Int)=45)↔t[i].toNat=45:=by omega
     have hgood:(if i=0 then P9 t[i] else a3a t[i])=true→∀ st':St,st'.env 0=.val (.str (bs t))→st'.env 3=.val (.int .i64 (IntKind.i64.wrap ((i:Int)+1))) →
      ∃ x',(x'≤t.length∧Y1 P9 a3a (t.take x')=true)∧t.length - x' < t.length - i∧Le st' ⟨u0 [(0,.val (.str (bs t))),(3,.val (.int .i64 (x':Int)))],u5 []⟩:=fun hg st' q1 q2=>by
      refine ⟨i+1,⟨by omega,by rw [hstep,hg]⟩,by omega,Le.mk _ _ ?_ ?_⟩
      · simp [q1,q2];exact wrap_i64 (by omega) (by omega)
      · simp
     have hres:(if i=0 then P9 t[i] else a3a t[i])=false→a1y t=false:=fun h=>by rw [hw];exact H0 h
     by_cases a4:i=0
     · rw [if_pos a4] at hgood hres
       by_cases a1:t[i].toNat < 97
       · have hr:=hres (by simp [P9];omega)
         by_cases a3:t[i].toNat=45
         · simp [b8,j5,h3,e1,e3,a1,a3,(eq_true a4:(i=0)=True),hr]
         · simp [b8,j5,h3,e1,e3,a1,a3,hr]
       · by_cases a2:122 < t[i].toNat
         · have hr:=hres (by simp [P9];omega)
           have a3:¬ t[i].toNat=45:=by omega
           simp [b8,j5,h3,e1,e2,e3,a1,a2,a3,hr]
         · simp [b8,j5,h3,e1,e2,e3,a1,a2]
           exact hgood (by simp [P9];omega) _ (by simp) (by simp)
     · rw [if_neg a4] at hgood hres
       by_cases a1:t[i].toNat < 97
       · by_cases a3:t[i].toNat=45
         · simp [b8,j5,h3,e1,e3,a1,a3,a4]
           exact hgood (by simp [a3a,a3]) _ (by simp) (by simp)
         · have hr:=hres (by simp [a3a,P9,a3];omega)
           simp [b8,j5,h3,e1,e3,a1,a3,hr]
       · by_cases a2:122 < t[i].toNat
         · have a3:¬ t[i].toNat=45:=by omega
           have hr:=hres (by simp [a3a,P9,a3];omega)
           simp [b8,j5,h3,e1,e2,e3,a1,a2,a3,hr]
         · simp [b8,j5,h3,e1,e2,e3,a1,a2]
           exact hgood (by simp [a3a,P9];omega) _ (by simp) (by simp)
   · have e:i=t.length:=by omega
     subst e
     rw [List.take_length] at hall
     simp [hw,hall]
theorem c5p (c:UInt8):d8 Tryz.prog 188 [.val (rvb c)] (.ret (.val (.bool (decide (c.toNat=32∨c.toNat=9)))) []) []:=by
 refine f8 mixed ok188 rfl (fun _=>rfl) ?_
 unfold ir188
 rw [b6]
 have e1:((c.toNat:Int)=32)↔c.toNat=32:=by omega
 have e2:((c.toNat:Int)=9)↔c.toNat=9:=by omega
 by_cases h1:c.toNat=32<;>by_cases h2:c.toNat=9<;>simp [d9,i6,j9,b9,d7,rvb,e1,e2,h1,h2]
def a3f (c:UInt8):Bool:=!decide (c.toNat=32∨c.toNat=9∨c.toNat=59)
theorem b0d (w:Tx):a0k w=(decide (w≠[]) && w.all a3f):=rfl
theorem c82 (t:Tx) (ht:t.length < 1099511627776):d8 Tryz.prog 126 [.val (tx t)] (.ret (.val (.bool (a0k t))) []) []:=by
 refine f8 mixed ok126 rfl (fun _=>rfl) ?_
 unfold ir126
 rw [b6]
 simp [d9,i6,j9,b9,d7,tx,b8]
 refine j8 (X:=Nat) (fun i=>⟨u0 [(0,.val (.str (bs t))),(3,.val (.int .i64 i))],u5 []⟩) (fun i=>i≤t.length∧(t.take i).all a3f=true) (fun i=>t.length - i) 0 (Le.mk _ _ ?_ ?_) ?_ ?_
 · simp [upd]
 · simp
 · simp
 · rintro i ⟨hi,hall⟩
   simp [b8,j5]
   refine f7 (fun h3=>?_) (fun h3=>?_)
   · have hstep:=S4 t a3f i h3
     rw [hall,Bool.true_and] at hstep
     have H0:a3f t[i]=false→a0k t=false:=fun h=>by
      rw [b0d]
      have:t.all a3f=false:=by rw [List.all_eq_false];exact ⟨t[i],List.getElem_mem h3,by simp [h]⟩
      rw [this,Bool.and_false]
     have e3:((t[i].toNat:Int)=59)↔t[i].toNat=59:=by omega
     simp [b8,j5,h3]
     refine b7 rfl rfl (.inl rfl) (c5p t[i]) ?_
     by_cases a1:t[i].toNat=32∨t[i].toNat=9
     · have hb:=H0 (by unfold a3f;simp;omega)
       rw [decide_eq_true a1]
       simp [hb]
     · rw [decide_eq_false a1]
       by_cases a2:t[i].toNat=59
       · have hb:=H0 (by unfold a3f;simp;omega)
         simp [b8,j5,h3,a2,hb]
       · simp [b8,j5,h3,e3,a2]
         refine LoopNext.mk (i+1) ⟨by omega,by rw [hstep];unfold a3f;simp;omega⟩ (by omega) (Le.mk _ _ ?_ ?_)
         · simp;exact wrap_i64 (by omega) (by omega)
         · simp
   · have e:i=t.length:=by omega
     subst e
     rw [List.take_length] at hall
     rw [b0d,hall,Bool.and_true]
     by_cases h0:t=[]
     · subst h0;simp [b8]
     · have:0 < t.length:=List.length_pos_iff.2 h0
       simp [b8,h0,this]
theorem b99 (l:List LRule) (name:Tx) (hl:l.length < 1099511627776):d8 Tryz.prog 125 [.val (.list 2 (l.map l7)),.val (tx name)] (.ret (.val (num (a1i l fun r=>decide (r.name=name)))) []) []:=by
 refine f8 mixed ok125 rfl (fun _=>rfl) ?_
 unfold ir125
 rw [b6]
 simp [d9,i6,j9,b9,d7,num]
 refine j8 (X:=Nat) (fun i=>⟨u0 [(0,.val (.list 2 (l.map l7))),(1,.val (tx name)),(5,.val (num i))],u5 []⟩) (fun i=>i≤l.length∧∀ k (hk:k < i) (hk':k < l.length),l[k].name≠name) (fun i=>l.length - i) 0 (Le.mk _ _ ?_ ?_) ?_ ?_
 · simp [upd,num]
 · simp
 · simp
 · rintro i ⟨hi,hne⟩
   simp [num]
   refine f7 (fun h1=>?_) (fun h1=>?_)
   · have e1:(l.map l7)[i]?.getD .nilptr=l7 l[i]:=by simp [List.getElem?_eq_getElem h1]
     simp [num,h1,e1,l7,tx,L7]
     by_cases hu:l[i].name=name
     · have hh:a1i l (fun r=>decide (r.name=name))=i:=a0l h1 (by simp [hu]) (fun k hk=>by simp [hne k hk (by omega)])
       simp [hu,hh,num]
     · simp [hu]
       refine LoopNext.mk (i+1) ⟨by omega,fun k hk hk'=>?_⟩ (by omega) (Le.mk _ _ ?_ ?_)
       · by_cases e:k=i
         · subst e;exact hu
         · exact hne k (by omega) hk'
       · simp [num,tx];exact wrap_i64 (by omega) (by omega)
       · simp
   · have e:i=l.length:=by omega
     have hh:a1i l (fun r=>decide (r.name=name))=-1:=Y8 (fun k hk=>by simp [hne k (by omega) hk])
     simp [hh,num]
theorem c2w (l:List Tx) (t:Tx) (hl:l.length < 1099511627776):d8 Tryz.prog 190 [.val (.list 1 (l.map tx)),.val (tx t)] (.ret (.val (.bool (decide (t∈l)))) []) []:=by
 refine f8 mixed ok190 rfl (fun _=>rfl) ?_
 unfold ir190
 rw [b6]
 simp [d9,i6,j9,b9,d7,num]
 refine j8 (X:=Nat) (fun i=>⟨u0 [(0,.val (.list 1 (l.map tx))),(1,.val (tx t)),(5,.val (num i))],u5 []⟩) (fun i=>i≤l.length∧t∉l.take i) (fun i=>l.length - i) 0 (Le.mk _ _ ?_ ?_) ?_ ?_
 · simp [upd,num]
 · simp
 · simp
 · rintro i ⟨hi,hne⟩
   simp [num]
   refine f7 (fun h1=>?_) (fun h1=>?_)
   · have e1:(l.map tx)[i]?.getD .nilptr=tx l[i]:=by simp [List.getElem?_eq_getElem h1]
     simp [num,h1,e1,tx,L7]
     by_cases hu:l[i]=t
     · have:t∈l:=by rw [← hu];exact List.getElem_mem h1
       simp [hu,this]
     · simp [hu]
       refine LoopNext.mk (i+1) ⟨by omega,?_⟩ (by omega) (Le.mk _ _ ?_ ?_)
       · rw [List.take_add_one,List.getElem?_eq_getElem h1,List.mem_append]
         rintro (e | e)
         · exact hne e
         · exact hu (by simpa using e:t=l[i]).symm
       · simp [num,tx];exact wrap_i64 (by omega) (by omega)
       · simp
   · have e:i=l.length:=by omega
     subst e
     rw [List.take_length] at hne
     simp [hne]
theorem b6q (a b:List Tx) (ha:a.length < 1099511627776) (hb:b.length < 1099511627776):d8 Tryz.prog 128 [.val (.list 1 (a.map tx)),.val (.list 1 (b.map tx))] (.ret (.val (.bool (decide (a=b)))) []) []:=by
 refine f8 mixed ok128 rfl (fun _=>rfl) ?_
 unfold ir128
 rw [b6]
 by_cases hlen:a.length=b.length
 rotate_left
 · have h1:¬ (a.length:Int)=b.length:=by omega
   have h2:a≠b:=fun e=>hlen (by rw [e])
   simp [d9,i6,j9,b9,d7,h1,h2]
 simp [d9,i6,j9,b9,d7,num,hlen]
 refine j8 (X:=Nat) (fun i=>⟨u0 [(0,.val (.list 1 (a.map tx))),(1,.val (.list 1 (b.map tx))),(5,.val (num i))],u5 []⟩) (fun i=>i≤a.length∧a.take i=b.take i) (fun i=>a.length - i) 0 (Le.mk _ _ ?_ ?_) ?_ ?_
 · simp [upd,num]
 · simp
 · simp
 · rintro i ⟨hi,heq⟩
   simp [num]
   refine f7 (fun h1=>?_) (fun h1=>?_)
   · have h1b:i < b.length:=by omega
     have e1:(a.map tx)[i]?.getD .nilptr=tx a[i]:=by simp [List.getElem?_eq_getElem h1]
     have e2:(b.map tx)[i]?.getD .nilptr=tx b[i]:=by simp [List.getElem?_eq_getElem h1b]
     simp [num,h1,h1b,e1,e2,tx,L7]
     by_cases hu:a[i]=b[i]
     · simp [hu]
       refine LoopNext.mk (i+1) ⟨by omega,?_⟩ (by omega) (Le.mk _ _ ?_ ?_)
       · rw [List.take_add_one,List.take_add_one,List.getElem?_eq_getElem h1,List.getElem?_eq_getElem h1b,heq,hu]
       · simp [num,tx];exact wrap_i64 (by omega) (by omega)
       · simp
     · have h2:a≠b:=fun e=>hu (by subst e;rfl)
       simp [hu,h2]
   · have e:i=a.length:=by omega
     subst e
     rw [List.take_length,hlen,List.take_length] at heq
     simp [heq]
end Go.Proofs
end
section
namespace Go.Proofs
open Go.PW Go.KP
attribute [local simp] RV.cells RV.one PV.cells PV.solid PV.one G6 i7 M3 L4 RV.ofCells elems PV.killL
variable [GF]
structure MK (st:St) (rules:List LRule) (rt:Tx) (acc:List Tx):Prop where
 e0:st.env 0=.val (.list 2 (rules.map l7))
 e2:st.env 2=.ptr 2 0
 e3:st.env 3=.ptr 3 0
 m2:st.mem 2=.box [.val (tx []),.emp 1,.emp 2]
 m3:st.mem 3=.box [.val (tx rt),.own 9,.val (.list 2 (rules.map l7))]
 m9:st.mem 9=.row 9 1 (acc.map tx)
theorem b5n (rules:List LRule) (rt:Tx) (acc:List Tx) (st:St) (h:MK st rules rt acc):EC Tryz.prog ir127_from4 st (K:=⟨a2m [.c 2 true 3] (.val (x5 ⟨rt,acc,rules⟩))⟩):=by
 unfold ir127_from4
 simp [h.e2,h.e3,h.m2,h.m3,h.m9,tx]
 refine (b8w (id:=2) (n:=3) (cs:=[.val (tx rt),.own 9,.val (.list 2 (rules.map l7))]) (rs:=[tx rt,.list 1 (acc.map tx),.list 2 (rules.map l7)]) ?_ ?_ ?_ rfl (by omega)).trans ?_
 · simp [h.e2]
 · simp
   rfl
 · simp [PV.frzL,PV.frz,PV.plL,PV.pl,a1p,h.m9,tx]
 · simp [M3,i7,x5]
theorem a66 (rules:List LRule) (hr:bdS 1048576 (Y2 1048576) rules) (rt:Tx) (st:St) (h:MK st rules rt []):EC Tryz.prog ir127_from3 st (K:=⟨a2m [.c 2 true 3] (.val (x5 ⟨rt,a3k rules,rules⟩))⟩):=by
 unfold ir127_from3
 have hrl:=hr.1
 simp [h.e0,h.e2,h.e3,h.m2,h.m3,h.m9]
 refine b7 rfl rfl (.inl rfl) (b99 rules a1u (by omega)) ?_
 rcases b2i rules (fun r=>decide (r.name=a1u)) with ⟨k1,k2⟩ | ⟨k,hk,k1,k2⟩
 · rw [k1]
   have e:a3k rules=[]:=by unfold a3k W7;rw [k2];rfl
   rw [e]
   simp [num]
   refine b5n rules rt [] _ ⟨?_,?_,?_,?_,?_,?_⟩<;>simp [h.e0,h.e2,h.e3,h.m2,h.m3,h.m9]
 · rw [k1]
   have e:a3k rules=rules[k].words.foldl Q3 []:=by unfold a3k W7;rw [k2]
   rw [e]
   have hb:=(hr.2 _ (List.getElem_mem hk)).2
   obtain ⟨r,hrk⟩:∃ r,rules[k]=r:=⟨_,rfl⟩
   rw [hrk] at hb k2 ⊢
   have hwl:=hb.1
   simp [num]
   refine j8 (X:=Nat) (fun i=>⟨u0 [(0,.val (.list 2 (rules.map l7))),(2,.ptr 2 0),(3,.ptr 3 0),(5,.val (num k)),(6,.val (num i))],u5 [(2,.box [.val (tx []),.emp 1,.emp 2]),(3,.box [.val (tx rt),.own 9,.val (.list 2 (rules.map l7))]),(9,.row 9 1 (((r.words.take i).foldl Q3 []).map tx))]⟩) (fun i=>i≤r.words.length) (fun i=>r.words.length - i) 0 (Le.mk _ _ ?_ ?_) ?_ ?_
   · simp [upd,num,h.e0,h.e2,h.e3]
   · simp [h.m2,h.m3,h.m9]
   · simp
   · intro i hi
     simp [num,hk,hrk,l7]
     refine f7 (fun h1=>?_) (fun h1=>?_)
     · have e1:(r.words.map tx)[i]?.getD .nilptr=tx r.words[i]:=by simp [List.getElem?_eq_getElem h1]
       have hwi:r.words[i].length≤1048576:=hb.2 _ (List.getElem_mem h1)
       have hst:=a7r Q3 [] r.words i h1
       have hal:((r.words.take i).foldl Q3 []).length≤4:=a7y _ _ (by simp)
       generalize (r.words.take i).foldl Q3 []=acc at *
       simp [num,hk,hrk,l7,h1,e1,tx]
       refine a8w rfl rfl (fun _=>rfl) rfl (.inl rfl) (c5q r.words[i] (by omega)) ?_
       cases hc:b0g r.words[i] with
       | none=>
        have hu:Q3 acc r.words[i]=acc:=by unfold Q3;rw [hc]
        rw [hu] at hst
        simp [Z2]
        refine LoopNext.mk (i+1) (by omega) (by omega) (Le.mk _ _ ?_ ?_)
        · simp [num];exact wrap_i64 (by omega) (by omega)
        · simp [hst,tx]
       | some u=>
        simp [Z2]
        refine b7 rfl rfl (.inr rfl) (c2w acc u (by omega)) ?_
        by_cases hm:u∈acc
        · have hu:Q3 acc r.words[i]=acc:=by unfold Q3;rw [hc];simp [hm]
          rw [hu] at hst
          simp [hm]
          refine LoopNext.mk (i+1) (by omega) (by omega) (Le.mk _ _ ?_ ?_)
          · simp [num];exact wrap_i64 (by omega) (by omega)
          · simp [hst,tx]
        · by_cases h4:acc.length < 4
          · have hu:Q3 acc r.words[i]=acc++[u]:=by unfold Q3;rw [hc];simp [hm,h4]
            rw [hu] at hst
            have h4':(acc.length:Int) < 4:=by omega
            simp [hm,h4,h4',tx]
            refine ⟨by omega,by omega,LoopNext.mk (i+1) (by omega) (by omega) (Le.mk _ _ ?_ ?_)⟩
            · simp [num];exact wrap_i64 (by omega) (by omega)
            · simp [hst,tx]
          · have hu:Q3 acc r.words[i]=acc:=by unfold Q3;rw [hc];simp [h4]
            rw [hu] at hst
            have h4':¬ (acc.length:Int) < 4:=by omega
            simp [hm,h4,h4']
            refine LoopNext.mk (i+1) (by omega) (by omega) (Le.mk _ _ ?_ ?_)
            · simp [num];exact wrap_i64 (by omega) (by omega)
            · simp [hst,tx]
     · have e9:i=r.words.length:=by omega
       subst e9
       simp
       refine b5n rules rt _ _ ⟨?_,?_,?_,?_,?_,?_⟩<;>simp
theorem c84 (rules:List LRule) (hr:bdS 1048576 (Y2 1048576) rules):d8 Tryz.prog 127 [.val (.list 2 (rules.map l7))] (.ret (.val (x5 ⟨a3l rules,a3k rules,rules⟩)) []) []:=by
 refine f8 mixed ok127 rfl (fun _=>rfl) ?_
 unfold ir127
 rw [b6]
 have hrl:=hr.1
 simp [d9,i6,j9,b9,d7,PV.kill]
 refine b7 rfl rfl (.inl rfl) (b99 rules a30 (by omega)) ?_
 rcases b2i rules (fun r=>decide (r.name=a30)) with ⟨k1,k2⟩ | ⟨k,hk,k1,k2⟩
 · rw [k1]
   have e:a3l rules=[]:=by unfold a3l W7;rw [k2];rfl
   rw [e]
   simp [num]
   refine a66 rules hr [] _ ⟨?_,?_,?_,?_,?_,?_⟩<;>simp [tx,bs]
 · rw [k1]
   have hb:=(hr.2 _ (List.getElem_mem hk)).2
   obtain ⟨r,hrk⟩:∃ r,rules[k]=r:=⟨_,rfl⟩
   rw [hrk] at hb k2
   have e0:a3l rules=a5k r.words:=by unfold a3l W7;rw [k2]
   rw [e0]
   simp [num,hk,hrk,l7]
   cases hw:r.words with
   | nil=>
    rw [show a5k []=[] from rfl]
    simp
    refine a66 rules hr [] _ ⟨?_,?_,?_,?_,?_,?_⟩<;>simp [tx,bs]
   | cons w ws=>
    have hwl:w.length≤1048576:=hb.2 w (by rw [hw];simp)
    simp [hk,hrk,l7,hw,tx]
    refine b7 rfl rfl (.inl rfl) (b2v w (by omega)) ?_
    have e1:a5k (w :: ws)=if a1h w then w else []:=rfl
    rw [e1]
    cases hlw:a1h w with
    | false=>
     rw [if_neg (by simp)]
     simp
     refine a66 rules hr [] _ ⟨?_,?_,?_,?_,?_,?_⟩<;>simp [tx,bs]
    | true=>
     rw [if_pos rfl]
     simp [hk,hrk,l7,hw,tx]
     refine a66 rules hr w _ ⟨?_,?_,?_,?_,?_,?_⟩<;>simp [tx,bs]
structure OKS (st:St) (p:LPolicy) (i:Nat):Prop where
 e1:st.env 1=.ptr 1 0
 e3:st.env 3=.val (num i)
 m1:st.mem 1=.box [.val (tx p.reportTo),.val (.list 1 (p.uris.map tx)),.val (.list 2 (p.rules.map l7))]
theorem okpol_words {K:Kx (PExit→St→Prop)} {st:St} {p:LPolicy} {i:Nat} {r:LRule} (hb:Y2 1048576 r) (h:OKS st p i) (h4:st.env 4=.ptr 4 0) (h5:st.env 5=.val (num 0)) (m4:st.mem 4=.box [.val (tx r.name),.val (.list 1 (r.words.map tx))])
 (hK:∀ st',OKS st' p i→r.words.all a0k=true→K.k .normal st') (hR:∀ st',st'.env 2=.val (.bool false)→r.words.all a0k=false→K.k .ret st') :
 EC Tryz.prog ir68_s42 st (K:=K):=by
 unfold ir68_s42
 have hwl:=hb.2.1
 simp only [y8,G1,z1,F9,z6,s8,y9,G0,l9,B1,H1,H2,j7,p8,p9,l1,z7,q9,l3,F8,y7,q8,q7,D9,E1,a05,a06,Option.getD_some,Option.getD_none,C6,u6,o8,D6,o7,o0,D8,o2,D7,D5,D4,H6,x3,o5,D2,x1,o4,D1,C4,D3,x2,C9,n9,w9,D0,H8,H7,C5,C7,o3,C8,x4,o6,B4,n0,C3,C2,C1,H3,w7,n6,B9,w5,n5,B8,B2,C0,w6,B6,m8,v8,B7,H5,H4,B3,v7,n8,B5,w8,n7,J6,J5,K9,J7,K3,J9,J8,K8,K2,K4,K5,K6,K7,A1,A0,z8,M5,M6,A4,G2,u7,E5,x7,L3,t6,Q6,M9,M0,O1,O3,O2,Q7,Q8,I8,J0,I9,J1,J2,N8,x9,N7,E6,E7,E8,y0,a09,F5,y6,Q4,Q5,H9,M7,M8,Option.map_some,Option.map_none,E9,y4,x6,o9,E3,E4,I2,I1,O8,O7,J4,F6,F7,J3,O4,O5,I4,p6,I5,p5,N2,F4,F3,l2,O0,O6,I7,N4,N6,N5,x8,A8,B0,A9,k7,N9,R0,Q9,N0,I6,U8,N1,p7,F1,F2,y5,F0,l0,u9,k9,v6,k8,L2,O9,P0,A2,A3,G4,G3,E2]
 refine j8 (X:=Nat) (fun j=>⟨u0 [(1,.ptr 1 0),(3,.val (num i)),(4,.ptr 4 0),(5,.val (num j))],u5 [(1,.box [.val (tx p.reportTo),.val (.list 1 (p.uris.map tx)),.val (.list 2 (p.rules.map l7))]),(4,.box [.val (tx r.name),.val (.list 1 (r.words.map tx))])]⟩) (fun j=>j≤r.words.length∧(r.words.take j).all a0k=true) (fun j=>r.words.length - j) 0 (Le.mk _ _ ?_ ?_) ?_ ?_
 · simp [h.e1,h.e3,h4,h5]
 · simp [h.m1,m4]
 · simp
 · rintro j ⟨hj,hall⟩
   unfold ir68_l42
   simp [num]
   refine f7 (fun h1=>?_) (fun h1=>?_)
   · have e1:(r.words.map tx)[j]?.getD .nilptr=tx r.words[j]:=by simp [List.getElem?_eq_getElem h1]
     have hwj:r.words[j].length≤1048576:=hb.2.2 _ (List.getElem_mem h1)
     have hst:(r.words.take (j+1)).all a0k=((r.words.take j).all a0k && a0k r.words[j]):=S4 _ _ _ h1
     rw [hall,Bool.true_and] at hst
     simp [num,h1,e1,tx]
     refine b7 rfl rfl (.inl rfl) (c82 r.words[j] (by omega)) ?_
     cases hw:a0k r.words[j] with
     | false=>
      simp
      refine hR _ (by simp) ?_
      rw [List.all_eq_false]
      exact ⟨r.words[j],List.getElem_mem h1,by simp [hw]⟩
     | true=>
      simp
      refine LoopNext.mk (j+1) ⟨by omega,by rw [hst,hw]⟩ (by omega) (Le.mk _ _ ?_ ?_)
      · simp [num];exact wrap_i64 (by omega) (by omega)
      · simp [tx]
   · have e:j=r.words.length:=by omega
     subst e
     rw [List.take_length] at hall
     simp
     refine hK _ ⟨?_,?_,?_⟩ hall<;>simp [num,tx]
theorem okpol_from3 (p:LPolicy) (hb:a0p 1048576 p) (i:Nat) (st:St) (h:OKS st p i):EC Tryz.prog ir68_from3 st (K:=⟨a2m [.t 2] (.val (.bool (decide (p.reportTo=a3l p.rules) && decide (p.uris=a3k p.rules))))⟩):=by
 unfold ir68_from3
 have hul:=hb.2.1.1
 have hl4:=a7y (W7 p.rules a1u) [] (by simp)
 simp [h.e1,h.m1]
 refine b7 rfl rfl (.inl rfl) (c84 p.rules hb.2.2) ?_
 simp [x5,tx,L7,h.e1,h.m1,PV.kill]
 by_cases hr:p.reportTo=a3l p.rules
 · rw [← hr]
   simp [h.e1,h.m1,PV.kill]
   refine b7 rfl rfl (.inl rfl) (b6q p.uris (a3k p.rules) (by omega) (by unfold a3k;omega)) ?_
   simp
 · simp [hr]
theorem b1k (p:LPolicy) (h:(p.rules.all X2 && a2p (p.rules.map fun r=>r.name))=true) (h8:p.rules.length≤8):Y7 p=(decide (p.reportTo=a3l p.rules) && decide (p.uris=a3k p.rules)):=by
 unfold Y7;rw [h,decide_eq_true h8];rfl
theorem a9x (p:LPolicy) (i:Nat) (hi:i < p.rules.length) (h:(X2 p.rules[i] && decide ((p.rules[i]).name∉(p.rules.map fun r=>r.name).take i))=false):Y7 p=false:=by
 unfold Y7
 rw [Bool.and_eq_false_iff] at h
 have:(p.rules.all X2 && a2p (p.rules.map fun r=>r.name))=false:=by
  rw [Bool.and_eq_false_iff]
  rcases h with h | h
  · exact .inl (List.all_eq_false.2 ⟨_,List.getElem_mem hi,by simp [h]⟩)
  · refine .inr (b3e _ (i+1) ?_)
    rw [a34 _ i (by simpa using hi)]
    simp only [List.getElem_map]
    rw [h,Bool.and_false]
 rw [this];simp
theorem c_l04OK (p:LPolicy) (hb:a0p 1048576 p):d8 Tryz.prog 68 [.val (x5 p)] (.ret (.val (.bool (Y7 p))) []) []:=by
 refine f8 mixed ok68 rfl (fun _=>rfl) ?_
 unfold ir68
 rw [b6]
 have hrl:=hb.2.2.1
 by_cases h8:p.rules.length≤8
 rotate_left
 · have h8':(8:Int) < p.rules.length:=by omega
   have:Y7 p=false:=by unfold Y7;rw [decide_eq_false h8];rfl
   simp [d9,i6,j9,b9,d7,x5,tx,h8',this]
 have h8':¬ (8:Int) < p.rules.length:=by omega
 simp [d9,i6,j9,b9,d7,x5,tx,h8']
 refine j8 (X:=Nat) (fun i=>⟨u0 [(1,.ptr 1 0),(3,.val (num i))],u5 [(1,.box [.val (tx p.reportTo),.val (.list 1 (p.uris.map tx)),.val (.list 2 (p.rules.map l7))])]⟩) (fun i=>i≤p.rules.length∧((p.rules.take i).all X2 && a2p ((p.rules.map fun r=>r.name).take i))=true) (fun i=>p.rules.length - i) 0 (Le.mk _ _ ?_ ?_) ?_ ?_
 · simp [upd,num]
 · simp [tx]
 · simp [a2p]
 · rintro i ⟨hi,hall⟩
   unfold ir68_l11
   simp [num]
   refine f7 (fun h1=>?_) (fun h1=>?_)
   · have hbr:=hb.2.2.2 _ (List.getElem_mem h1)
     have hst:(p.rules.take (i+1)).all X2=((p.rules.take i).all X2 && X2 p.rules[i]):=S4 _ _ _ h1
     have hst2:=a34 (p.rules.map fun r=>r.name) i (by simpa using h1)
     simp only [List.getElem_map] at hst2
     have H0:=a9x p i h1
     have hself:=b2h (fun r:LRule=>r.name) p.rules i h1
     rw [Bool.and_eq_true] at hall
     rw [hall.1,Bool.true_and] at hst
     rw [hall.2,Bool.true_and] at hst2
     obtain ⟨r,hrk⟩:∃ r,p.rules[i]=r:=⟨_,rfl⟩
     rw [hrk] at hbr hst hst2 H0
     simp only [hrk] at hself
     have hnl:r.name.length≤1048576:=hbr.1
     have hwl:r.words.length≤1048576:=hbr.2.1
     simp [num,h1,hrk,l7,tx,PV.kill]
     refine b7 rfl rfl (.inl rfl) (c83 r.name (by omega)) ?_
     cases hn:a1y r.name with
     | false=>
      have hb2:=H0 (by unfold X2;rw [hn];rfl)
      simp [hb2]
     | true=>
      simp [num,h1,hrk,l7,tx,PV.kill]
      refine b7 rfl rfl (.inl rfl) (b99 p.rules r.name (by omega)) ?_
      by_cases hu:r.name∈(p.rules.map fun r=>r.name).take i
      · have hb2:=H0 (by rw [decide_eq_false (fun h=>h hu),Bool.and_false])
        have hne:¬ (a1i p.rules fun x=>decide (x.name=r.name))=(i:Int):=fun h=>hself.1 h hu
        simp [num,hb2,hne]
      · have heq:=hself.2 hu
        rw [decide_eq_true hu] at hst2
        by_cases hw8:r.words.length≤8
        rotate_left
        · have hb2:=H0 (by unfold X2;rw [decide_eq_false hw8];simp)
          have hw8':(8:Int) < r.words.length:=by omega
          simp [num,hb2,heq,hw8']
        · have hw8':¬ (8:Int) < r.words.length:=by omega
          simp [num,heq,hw8',PV.kill]
          refine okpol_words (p:=p) (i:=i) (r:=r) hbr ⟨?_,?_,?_⟩ ?_ ?_ ?_ (fun st' hs hall2=>?_) (fun st' h2 hall2=>?_)
          · simp
          · simp [num]
          · simp [tx]
          · simp
          · simp [num]
          · simp [tx]
          · have hok:X2 r=true:=by unfold X2;rw [hn,decide_eq_true hw8,hall2];rfl
            simp [hs.e1,hs.e3,num]
            refine LoopNext.mk (i+1) ⟨by omega,by rw [hst,hst2,hok];rfl⟩ (by omega) (Le.mk _ _ ?_ ?_)
            · simp [num,hs.e1];exact wrap_i64 (by omega) (by omega)
            · simp [hs.m1]
          · have hb2:=H0 (by unfold X2;rw [hall2];simp)
            simp [h2,hb2]
   · have e:i=p.rules.length:=by omega
     subst e
     rw [List.take_length,List.take_of_length_le (by simp)] at hall
     rw [b1k p hall h8]
     simp
     refine okpol_from3 p hb p.rules.length _ ⟨?_,?_,?_⟩<;>simp [num,tx]
end Go.Proofs
end
section
namespace Go.Proofs
open Go.PW Go.KP
attribute [local simp] RV.cells RV.one PV.cells PV.solid PV.one G6 i7 M3 L4 RV.ofCells elems PV.killL
variable [GF]
theorem c_l03At (l:List LTarget) (name:Tx) (hl:l.length < 1099511627776):d8 Tryz.prog 232 [.val (.list 3 (l.map f9)),.val (tx name)] (.ret (.val (num (a1i l fun r=>decide (r.url=name)))) []) []:=by
 refine f8 mixed ok232 rfl (fun _=>rfl) ?_
 unfold ir232
 rw [b6]
 simp [d9,i6,j9,b9,d7,num]
 refine j8 (X:=Nat) (fun i=>⟨u0 [(0,.val (.list 3 (l.map f9))),(1,.val (tx name)),(5,.val (num i))],u5 []⟩) (fun i=>i≤l.length∧∀ k (hk:k < i) (hk':k < l.length),l[k].url≠name) (fun i=>l.length - i) 0 (Le.mk _ _ ?_ ?_) ?_ ?_
 · simp [upd,num]
 · simp
 · simp
 · rintro i ⟨hi,hne⟩
   simp [num]
   refine f7 (fun h1=>?_) (fun h1=>?_)
   · have e1:(l.map f9)[i]?.getD .nilptr=f9 l[i]:=by simp [List.getElem?_eq_getElem h1]
     simp [num,h1,e1,f9,tx,L7]
     by_cases hu:l[i].url=name
     · have hh:a1i l (fun r=>decide (r.url=name))=i:=a0l h1 (by simp [hu]) (fun k hk=>by simp [hne k hk (by omega)])
       simp [hu,hh,num]
     · simp [hu]
       refine LoopNext.mk (i+1) ⟨by omega,fun k hk hk'=>?_⟩ (by omega) (Le.mk _ _ ?_ ?_)
       · by_cases e:k=i
         · subst e;exact hu
         · exact hne k (by omega) hk'
       · simp [num,tx];exact wrap_i64 (by omega) (by omega)
       · simp
   · have e:i=l.length:=by omega
     have hh:a1i l (fun r=>decide (r.url=name))=-1:=Y8 (fun k hk=>by simp [hne k (by omega) hk])
     simp [hh,num]
theorem b9j (g:LGroup) (i:Nat) (hi:i < g.targets.length) (h:(P6 g.targets[i] && decide ((g.targets[i]).url∉(g.targets.map fun r=>r.url).take i))=false):(g.targets.all P6 && a2p (g.targets.map fun t=>t.url))=false:=by
 rw [Bool.and_eq_false_iff] at h ⊢
 rcases h with h | h
 · exact .inl (List.all_eq_false.2 ⟨_,List.getElem_mem hi,by simp [h]⟩)
 · refine .inr (b3e _ (i+1) ?_)
   rw [a34 _ i (by simpa using hi)]
   simp only [List.getElem_map]
   rw [h,Bool.and_false]
theorem c4e (g:LGroup) (b1 b2 b3:Bool) (hb:a2d 1048576 g) (hW:d8 Tryz.prog 173 [.val (tx g.name)] (.ret (.val (.bool b1)) []) []) (hA:d8 Tryz.prog 108 [.val (.int .i64 g.age),.val (.int .i64 1),.val (.int .i64 100)] (.ret (.val (.bool b2)) []) [])
 (hT:d8 Tryz.prog 108 [.val (.int .i64 g.targets.length),.val (.int .i64 1),.val (.int .i64 4)] (.ret (.val (.bool b3)) []) []) :
 d8 Tryz.prog 170 [.val (M4 g)] (.ret (.val (.bool (b1 && b2 && b3 && (g.targets.all P6 && a2p (g.targets.map fun t=>t.url))))) []) []:=by
 have htl:g.targets.length≤1048576:=hb.2.1
 refine f8 mixed ok170 rfl (fun _=>rfl) ?_
 unfold ir170
 rw [b6]
 simp [d9,i6,j9,b9,d7,M4,tx,num]
 refine b7 rfl rfl (.inl rfl) hW ?_
 cases b1 with
 | false=>simp
 | true=>
  simp [num]
  refine b7 rfl rfl (.inl rfl) hA ?_
  cases b2 with
  | false=>simp
  | true=>
   simp [num]
   refine b7 rfl rfl (.inl rfl) hT ?_
   cases b3 with
   | false=>simp
   | true=>
    simp [num]
    refine j8 (X:=Nat) (fun i=>⟨u0 [(1,.ptr 1 0),(3,.val (num i))],u5 [(1,.box [.val (tx g.name),.val (num g.age),.val (.list 3 (g.targets.map f9))])]⟩) (fun i=>i≤g.targets.length∧((g.targets.take i).all P6 && a2p ((g.targets.map fun r=>r.url).take i))=true) (fun i=>g.targets.length - i) 0 (Le.mk _ _ ?_ ?_) ?_ ?_
    · simp [upd,num]
    · simp [tx,num]
    · simp [a2p]
    · rintro i ⟨hi,hall⟩
      simp [num]
      refine f7 (fun h1=>?_) (fun h1=>?_)
      · have hbr:(g.targets[i]).url.length≤1048576:=hb.2.2 _ (List.getElem_mem h1)
        have hst:(g.targets.take (i+1)).all P6=((g.targets.take i).all P6 && P6 g.targets[i]):=S4 _ _ _ h1
        have hst2:=a34 (g.targets.map fun r=>r.url) i (by simpa using h1)
        simp only [List.getElem_map] at hst2
        have H0:=b9j g i h1
        have hself:=b2h (fun r:LTarget=>r.url) g.targets i h1
        rw [Bool.and_eq_true] at hall
        rw [hall.1,Bool.true_and] at hst
        rw [hall.2,Bool.true_and] at hst2
        obtain ⟨r,hrk⟩:∃ r,g.targets[i]=r:=⟨_,rfl⟩
        rw [hrk] at hbr hst hst2 H0
        simp only [hrk] at hself
        have hT3:=b3q r (by omega)
        have hAt:=c_l03At g.targets r.url (by omega)
        simp [num,h1,hrk,f9,tx]
        refine l6 rfl rfl (.inl rfl) hT3 ?_
        cases hn:P6 r with
        | false=>
         have hb2:=H0 (by rw [hn];rfl)
         simp [hb2]
        | true=>
         simp [num,h1,hrk,f9,tx]
         refine l6 rfl rfl (.inl rfl) hAt ?_
         by_cases hu:r.url∈(g.targets.map fun r=>r.url).take i
         · have hb2:=H0 (by rw [decide_eq_false (fun h=>h hu),Bool.and_false])
           have hne:¬ (a1i g.targets fun x=>decide (x.url=r.url))=(i:Int):=fun h=>hself.1 h hu
           simp [num,hb2,hne]
         · have heq:=hself.2 hu
           rw [decide_eq_true hu] at hst2
           simp [num,heq]
           refine LoopNext.mk (i+1) ⟨by omega,by rw [hst,hst2,hn];rfl⟩ (by omega) (Le.mk _ _ ?_ ?_)
           · simp [num];exact wrap_i64 (by omega) (by omega)
           · simp [tx,num]
      · have e:i=g.targets.length:=by omega
        subst e
        rw [List.take_length,List.take_of_length_le (by simp)] at hall
        simp [hall]
theorem c_l03OK (g:LGroup) (hb:a2d 1048576 g):d8 Tryz.prog 170 [.val (M4 g)] (.ret (.val (.bool (a2r g))) []) []:=by
 have hnl:g.name.length≤1048576:=hb.1
 have h:=c4e g _ _ _ hb (b2v g.name (by omega)) (U4 .i64 g.age 1 100) (U4 .i64 g.targets.length 1 4)
 have q3:(1≤g.targets.length∧g.targets.length≤4)↔((1:Int)≤g.targets.length∧(g.targets.length:Int)≤4):=by omega
 unfold a2r
 rw [decide_eq_decide.2 q3]
 exact h
end Go.Proofs
end
