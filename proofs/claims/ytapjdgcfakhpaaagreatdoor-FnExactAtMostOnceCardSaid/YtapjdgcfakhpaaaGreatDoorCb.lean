/- Cb: merged out of KSk, KSm, KSw. -/
import Derived.Test.YtapjdgcfakhpaaaGreatDoorCa
import Derived.Test.YtapjdgcfakhpaaaGreatDoorAc
import Derived.Test.YtapjdgcfakhpaaaGreatDoorBa
set_option linter.unusedSectionVars false
set_option linter.unusedSimpArgs false
set_option linter.unusedVariables false
set_option maxRecDepth 100000
section
namespace Go.Proofs
open Go.PW Go.KP
attribute [local simp] RV.cells RV.one PV.cells PV.solid PV.one x6 j2 J4 I7 RV.ofCells elems PV.killL
variable [GF]
theorem c1m (t:Tx) (ht:t.length < 1099511627776):f8 Tryz.prog 189 [.val (tx t)] (.ret (Y4 (a71 t)) []) []:=by
 refine i7 mixed ok189 rfl (fun _=>rfl) ?_
 unfold ir189
 rw [b7]
 have hsm:=a84 ht
 have hp:=b3f t ht
 unfold a71
 generalize C4 t=r at *
 obtain ⟨u,b⟩:=r
 simp only at hsm ⊢
 simp [i6,j3,j9,b8,f6,tx]
 refine a6x rfl rfl (fun _=>rfl) rfl (.inl rfl) hp ?_
 simp [a40,X7,tx,num]
 cases b with
 | false=>simp [Y4,tx,bs]
 | true=>
  simp
  refine b6 rfl rfl (.inl rfl) (a6z u.scheme) ?_
  cases hw:a0f u.scheme with
  | false=>simp [Y4,tx,bs]
  | true=>
   simp
   have hs2:LUrl.Small { u with frag:=[],hasF:=false }:=⟨hsm.1,hsm.2.1,hsm.2.2.1,hsm.2.2.2.1,hsm.2.2.2.2.1,by simp,hsm.2.2.2.2.2.2⟩
   refine b6 rfl rfl (.inl rfl) (a94 { u with frag:=[],hasF:=false } hs2) ?_
   simp [Y4,tx]
theorem a6h {c:UInt8} (h:O4 c=true):a2c c=true:=by simp [a2c,h]
theorem c48 (t:Tx) (ht:t.length < 1099511627776):f8 Tryz.prog 124 [.val (tx t)] (.ret (.val (.bool (a1w t))) []) []:=by
 refine i7 mixed ok124 rfl (fun _=>rfl) ?_
 unfold ir124
 rw [b7]
 simp [i6,j3,j9,b8,f6,tx,b9]
 refine b6 rfl rfl (.inl rfl) (U6 .i64 t.length 1 24) ?_
 by_cases hlen:1≤t.length∧t.length≤24
 rotate_left
 · rw [show decide ((1:Int)≤t.length∧(t.length:Int)≤24)=false from decide_eq_false (by omega)]
   have:a1w t=false:=by unfold a1w;rw [decide_eq_false hlen];rfl
   simp [this]
 rw [show decide ((1:Int)≤t.length∧(t.length:Int)≤24)=true from decide_eq_true (by omega)]
 have hw:a1w t=X8 O4 a2c t:=by unfold a1w;rw [decide_eq_true hlen];rfl
 simp
 refine l3 (X:=Nat) (fun i=>⟨x5 [(0,.val (.str (bs t))),(3,.val (.int .i64 i))],x4 []⟩) (fun i=>i≤t.length∧X8 O4 a2c (t.take i)=true) (fun i=>t.length - i) 0 (Le.mk _ _ ?_ ?_) ?_ ?_
 · simp [upd]
 · simp
 · simp [X8]
 · rintro i ⟨hi,hall⟩
   simp [b9,j6]
   refine j1 (fun h3=>?_) (fun h3=>?_)
   · have hstep:=a2t (p:=O4) (q:=a2c) (fun _ h=>a6h h) t i h3
     rw [hall,Bool.true_and] at hstep
     have C2:=a1z (p:=O4) (q:=a2c) t i h3
     have e1:((t[i].toNat:Int) < 97)↔t[i].toNat < 97:=by omega
     have e2:((122:Int) < t[i].toNat)↔122 < t[i].toNat:=by omega
     have e3:((t[i].toNat:Int)=45)↔t[i].toNat=45:=by omega
     have hgood:(if i=0 then O4 t[i] else a2c t[i])=true→∀ st':St,st'.env 0=.val (.str (bs t))→st'.env 3=.val (.int .i64 (IntKind.i64.wrap ((i:Int)+1))) →
      ∃ x',(x'≤t.length∧X8 O4 a2c (t.take x')=true)∧t.length - x' < t.length - i∧Le st' ⟨x5 [(0,.val (.str (bs t))),(3,.val (.int .i64 (x':Int)))],x4 []⟩:=fun hg st' q1 q2=>by
      refine ⟨i+1,⟨by omega,by rw [hstep,hg]⟩,by omega,Le.mk _ _ ?_ ?_⟩
      · simp [q1,q2];exact wrap_i64 (by omega) (by omega)
      · simp
     have hres:(if i=0 then O4 t[i] else a2c t[i])=false→a1w t=false:=fun h=>by rw [hw];exact C2 h
     by_cases a4:i=0
     · rw [if_pos a4] at hgood hres
       by_cases a1:t[i].toNat < 97
       · have hr:=hres (by simp [O4];omega)
         by_cases a3:t[i].toNat=45
         · simp [b9,j6,h3,e1,e3,a1,a3,(eq_true a4:(i=0)=True),hr]
         · simp [b9,j6,h3,e1,e3,a1,a3,hr]
       · by_cases a2:122 < t[i].toNat
         · have hr:=hres (by simp [O4];omega)
           have a3:¬ t[i].toNat=45:=by omega
           simp [b9,j6,h3,e1,e2,e3,a1,a2,a3,hr]
         · simp [b9,j6,h3,e1,e2,e3,a1,a2]
           exact hgood (by simp [O4];omega) _ (by simp) (by simp)
     · rw [if_neg a4] at hgood hres
       by_cases a1:t[i].toNat < 97
       · by_cases a3:t[i].toNat=45
         · simp [b9,j6,h3,e1,e3,a1,a3,a4]
           exact hgood (by simp [a2c,a3]) _ (by simp) (by simp)
         · have hr:=hres (by simp [a2c,O4,a3];omega)
           simp [b9,j6,h3,e1,e3,a1,a3,hr]
       · by_cases a2:122 < t[i].toNat
         · have a3:¬ t[i].toNat=45:=by omega
           have hr:=hres (by simp [a2c,O4,a3];omega)
           simp [b9,j6,h3,e1,e2,e3,a1,a2,a3,hr]
         · simp [b9,j6,h3,e1,e2,e3,a1,a2]
           exact hgood (by simp [a2c,O4];omega) _ (by simp) (by simp)
   · have e:i=t.length:=by omega
     subst e
     rw [List.take_length] at hall
     simp [hw,hall]
theorem c1l (c:UInt8):f8 Tryz.prog 188 [.val (rvb c)] (.ret (.val (.bool (decide (c.toNat=32∨c.toNat=9)))) []) []:=by
 refine i7 mixed ok188 rfl (fun _=>rfl) ?_
 unfold ir188
 rw [b7]
 have e1:((c.toNat:Int)=32)↔c.toNat=32:=by omega
 have e2:((c.toNat:Int)=9)↔c.toNat=9:=by omega
 by_cases h1:c.toNat=32<;>by_cases h2:c.toNat=9<;>simp [i6,j3,j9,b8,f6,rvb,e1,e2,h1,h2]
def a2j (c:UInt8):Bool:=!decide (c.toNat=32∨c.toNat=9∨c.toNat=59)
theorem a7z (w:Tx):Z4 w=(decide (w≠[]) && w.all a2j):=rfl
theorem c47 (t:Tx) (ht:t.length < 1099511627776):f8 Tryz.prog 126 [.val (tx t)] (.ret (.val (.bool (Z4 t))) []) []:=by
 refine i7 mixed ok126 rfl (fun _=>rfl) ?_
 unfold ir126
 rw [b7]
 simp [i6,j3,j9,b8,f6,tx,b9]
 refine l3 (X:=Nat) (fun i=>⟨x5 [(0,.val (.str (bs t))),(3,.val (.int .i64 i))],x4 []⟩) (fun i=>i≤t.length∧(t.take i).all a2j=true) (fun i=>t.length - i) 0 (Le.mk _ _ ?_ ?_) ?_ ?_
 · simp [upd]
 · simp
 · simp
 · rintro i ⟨hi,hall⟩
   simp [b9,j6]
   refine j1 (fun h3=>?_) (fun h3=>?_)
   · have hstep:=S0 t a2j i h3
     rw [hall,Bool.true_and] at hstep
     have C2:a2j t[i]=false→Z4 t=false:=fun h=>by
      rw [a7z]
      have:t.all a2j=false:=by rw [List.all_eq_false];exact ⟨t[i],List.getElem_mem h3,by simp [h]⟩
      rw [this,Bool.and_false]
     have e3:((t[i].toNat:Int)=59)↔t[i].toNat=59:=by omega
     simp [b9,j6,h3]
     refine b6 rfl rfl (.inl rfl) (c1l t[i]) ?_
     by_cases a1:t[i].toNat=32∨t[i].toNat=9
     · have hb:=C2 (by unfold a2j;simp;omega)
       rw [decide_eq_true a1]
       simp [hb]
     · rw [decide_eq_false a1]
       by_cases a2:t[i].toNat=59
       · have hb:=C2 (by unfold a2j;simp;omega)
         simp [b9,j6,h3,a2,hb]
       · simp [b9,j6,h3,e3,a2]
         refine LoopNext.mk (i+1) ⟨by omega,by rw [hstep];unfold a2j;simp;omega⟩ (by omega) (Le.mk _ _ ?_ ?_)
         · simp;exact wrap_i64 (by omega) (by omega)
         · simp
   · have e:i=t.length:=by omega
     subst e
     rw [List.take_length] at hall
     rw [a7z,hall,Bool.and_true]
     by_cases h0:t=[]
     · subst h0;simp [b9]
     · have:0 < t.length:=List.length_pos_iff.2 h0
       simp [b9,h0,this]
theorem b6n (l:List LRule) (name:Tx) (hl:l.length < 1099511627776):f8 Tryz.prog 125 [.val (.list 2 (l.map l4)),.val (tx name)] (.ret (.val (num (a0v l fun r=>decide (r.name=name)))) []) []:=by
 refine i7 mixed ok125 rfl (fun _=>rfl) ?_
 unfold ir125
 rw [b7]
 simp [i6,j3,j9,b8,f6,num]
 refine l3 (X:=Nat) (fun i=>⟨x5 [(0,.val (.list 2 (l.map l4))),(1,.val (tx name)),(5,.val (num i))],x4 []⟩) (fun i=>i≤l.length∧∀ k (hk:k < i) (hk':k < l.length),l[k].name≠name) (fun i=>l.length - i) 0 (Le.mk _ _ ?_ ?_) ?_ ?_
 · simp [upd,num]
 · simp
 · simp
 · rintro i ⟨hi,hne⟩
   simp [num]
   refine j1 (fun h1=>?_) (fun h1=>?_)
   · have e1:(l.map l4)[i]?.getD .nilptr=l4 l[i]:=by simp [List.getElem?_eq_getElem h1]
     simp [num,h1,e1,l4,tx,I6]
     by_cases hu:l[i].name=name
     · have hh:a0v l (fun r=>decide (r.name=name))=i:=Z6 h1 (by simp [hu]) (fun k hk=>by simp [hne k hk (by omega)])
       simp [hu,hh,num]
     · simp [hu]
       refine LoopNext.mk (i+1) ⟨by omega,fun k hk hk'=>?_⟩ (by omega) (Le.mk _ _ ?_ ?_)
       · by_cases e:k=i
         · subst e;exact hu
         · exact hne k (by omega) hk'
       · simp [num,tx];exact wrap_i64 (by omega) (by omega)
       · simp
   · have e:i=l.length:=by omega
     have hh:a0v l (fun r=>decide (r.name=name))=-1:=Y3 (fun k hk=>by simp [hne k (by omega) hk])
     simp [hh,num]
theorem b82 (l:List Tx) (t:Tx) (hl:l.length < 1099511627776):f8 Tryz.prog 190 [.val (.list 1 (l.map tx)),.val (tx t)] (.ret (.val (.bool (decide (t∈l)))) []) []:=by
 refine i7 mixed ok190 rfl (fun _=>rfl) ?_
 unfold ir190
 rw [b7]
 simp [i6,j3,j9,b8,f6,num]
 refine l3 (X:=Nat) (fun i=>⟨x5 [(0,.val (.list 1 (l.map tx))),(1,.val (tx t)),(5,.val (num i))],x4 []⟩) (fun i=>i≤l.length∧t∉l.take i) (fun i=>l.length - i) 0 (Le.mk _ _ ?_ ?_) ?_ ?_
 · simp [upd,num]
 · simp
 · simp
 · rintro i ⟨hi,hne⟩
   simp [num]
   refine j1 (fun h1=>?_) (fun h1=>?_)
   · have e1:(l.map tx)[i]?.getD .nilptr=tx l[i]:=by simp [List.getElem?_eq_getElem h1]
     simp [num,h1,e1,tx,I6]
     by_cases hu:l[i]=t
     · have:t∈l:=by rw [← hu];exact List.getElem_mem h1
       simp [hu,this]
     · simp [hu]
       refine LoopNext.mk (i+1) ⟨by omega,?_⟩ (by omega) (Le.mk _ _ ?_ ?_)
       · rw [List.take_add_one,List.getElem?_eq_getElem h1,List.mem_append]
         rintro (e | e)
         · exact hne e
         · exact hu (by simpa using e:t=l[i]).symm
       · simp [num,tx];exact wrap_i64 (by omega) (by omega)
       · simp
   · have e:i=l.length:=by omega
     subst e
     rw [List.take_length] at hne
     simp [hne]
theorem b3h (a b:List Tx) (ha:a.length < 1099511627776) (hb:b.length < 1099511627776):f8 Tryz.prog 128 [.val (.list 1 (a.map tx)),.val (.list 1 (b.map tx))] (.ret (.val (.bool (decide (a=b)))) []) []:=by
 refine i7 mixed ok128 rfl (fun _=>rfl) ?_
 unfold ir128
 rw [b7]
 by_cases hlen:a.length=b.length
 rotate_left
 · have h1:¬ (a.length:Int)=b.length:=by omega
   have h2:a≠b:=fun e=>hlen (by rw [e])
   simp [i6,j3,j9,b8,f6,h1,h2]
 simp [i6,j3,j9,b8,f6,num,hlen]
 refine l3 (X:=Nat) (fun i=>⟨x5 [(0,.val (.list 1 (a.map tx))),(1,.val (.list 1 (b.map tx))),(5,.val (num i))],x4 []⟩) (fun i=>i≤a.length∧a.take i=b.take i) (fun i=>a.length - i) 0 (Le.mk _ _ ?_ ?_) ?_ ?_
 · simp [upd,num]
 · simp
 · simp
 · rintro i ⟨hi,heq⟩
   simp [num]
   refine j1 (fun h1=>?_) (fun h1=>?_)
   · have h1b:i < b.length:=by omega
     have e1:(a.map tx)[i]?.getD .nilptr=tx a[i]:=by simp [List.getElem?_eq_getElem h1]
     have e2:(b.map tx)[i]?.getD .nilptr=tx b[i]:=by simp [List.getElem?_eq_getElem h1b]
     simp [num,h1,h1b,e1,e2,tx,I6]
     by_cases hu:a[i]=b[i]
     · simp [hu]
       refine LoopNext.mk (i+1) ⟨by omega,?_⟩ (by omega) (Le.mk _ _ ?_ ?_)
       · rw [List.take_add_one,List.take_add_one,List.getElem?_eq_getElem h1,List.getElem?_eq_getElem h1b,heq,hu]
       · simp [num,tx];exact wrap_i64 (by omega) (by omega)
       · simp
     · have h2:a≠b:=fun e=>hu (by subst e;rfl)
       simp [hu,h2]
   · have e:i=a.length:=by omega
     subst e
     rw [List.take_length,hlen,List.take_length] at heq
     simp [heq]
end Go.Proofs
end
section
namespace Go.Proofs
open Go.PW Go.KP
attribute [local simp] RV.cells RV.one PV.cells PV.solid PV.one x6 j2 J4 I7 RV.ofCells elems PV.killL
variable [GF]
structure MK (st:St) (rules:List LRule) (rt:Tx) (acc:List Tx):Prop where
 e0:st.env 0=.val (.list 2 (rules.map l4))
 e2:st.env 2=.ptr 2 0
 e3:st.env 3=.ptr 3 0
 m2:st.mem 2=.box [.val (tx []),.emp 1,.emp 2]
 m3:st.mem 3=.box [.val (tx rt),.own 9,.val (.list 2 (rules.map l4))]
 m9:st.mem 9=.row 9 1 (acc.map tx)
theorem b2e (rules:List LRule) (rt:Tx) (acc:List Tx) (st:St) (h:MK st rules rt acc):EC Tryz.prog ir127_from4 st (K:=⟨a1n [.c 2 true 3] (.val (l8 ⟨rt,acc,rules⟩))⟩):=by
 unfold ir127_from4
 simp [h.e2,h.e3,h.m2,h.m3,h.m9,tx]
 refine (b5c (id:=2) (n:=3) (cs:=[.val (tx rt),.own 9,.val (.list 2 (rules.map l4))]) (rs:=[tx rt,.list 1 (acc.map tx),.list 2 (rules.map l4)]) ?_ ?_ ?_ rfl (by omega)).trans ?_
 · simp [h.e2]
 · simp
   rfl
 · simp [PV.frzL,PV.frz,PV.plL,PV.pl,a00,h.m9,tx]
 · simp [J4,j2,l8]
theorem a5h (rules:List LRule) (hr:bdS 1048576 (a0d 1048576) rules) (rt:Tx) (st:St) (h:MK st rules rt []):EC Tryz.prog ir127_from3 st (K:=⟨a1n [.c 2 true 3] (.val (l8 ⟨rt,a2n rules,rules⟩))⟩):=by
 unfold ir127_from3
 have hrl:=hr.1
 simp [h.e0,h.e2,h.e3,h.m2,h.m3,h.m9]
 refine b6 rfl rfl (.inl rfl) (b6n rules a06 (by omega)) ?_
 rcases a9x rules (fun r=>decide (r.name=a06)) with ⟨k1,k2⟩ | ⟨k,hk,k1,k2⟩
 · rw [k1]
   have e:a2n rules=[]:=by unfold a2n W6;rw [k2];rfl
   rw [e]
   simp [num]
   refine b2e rules rt [] _ ⟨?_,?_,?_,?_,?_,?_⟩<;>simp [h.e0,h.e2,h.e3,h.m2,h.m3,h.m9]
 · rw [k1]
   have e:a2n rules=rules[k].words.foldl R2 []:=by unfold a2n W6;rw [k2]
   rw [e]
   have hb:=(hr.2 _ (List.getElem_mem hk)).2
   obtain ⟨r,hrk⟩:∃ r,rules[k]=r:=⟨_,rfl⟩
   rw [hrk] at hb k2 ⊢
   have hwl:=hb.1
   simp [num]
   refine l3 (X:=Nat) (fun i=>⟨x5 [(0,.val (.list 2 (rules.map l4))),(2,.ptr 2 0),(3,.ptr 3 0),(5,.val (num k)),(6,.val (num i))],x4 [(2,.box [.val (tx []),.emp 1,.emp 2]),(3,.box [.val (tx rt),.own 9,.val (.list 2 (rules.map l4))]),(9,.row 9 1 (((r.words.take i).foldl R2 []).map tx))]⟩) (fun i=>i≤r.words.length) (fun i=>r.words.length - i) 0 (Le.mk _ _ ?_ ?_) ?_ ?_
   · simp [upd,num,h.e0,h.e2,h.e3]
   · simp [h.m2,h.m3,h.m9]
   · simp
   · intro i hi
     simp [num,hk,hrk,l4]
     refine j1 (fun h1=>?_) (fun h1=>?_)
     · have e1:(r.words.map tx)[i]?.getD .nilptr=tx r.words[i]:=by simp [List.getElem?_eq_getElem h1]
       have hwi:r.words[i].length≤1048576:=hb.2 _ (List.getElem_mem h1)
       have hst:=a5y R2 [] r.words i h1
       have hal:((r.words.take i).foldl R2 []).length≤4:=a57 _ _ (by simp)
       generalize (r.words.take i).foldl R2 []=acc at *
       simp [num,hk,hrk,l4,h1,e1,tx]
       refine a6x rfl rfl (fun _=>rfl) rfl (.inl rfl) (c1m r.words[i] (by omega)) ?_
       cases hc:a71 r.words[i] with
       | none=>
        have hu:R2 acc r.words[i]=acc:=by unfold R2;rw [hc]
        rw [hu] at hst
        simp [Y4]
        refine LoopNext.mk (i+1) (by omega) (by omega) (Le.mk _ _ ?_ ?_)
        · simp [num];exact wrap_i64 (by omega) (by omega)
        · simp [hst,tx]
       | some u=>
        simp [Y4]
        refine b6 rfl rfl (.inr rfl) (b82 acc u (by omega)) ?_
        by_cases hm:u∈acc
        · have hu:R2 acc r.words[i]=acc:=by unfold R2;rw [hc];simp [hm]
          rw [hu] at hst
          simp [hm]
          refine LoopNext.mk (i+1) (by omega) (by omega) (Le.mk _ _ ?_ ?_)
          · simp [num];exact wrap_i64 (by omega) (by omega)
          · simp [hst,tx]
        · by_cases h4:acc.length < 4
          · have hu:R2 acc r.words[i]=acc++[u]:=by unfold R2;rw [hc];simp [hm,h4]
            rw [hu] at hst
            have h4':(acc.length:Int) < 4:=by omega
            simp [hm,h4,h4',tx]
            refine ⟨by omega,by omega,LoopNext.mk (i+1) (by omega) (by omega) (Le.mk _ _ ?_ ?_)⟩
            · simp [num];exact wrap_i64 (by omega) (by omega)
            · simp [hst,tx]
          · have hu:R2 acc r.words[i]=acc:=by unfold R2;rw [hc];simp [h4]
            rw [hu] at hst
            have h4':¬ (acc.length:Int) < 4:=by omega
            simp [hm,h4,h4']
            refine LoopNext.mk (i+1) (by omega) (by omega) (Le.mk _ _ ?_ ?_)
            · simp [num];exact wrap_i64 (by omega) (by omega)
            · simp [hst,tx]
     · have e9:i=r.words.length:=by omega
       subst e9
       simp
       refine b2e rules rt _ _ ⟨?_,?_,?_,?_,?_,?_⟩<;>simp
theorem c49 (rules:List LRule) (hr:bdS 1048576 (a0d 1048576) rules):f8 Tryz.prog 127 [.val (.list 2 (rules.map l4))] (.ret (.val (l8 ⟨a2o rules,a2n rules,rules⟩)) []) []:=by
 refine i7 mixed ok127 rfl (fun _=>rfl) ?_
 unfold ir127
 rw [b7]
 have hrl:=hr.1
 simp [i6,j3,j9,b8,f6,PV.kill]
 refine b6 rfl rfl (.inl rfl) (b6n rules a23 (by omega)) ?_
 rcases a9x rules (fun r=>decide (r.name=a23)) with ⟨k1,k2⟩ | ⟨k,hk,k1,k2⟩
 · rw [k1]
   have e:a2o rules=[]:=by unfold a2o W6;rw [k2];rfl
   rw [e]
   simp [num]
   refine a5h rules hr [] _ ⟨?_,?_,?_,?_,?_,?_⟩<;>simp [tx,bs]
 · rw [k1]
   have hb:=(hr.2 _ (List.getElem_mem hk)).2
   obtain ⟨r,hrk⟩:∃ r,rules[k]=r:=⟨_,rfl⟩
   rw [hrk] at hb k2
   have e0:a2o rules=a38 r.words:=by unfold a2o W6;rw [k2]
   rw [e0]
   simp [num,hk,hrk,l4]
   cases hw:r.words with
   | nil=>
    rw [show a38 []=[] from rfl]
    simp
    refine a5h rules hr [] _ ⟨?_,?_,?_,?_,?_,?_⟩<;>simp [tx,bs]
   | cons w ws=>
    have hwl:w.length≤1048576:=hb.2 w (by rw [hw];simp)
    simp [hk,hrk,l4,hw,tx]
    refine b6 rfl rfl (.inl rfl) (a95 w (by omega)) ?_
    have e1:a38 (w :: ws)=if a0z w then w else []:=rfl
    rw [e1]
    cases hlw:a0z w with
    | false=>
     rw [if_neg (by simp)]
     simp
     refine a5h rules hr [] _ ⟨?_,?_,?_,?_,?_,?_⟩<;>simp [tx,bs]
    | true=>
     rw [if_pos rfl]
     simp [hk,hrk,l4,hw,tx]
     refine a5h rules hr w _ ⟨?_,?_,?_,?_,?_,?_⟩<;>simp [tx,bs]
structure OKS (st:St) (p:LPolicy) (i:Nat):Prop where
 e1:st.env 1=.ptr 1 0
 e3:st.env 3=.val (num i)
 m1:st.mem 1=.box [.val (tx p.reportTo),.val (.list 1 (p.uris.map tx)),.val (.list 2 (p.rules.map l4))]
theorem okpol_words {K:Kx (PExit→St→Prop)} {st:St} {p:LPolicy} {i:Nat} {r:LRule} (hb:a0d 1048576 r) (h:OKS st p i) (h4:st.env 4=.ptr 4 0) (h5:st.env 5=.val (num 0)) (m4:st.mem 4=.box [.val (tx r.name),.val (.list 1 (r.words.map tx))])
 (hK:∀ st',OKS st' p i→r.words.all Z4=true→K.k .normal st') (hR:∀ st',st'.env 2=.val (.bool false)→r.words.all Z4=false→K.k .ret st') :
 EC Tryz.prog ir68_s42 st (K:=K):=by
 unfold ir68_s42
 have hwl:=hb.2.1
 simp only [B0,I1,B2,H9,B3,x1,B1,I0,p9,D1,J5,J6,l5,w5,w6,o0,B4,w9,p6,H8,A9,w8,w7,G0,G1,a1i,a1j,Option.getD_some,Option.getD_none,E7,x7,u7,F7,u6,u0,F9,u1,F8,F6,F5,K2,z8,u4,F3,z6,u3,F2,E5,F4,z7,F0,t8,z1,F1,K4,K3,E6,E8,u2,E9,A0,u5,D4,q8,E4,E3,E2,J7,y8,s8,D9,y6,q9,D8,D2,E1,y7,D6,q7,y5,D7,J9,J8,D3,y4,t7,D5,y9,t6,M3,M2,N4,M4,M8,M6,M5,N3,M7,M9,N0,N1,N2,B7,B6,B5,O5,O6,C7,I2,x8,G5,A2,N6,x2,T2,P0,N7,Q2,Q4,Q3,T3,T4,L5,L7,L6,L8,L9,P9,A4,P8,G6,G7,G8,A5,a1o,H5,A8,T0,T1,K5,O7,O8,Option.map_some,Option.map_none,G9,A6,A1,u9,G3,G4,K7,K6,Q9,Q8,M1,H6,H7,M0,Q5,Q6,K8,v7,K9,v6,P4,H4,H3,p5,Q1,Q7,L4,P5,P7,P6,A3,C8,D0,C9,l9,Q0,T7,T6,P1,L2,X5,P2,v8,H1,H2,A7,H0,n0,x9,m8,y0,m0,N5,R0,R1,B8,B9,I4,I3,G2]
 refine l3 (X:=Nat) (fun j=>⟨x5 [(1,.ptr 1 0),(3,.val (num i)),(4,.ptr 4 0),(5,.val (num j))],x4 [(1,.box [.val (tx p.reportTo),.val (.list 1 (p.uris.map tx)),.val (.list 2 (p.rules.map l4))]),(4,.box [.val (tx r.name),.val (.list 1 (r.words.map tx))])]⟩) (fun j=>j≤r.words.length∧(r.words.take j).all Z4=true) (fun j=>r.words.length - j) 0 (Le.mk _ _ ?_ ?_) ?_ ?_
 · simp [h.e1,h.e3,h4,h5]
 · simp [h.m1,m4]
 · simp
 · rintro j ⟨hj,hall⟩
   unfold ir68_l42
   simp [num]
   refine j1 (fun h1=>?_) (fun h1=>?_)
   · have e1:(r.words.map tx)[j]?.getD .nilptr=tx r.words[j]:=by simp [List.getElem?_eq_getElem h1]
     have hwj:r.words[j].length≤1048576:=hb.2.2 _ (List.getElem_mem h1)
     have hst:(r.words.take (j+1)).all Z4=((r.words.take j).all Z4 && Z4 r.words[j]):=S0 _ _ _ h1
     rw [hall,Bool.true_and] at hst
     simp [num,h1,e1,tx]
     refine b6 rfl rfl (.inl rfl) (c47 r.words[j] (by omega)) ?_
     cases hw:Z4 r.words[j] with
     | false=>
      simp
      refine hR _ (by simp) ?_
      rw [List.all_eq_false]
      exact ⟨r.words[j],List.getElem_mem h1,by simp [hw]⟩
     | true=>
      simp
      refine LoopNext.mk (j+1) ⟨by omega,by rw [hst,hw]⟩ (by omega) (Le.mk _ _ ?_ ?_)
      · simp [num];exact wrap_i64 (by omega) (by omega)
      · simp [tx]
   · have e:j=r.words.length:=by omega
     subst e
     rw [List.take_length] at hall
     simp
     refine hK _ ⟨?_,?_,?_⟩ hall<;>simp [num,tx]
theorem okpol_from3 (p:LPolicy) (hb:Z8 1048576 p) (i:Nat) (st:St) (h:OKS st p i):EC Tryz.prog ir68_from3 st (K:=⟨a1n [.t 2] (.val (.bool (decide (p.reportTo=a2o p.rules) && decide (p.uris=a2n p.rules))))⟩):=by
 unfold ir68_from3
 have hul:=hb.2.1.1
 have hl4:=a57 (W6 p.rules a06) [] (by simp)
 simp [h.e1,h.m1]
 refine b6 rfl rfl (.inl rfl) (c49 p.rules hb.2.2) ?_
 simp [l8,tx,I6,h.e1,h.m1,PV.kill]
 by_cases hr:p.reportTo=a2o p.rules
 · rw [← hr]
   simp [h.e1,h.m1,PV.kill]
   refine b6 rfl rfl (.inl rfl) (b3h p.uris (a2n p.rules) (by omega) (by unfold a2n;omega)) ?_
   simp
 · simp [hr]
theorem a83 (p:LPolicy) (h:(p.rules.all X2 && a1x (p.rules.map fun r=>r.name))=true) (h8:p.rules.length≤8):Y2 p=(decide (p.reportTo=a2o p.rules) && decide (p.uris=a2n p.rules)):=by
 unfold Y2;rw [h,decide_eq_true h8];rfl
theorem a7k (p:LPolicy) (i:Nat) (hi:i < p.rules.length) (h:(X2 p.rules[i] && decide ((p.rules[i]).name∉(p.rules.map fun r=>r.name).take i))=false):Y2 p=false:=by
 unfold Y2
 rw [Bool.and_eq_false_iff] at h
 have:(p.rules.all X2 && a1x (p.rules.map fun r=>r.name))=false:=by
  rw [Bool.and_eq_false_iff]
  rcases h with h | h
  · exact .inl (List.all_eq_false.2 ⟨_,List.getElem_mem hi,by simp [h]⟩)
  · refine .inr (b0q _ (i+1) ?_)
    rw [a28 _ i (by simpa using hi)]
    simp only [List.getElem_map]
    rw [h,Bool.and_false]
 rw [this];simp
theorem c_l04OK (p:LPolicy) (hb:Z8 1048576 p):f8 Tryz.prog 68 [.val (l8 p)] (.ret (.val (.bool (Y2 p))) []) []:=by
 refine i7 mixed ok68 rfl (fun _=>rfl) ?_
 unfold ir68
 rw [b7]
 have hrl:=hb.2.2.1
 by_cases h8:p.rules.length≤8
 rotate_left
 · have h8':(8:Int) < p.rules.length:=by omega
   have:Y2 p=false:=by unfold Y2;rw [decide_eq_false h8];rfl
   simp [i6,j3,j9,b8,f6,l8,tx,h8',this]
 have h8':¬ (8:Int) < p.rules.length:=by omega
 simp [i6,j3,j9,b8,f6,l8,tx,h8']
 refine l3 (X:=Nat) (fun i=>⟨x5 [(1,.ptr 1 0),(3,.val (num i))],x4 [(1,.box [.val (tx p.reportTo),.val (.list 1 (p.uris.map tx)),.val (.list 2 (p.rules.map l4))])]⟩) (fun i=>i≤p.rules.length∧((p.rules.take i).all X2 && a1x ((p.rules.map fun r=>r.name).take i))=true) (fun i=>p.rules.length - i) 0 (Le.mk _ _ ?_ ?_) ?_ ?_
 · simp [upd,num]
 · simp [tx]
 · simp [a1x]
 · rintro i ⟨hi,hall⟩
   unfold ir68_l11
   simp [num]
   refine j1 (fun h1=>?_) (fun h1=>?_)
   · have hbr:=hb.2.2.2 _ (List.getElem_mem h1)
     have hst:(p.rules.take (i+1)).all X2=((p.rules.take i).all X2 && X2 p.rules[i]):=S0 _ _ _ h1
     have hst2:=a28 (p.rules.map fun r=>r.name) i (by simpa using h1)
     simp only [List.getElem_map] at hst2
     have C2:=a7k p i h1
     have hself:=a9w (fun r:LRule=>r.name) p.rules i h1
     rw [Bool.and_eq_true] at hall
     rw [hall.1,Bool.true_and] at hst
     rw [hall.2,Bool.true_and] at hst2
     obtain ⟨r,hrk⟩:∃ r,p.rules[i]=r:=⟨_,rfl⟩
     rw [hrk] at hbr hst hst2 C2
     simp only [hrk] at hself
     have hnl:r.name.length≤1048576:=hbr.1
     have hwl:r.words.length≤1048576:=hbr.2.1
     simp [num,h1,hrk,l4,tx,PV.kill]
     refine b6 rfl rfl (.inl rfl) (c48 r.name (by omega)) ?_
     cases hn:a1w r.name with
     | false=>
      have hb2:=C2 (by unfold X2;rw [hn];rfl)
      simp [hb2]
     | true=>
      simp [num,h1,hrk,l4,tx,PV.kill]
      refine b6 rfl rfl (.inl rfl) (b6n p.rules r.name (by omega)) ?_
      by_cases hu:r.name∈(p.rules.map fun r=>r.name).take i
      · have hb2:=C2 (by rw [decide_eq_false (fun h=>h hu),Bool.and_false])
        have hne:¬ (a0v p.rules fun x=>decide (x.name=r.name))=(i:Int):=fun h=>hself.1 h hu
        simp [num,hb2,hne]
      · have heq:=hself.2 hu
        rw [decide_eq_true hu] at hst2
        by_cases hw8:r.words.length≤8
        rotate_left
        · have hb2:=C2 (by unfold X2;rw [decide_eq_false hw8];simp)
          have hw8':(8:Int) < r.words.length:=by omega
          simp [num,hb2,heq,hw8']
        · have hw8':¬ (8:Int) < r.words.length:=by omega
          simp [num,heq,hw8',PV.kill]
          refine okpol_words (p:=p) (i:=i) (r:=r) hbr ⟨?_,?_,?_⟩ ?_ ?_ ?_ (fun st' hs hall2=>?_) (fun st' h2 hall2=>?_)
          · simp
          · simp [num]
          · simp [tx]
          · simp
          · simp [num]
          · simp [tx]
          · have hok:X2 r=true:=by unfold X2;rw [hn,decide_eq_true hw8,hall2];rfl
            simp [hs.e1,hs.e3,num]
            refine LoopNext.mk (i+1) ⟨by omega,by rw [hst,hst2,hok];rfl⟩ (by omega) (Le.mk _ _ ?_ ?_)
            · simp [num,hs.e1];exact wrap_i64 (by omega) (by omega)
            · simp [hs.m1]
          · have hb2:=C2 (by unfold X2;rw [hall2];simp)
            simp [h2,hb2]
   · have e:i=p.rules.length:=by omega
     subst e
     rw [List.take_length,List.take_of_length_le (by simp)] at hall
     rw [a83 p hall h8]
     simp
     refine okpol_from3 p hb p.rules.length _ ⟨?_,?_,?_⟩<;>simp [num,tx]
end Go.Proofs
end
section
namespace Go.Proofs
open Go.PW Go.KP
attribute [local simp] RV.cells RV.one PV.cells PV.solid PV.one x6 j2 J4 I7 RV.ofCells elems PV.killL
variable [GF]
theorem c_l03At (l:List LTarget) (name:Tx) (hl:l.length < 1099511627776):f8 Tryz.prog 232 [.val (.list 3 (l.map j4)),.val (tx name)] (.ret (.val (num (a0v l fun r=>decide (r.url=name)))) []) []:=by
 refine i7 mixed ok232 rfl (fun _=>rfl) ?_
 unfold ir232
 rw [b7]
 simp [i6,j3,j9,b8,f6,num]
 refine l3 (X:=Nat) (fun i=>⟨x5 [(0,.val (.list 3 (l.map j4))),(1,.val (tx name)),(5,.val (num i))],x4 []⟩) (fun i=>i≤l.length∧∀ k (hk:k < i) (hk':k < l.length),l[k].url≠name) (fun i=>l.length - i) 0 (Le.mk _ _ ?_ ?_) ?_ ?_
 · simp [upd,num]
 · simp
 · simp
 · rintro i ⟨hi,hne⟩
   simp [num]
   refine j1 (fun h1=>?_) (fun h1=>?_)
   · have e1:(l.map j4)[i]?.getD .nilptr=j4 l[i]:=by simp [List.getElem?_eq_getElem h1]
     simp [num,h1,e1,j4,tx,I6]
     by_cases hu:l[i].url=name
     · have hh:a0v l (fun r=>decide (r.url=name))=i:=Z6 h1 (by simp [hu]) (fun k hk=>by simp [hne k hk (by omega)])
       simp [hu,hh,num]
     · simp [hu]
       refine LoopNext.mk (i+1) ⟨by omega,fun k hk hk'=>?_⟩ (by omega) (Le.mk _ _ ?_ ?_)
       · by_cases e:k=i
         · subst e;exact hu
         · exact hne k (by omega) hk'
       · simp [num,tx];exact wrap_i64 (by omega) (by omega)
       · simp
   · have e:i=l.length:=by omega
     have hh:a0v l (fun r=>decide (r.url=name))=-1:=Y3 (fun k hk=>by simp [hne k (by omega) hk])
     simp [hh,num]
theorem b5u (g:LGroup) (i:Nat) (hi:i < g.targets.length) (h:(P3 g.targets[i] && decide ((g.targets[i]).url∉(g.targets.map fun r=>r.url).take i))=false):(g.targets.all P3 && a1x (g.targets.map fun t=>t.url))=false:=by
 rw [Bool.and_eq_false_iff] at h ⊢
 rcases h with h | h
 · exact .inl (List.all_eq_false.2 ⟨_,List.getElem_mem hi,by simp [h]⟩)
 · refine .inr (b0q _ (i+1) ?_)
   rw [a28 _ i (by simpa using hi)]
   simp only [List.getElem_map]
   rw [h,Bool.and_false]
theorem c0f (g:LGroup) (b1 b2 b3:Bool) (hb:a1l 1048576 g) (hW:f8 Tryz.prog 173 [.val (tx g.name)] (.ret (.val (.bool b1)) []) []) (hA:f8 Tryz.prog 108 [.val (.int .i64 g.age),.val (.int .i64 1),.val (.int .i64 100)] (.ret (.val (.bool b2)) []) [])
 (hT:f8 Tryz.prog 108 [.val (.int .i64 g.targets.length),.val (.int .i64 1),.val (.int .i64 4)] (.ret (.val (.bool b3)) []) []) :
 f8 Tryz.prog 170 [.val (I8 g)] (.ret (.val (.bool (b1 && b2 && b3 && (g.targets.all P3 && a1x (g.targets.map fun t=>t.url))))) []) []:=by
 have htl:g.targets.length≤1048576:=hb.2.1
 refine i7 mixed ok170 rfl (fun _=>rfl) ?_
 unfold ir170
 rw [b7]
 simp [i6,j3,j9,b8,f6,I8,tx,num]
 refine b6 rfl rfl (.inl rfl) hW ?_
 cases b1 with
 | false=>simp
 | true=>
  simp [num]
  refine b6 rfl rfl (.inl rfl) hA ?_
  cases b2 with
  | false=>simp
  | true=>
   simp [num]
   refine b6 rfl rfl (.inl rfl) hT ?_
   cases b3 with
   | false=>simp
   | true=>
    simp [num]
    refine l3 (X:=Nat) (fun i=>⟨x5 [(1,.ptr 1 0),(3,.val (num i))],x4 [(1,.box [.val (tx g.name),.val (num g.age),.val (.list 3 (g.targets.map j4))])]⟩) (fun i=>i≤g.targets.length∧((g.targets.take i).all P3 && a1x ((g.targets.map fun r=>r.url).take i))=true) (fun i=>g.targets.length - i) 0 (Le.mk _ _ ?_ ?_) ?_ ?_
    · simp [upd,num]
    · simp [tx,num]
    · simp [a1x]
    · rintro i ⟨hi,hall⟩
      simp [num]
      refine j1 (fun h1=>?_) (fun h1=>?_)
      · have hbr:(g.targets[i]).url.length≤1048576:=hb.2.2 _ (List.getElem_mem h1)
        have hst:(g.targets.take (i+1)).all P3=((g.targets.take i).all P3 && P3 g.targets[i]):=S0 _ _ _ h1
        have hst2:=a28 (g.targets.map fun r=>r.url) i (by simpa using h1)
        simp only [List.getElem_map] at hst2
        have C2:=b5u g i h1
        have hself:=a9w (fun r:LTarget=>r.url) g.targets i h1
        rw [Bool.and_eq_true] at hall
        rw [hall.1,Bool.true_and] at hst
        rw [hall.2,Bool.true_and] at hst2
        obtain ⟨r,hrk⟩:∃ r,g.targets[i]=r:=⟨_,rfl⟩
        rw [hrk] at hbr hst hst2 C2
        simp only [hrk] at hself
        have hT3:=b01 r (by omega)
        have hAt:=c_l03At g.targets r.url (by omega)
        simp [num,h1,hrk,j4,tx]
        refine p7 rfl rfl (.inl rfl) hT3 ?_
        cases hn:P3 r with
        | false=>
         have hb2:=C2 (by rw [hn];rfl)
         simp [hb2]
        | true=>
         simp [num,h1,hrk,j4,tx]
         refine p7 rfl rfl (.inl rfl) hAt ?_
         by_cases hu:r.url∈(g.targets.map fun r=>r.url).take i
         · have hb2:=C2 (by rw [decide_eq_false (fun h=>h hu),Bool.and_false])
           have hne:¬ (a0v g.targets fun x=>decide (x.url=r.url))=(i:Int):=fun h=>hself.1 h hu
           simp [num,hb2,hne]
         · have heq:=hself.2 hu
           rw [decide_eq_true hu] at hst2
           simp [num,heq]
           refine LoopNext.mk (i+1) ⟨by omega,by rw [hst,hst2,hn];rfl⟩ (by omega) (Le.mk _ _ ?_ ?_)
           · simp [num];exact wrap_i64 (by omega) (by omega)
           · simp [tx,num]
      · have e:i=g.targets.length:=by omega
        subst e
        rw [List.take_length,List.take_of_length_le (by simp)] at hall
        simp [hall]
theorem c_l03OK (g:LGroup) (hb:a1l 1048576 g):f8 Tryz.prog 170 [.val (I8 g)] (.ret (.val (.bool (a2p g))) []) []:=by
 have hnl:g.name.length≤1048576:=hb.1
 have h:=c0f g _ _ _ hb (a95 g.name (by omega)) (U6 .i64 g.age 1 100) (U6 .i64 g.targets.length 1 4)
 have q3:(1≤g.targets.length∧g.targets.length≤4)↔((1:Int)≤g.targets.length∧(g.targets.length:Int)≤4):=by omega
 unfold a2p
 rw [decide_eq_decide.2 q3]
 exact h
end Go.Proofs
end
