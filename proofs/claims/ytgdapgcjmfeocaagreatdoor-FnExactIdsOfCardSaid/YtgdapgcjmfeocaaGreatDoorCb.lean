/- Cb: merged out of KSk, KSm, KSw. -/
import Derived.Test.YtgdapgcjmfeocaaGreatDoorCa
import Derived.Test.YtgdapgcjmfeocaaGreatDoorAc
import Derived.Test.YtgdapgcjmfeocaaGreatDoorBa
set_option linter.unusedSectionVars false
set_option linter.unusedSimpArgs false
set_option linter.unusedVariables false
set_option maxRecDepth 100000
section
namespace Go.Proofs
open Go.PW Go.KP
attribute [local simp] RV.cells RV.one PV.cells PV.solid PV.one im ao kh ke RV.ofCells elems PV.killL
variable [GF]
theorem Rt (t:Tx) (ht:t.length < 1099511627776):ag Tryz.prog 148 [.val (tx t)] (.ret (o7 (Bz t)) []) []:=by
 refine aj mixed ok148 rfl (fun _=>rfl) ?_
 unfold ir148
 rw [aa]
 have hsm:=C6 ht
 have hp:=H8 t ht
 unfold Bz
 generalize jd t=r at *
 obtain ⟨u,b⟩:=r
 simp only at hsm ⊢
 simp [ah,am,ax,ac,af,tx]
 refine Ai rfl rfl (fun _=>rfl) rfl (.inl rfl) hp ?_
 simp [xz,oq,tx,num]
 cases b with
 | false=>simp [o7,tx,bs]
 | true=>
  simp
  refine ab rfl rfl (.inl rfl) (Aj u.scheme) ?_
  cases hw:qf u.scheme with
  | false=>simp [o7,tx,bs]
  | true=>
   simp
   have hs2:LUrl.Small { u with frag:=[],hasF:=false }:=⟨hsm.1,hsm.2.1,hsm.2.2.1,hsm.2.2.2.1,hsm.2.2.2.2.1,by simp,hsm.2.2.2.2.2.2⟩
   refine ab rfl rfl (.inl rfl) (Ed { u with frag:=[],hasF:=false } hs2) ?_
   simp [o7,tx]
theorem zr {c:UInt8} (h:lz c=true):tt c=true:=by simp [tt,h]
theorem U6 (t:Tx) (ht:t.length < 1099511627776):ag Tryz.prog 107 [.val (tx t)] (.ret (.val (.bool (su t))) []) []:=by
 refine aj mixed ok107 rfl (fun _=>rfl) ?_
 unfold ir107
 rw [aa]
 simp [ah,am,ax,ac,af,tx,ae]
 refine ab rfl rfl (.inl rfl) (nh .i64 t.length 1 24) ?_
 by_cases hlen:1≤t.length∧t.length≤24
 rotate_left
 · rw [show decide ((1:Int)≤t.length∧(t.length:Int)≤24)=false from decide_eq_false (by omega)]
   have:su t=false:=by unfold su;rw [decide_eq_false hlen];rfl
   simp [this]
 rw [show decide ((1:Int)≤t.length∧(t.length:Int)≤24)=true from decide_eq_true (by omega)]
 have hw:su t=ox lz tt t:=by unfold su;rw [decide_eq_true hlen];rfl
 simp
 refine ay (X:=Nat) (fun i=>⟨co [(0,.val (.str (bs t))),(3,.val (.int .i64 i))],cu []⟩) (fun i=>i≤t.length∧ox lz tt (t.take i)=true) (fun i=>t.length - i) 0 (Le.mk _ _ ?_ ?_) ?_ ?_
 · simp [upd]
 · simp
 · simp [ox]
 · rintro i ⟨hi,hall⟩
   simp [ae,ar]
   refine ak (fun h3=>?_) (fun h3=>?_)
   · have hstep:=uj (p:=lz) (q:=tt) (fun _ h=>zr h) t i h3
     rw [hall,Bool.true_and] at hstep
     have iq:=td (p:=lz) (q:=tt) t i h3
     have e1:((t[i].toNat:Int) < 97)↔t[i].toNat < 97:=by omega
     have e2:((122:Int) < t[i].toNat)↔122 < t[i].toNat:=by omega
     have e3:((t[i].toNat:Int)=45)↔t[i].toNat=45:=by omega
     have hgood:(if i=0 then lz t[i] else tt t[i])=true→∀ st':St,st'.env 0=.val (.str (bs t))→st'.env 3=.val (.int .i64 (IntKind.i64.wrap ((i:Int)+1))) →
      ∃ x',(x'≤t.length∧ox lz tt (t.take x')=true)∧t.length - x' < t.length - i∧Le st' ⟨co [(0,.val (.str (bs t))),(3,.val (.int .i64 (x':Int)))],cu []⟩:=fun hg st' q1 q2=>by
      refine ⟨i+1,⟨by omega,by rw [hstep,hg]⟩,by omega,Le.mk _ _ ?_ ?_⟩
      · simp [q1,q2];exact wrap_i64 (by omega) (by omega)
      · simp
     have hres:(if i=0 then lz t[i] else tt t[i])=false→su t=false:=fun h=>by rw [hw];exact iq h
     by_cases a4:i=0
     · rw [if_pos a4] at hgood hres
       by_cases a1:t[i].toNat < 97
       · have hr:=hres (by simp [lz];omega)
         by_cases a3:t[i].toNat=45
         · simp [ae,ar,h3,e1,e3,a1,a3,(eq_true a4:(i=0)=True),hr]
         · simp [ae,ar,h3,e1,e3,a1,a3,hr]
       · by_cases a2:122 < t[i].toNat
         · have hr:=hres (by simp [lz];omega)
           have a3:¬ t[i].toNat=45:=by omega
           simp [ae,ar,h3,e1,e2,e3,a1,a2,a3,hr]
         · simp [ae,ar,h3,e1,e2,e3,a1,a2]
           exact hgood (by simp [lz];omega) _ (by simp) (by simp)
     · rw [if_neg a4] at hgood hres
       by_cases a1:t[i].toNat < 97
       · by_cases a3:t[i].toNat=45
         · simp [ae,ar,h3,e1,e3,a1,a3,a4]
           exact hgood (by simp [tt,a3]) _ (by simp) (by simp)
         · have hr:=hres (by simp [tt,lz,a3];omega)
           simp [ae,ar,h3,e1,e3,a1,a3,hr]
       · by_cases a2:122 < t[i].toNat
         · have a3:¬ t[i].toNat=45:=by omega
           have hr:=hres (by simp [tt,lz,a3];omega)
           simp [ae,ar,h3,e1,e2,e3,a1,a2,a3,hr]
         · simp [ae,ar,h3,e1,e2,e3,a1,a2]
           exact hgood (by simp [tt,lz];omega) _ (by simp) (by simp)
   · have e:i=t.length:=by omega
     subst e
     rw [List.take_length] at hall
     simp [hw,hall]
theorem Rr (c:UInt8):ag Tryz.prog 147 [.val (rvb c)] (.ret (.val (.bool (decide (c.toNat=32∨c.toNat=9)))) []) []:=by
 refine aj mixed ok147 rfl (fun _=>rfl) ?_
 unfold ir147
 rw [aa]
 have e1:((c.toNat:Int)=32)↔c.toNat=32:=by omega
 have e2:((c.toNat:Int)=9)↔c.toNat=9:=by omega
 by_cases h1:c.toNat=32<;>by_cases h2:c.toNat=9<;>simp [ah,am,ax,ac,af,rvb,e1,e2,h1,h2]
def t6 (c:UInt8):Bool:=!decide (c.toNat=32∨c.toNat=9∨c.toNat=59)
theorem Bw (w:Tx):p5 w=(decide (w≠[]) && w.all t6):=rfl
theorem U5 (t:Tx) (ht:t.length < 1099511627776):ag Tryz.prog 109 [.val (tx t)] (.ret (.val (.bool (p5 t))) []) []:=by
 refine aj mixed ok109 rfl (fun _=>rfl) ?_
 unfold ir109
 rw [aa]
 simp [ah,am,ax,ac,af,tx,ae]
 refine ay (X:=Nat) (fun i=>⟨co [(0,.val (.str (bs t))),(3,.val (.int .i64 i))],cu []⟩) (fun i=>i≤t.length∧(t.take i).all t6=true) (fun i=>t.length - i) 0 (Le.mk _ _ ?_ ?_) ?_ ?_
 · simp [upd]
 · simp
 · simp
 · rintro i ⟨hi,hall⟩
   simp [ae,ar]
   refine ak (fun h3=>?_) (fun h3=>?_)
   · have hstep:=mo t t6 i h3
     rw [hall,Bool.true_and] at hstep
     have iq:t6 t[i]=false→p5 t=false:=fun h=>by
      rw [Bw]
      have:t.all t6=false:=by rw [List.all_eq_false];exact ⟨t[i],List.getElem_mem h3,by simp [h]⟩
      rw [this,Bool.and_false]
     have e3:((t[i].toNat:Int)=59)↔t[i].toNat=59:=by omega
     simp [ae,ar,h3]
     refine ab rfl rfl (.inl rfl) (Rr t[i]) ?_
     by_cases a1:t[i].toNat=32∨t[i].toNat=9
     · have hb:=iq (by unfold t6;simp;omega)
       rw [decide_eq_true a1]
       simp [hb]
     · rw [decide_eq_false a1]
       by_cases a2:t[i].toNat=59
       · have hb:=iq (by unfold t6;simp;omega)
         simp [ae,ar,h3,a2,hb]
       · simp [ae,ar,h3,e3,a2]
         refine LoopNext.mk (i+1) ⟨by omega,by rw [hstep];unfold t6;simp;omega⟩ (by omega) (Le.mk _ _ ?_ ?_)
         · simp;exact wrap_i64 (by omega) (by omega)
         · simp
   · have e:i=t.length:=by omega
     subst e
     rw [List.take_length] at hall
     rw [Bw,hall,Bool.and_true]
     by_cases h0:t=[]
     · subst h0;simp [ae]
     · have:0 < t.length:=List.length_pos_iff.2 h0
       simp [ae,h0,this]
theorem Lz (l:List LRule) (name:Tx) (hl:l.length < 1099511627776):ag Tryz.prog 108 [.val (.list 2 (l.map bk)),.val (tx name)] (.ret (.val (num (qz l fun r=>decide (r.name=name)))) []) []:=by
 refine aj mixed ok108 rfl (fun _=>rfl) ?_
 unfold ir108
 rw [aa]
 simp [ah,am,ax,ac,af,num]
 refine ay (X:=Nat) (fun i=>⟨co [(0,.val (.list 2 (l.map bk))),(1,.val (tx name)),(5,.val (num i))],cu []⟩) (fun i=>i≤l.length∧∀ k (hk:k < i) (hk':k < l.length),l[k].name≠name) (fun i=>l.length - i) 0 (Le.mk _ _ ?_ ?_) ?_ ?_
 · simp [upd,num]
 · simp
 · simp
 · rintro i ⟨hi,hne⟩
   simp [num]
   refine ak (fun h1=>?_) (fun h1=>?_)
   · have e1:(l.map bk)[i]?.getD .nilptr=bk l[i]:=by simp [List.getElem?_eq_getElem h1]
     simp [num,h1,e1,bk,tx,ka]
     by_cases hu:l[i].name=name
     · have hh:qz l (fun r=>decide (r.name=name))=i:=p7 h1 (by simp [hu]) (fun k hk=>by simp [hne k hk (by omega)])
       simp [hu,hh,num]
     · simp [hu]
       refine LoopNext.mk (i+1) ⟨by omega,fun k hk hk'=>?_⟩ (by omega) (Le.mk _ _ ?_ ?_)
       · by_cases e:k=i
         · subst e;exact hu
         · exact hne k (by omega) hk'
       · simp [num,tx];exact wrap_i64 (by omega) (by omega)
       · simp
   · have e:i=l.length:=by omega
     have hh:qz l (fun r=>decide (r.name=name))=-1:=o3 (fun k hk=>by simp [hne k (by omega) hk])
     simp [hh,num]
theorem O6 (l:List Tx) (t:Tx) (hl:l.length < 1099511627776):ag Tryz.prog 149 [.val (.list 1 (l.map tx)),.val (tx t)] (.ret (.val (.bool (decide (t∈l)))) []) []:=by
 refine aj mixed ok149 rfl (fun _=>rfl) ?_
 unfold ir149
 rw [aa]
 simp [ah,am,ax,ac,af,num]
 refine ay (X:=Nat) (fun i=>⟨co [(0,.val (.list 1 (l.map tx))),(1,.val (tx t)),(5,.val (num i))],cu []⟩) (fun i=>i≤l.length∧t∉l.take i) (fun i=>l.length - i) 0 (Le.mk _ _ ?_ ?_) ?_ ?_
 · simp [upd,num]
 · simp
 · simp
 · rintro i ⟨hi,hne⟩
   simp [num]
   refine ak (fun h1=>?_) (fun h1=>?_)
   · have e1:(l.map tx)[i]?.getD .nilptr=tx l[i]:=by simp [List.getElem?_eq_getElem h1]
     simp [num,h1,e1,tx,ka]
     by_cases hu:l[i]=t
     · have:t∈l:=by rw [← hu];exact List.getElem_mem h1
       simp [hu,this]
     · simp [hu]
       refine LoopNext.mk (i+1) ⟨by omega,?_⟩ (by omega) (Le.mk _ _ ?_ ?_)
       · rw [List.take_add_one,List.getElem?_eq_getElem h1,List.mem_append]
         rintro (e | e)
         · exact hne e
         · exact hu (by simpa using e:t=l[i]).symm
       · simp [num,tx];exact wrap_i64 (by omega) (by omega)
       · simp
   · have e:i=l.length:=by omega
     subst e
     rw [List.take_length] at hne
     simp [hne]
theorem Ia (a b:List Tx) (ha:a.length < 1099511627776) (hb:b.length < 1099511627776):ag Tryz.prog 111 [.val (.list 1 (a.map tx)),.val (.list 1 (b.map tx))] (.ret (.val (.bool (decide (a=b)))) []) []:=by
 refine aj mixed ok111 rfl (fun _=>rfl) ?_
 unfold ir111
 rw [aa]
 by_cases hlen:a.length=b.length
 rotate_left
 · have h1:¬ (a.length:Int)=b.length:=by omega
   have h2:a≠b:=fun e=>hlen (by rw [e])
   simp [ah,am,ax,ac,af,h1,h2]
 simp [ah,am,ax,ac,af,num,hlen]
 refine ay (X:=Nat) (fun i=>⟨co [(0,.val (.list 1 (a.map tx))),(1,.val (.list 1 (b.map tx))),(5,.val (num i))],cu []⟩) (fun i=>i≤a.length∧a.take i=b.take i) (fun i=>a.length - i) 0 (Le.mk _ _ ?_ ?_) ?_ ?_
 · simp [upd,num]
 · simp
 · simp
 · rintro i ⟨hi,heq⟩
   simp [num]
   refine ak (fun h1=>?_) (fun h1=>?_)
   · have h1b:i < b.length:=by omega
     have e1:(a.map tx)[i]?.getD .nilptr=tx a[i]:=by simp [List.getElem?_eq_getElem h1]
     have e2:(b.map tx)[i]?.getD .nilptr=tx b[i]:=by simp [List.getElem?_eq_getElem h1b]
     simp [num,h1,h1b,e1,e2,tx,ka]
     by_cases hu:a[i]=b[i]
     · simp [hu]
       refine LoopNext.mk (i+1) ⟨by omega,?_⟩ (by omega) (Le.mk _ _ ?_ ?_)
       · rw [List.take_add_one,List.take_add_one,List.getElem?_eq_getElem h1,List.getElem?_eq_getElem h1b,heq,hu]
       · simp [num,tx];exact wrap_i64 (by omega) (by omega)
       · simp
     · have h2:a≠b:=fun e=>hu (by subst e;rfl)
       simp [hu,h2]
   · have e:i=a.length:=by omega
     subst e
     rw [List.take_length,hlen,List.take_length] at heq
     simp [heq]
end Go.Proofs
end
section
namespace Go.Proofs
open Go.PW Go.KP
attribute [local simp] RV.cells RV.one PV.cells PV.solid PV.one im ao kh ke RV.ofCells elems PV.killL
variable [GF]
structure MK (st:St) (rules:List LRule) (rt:Tx) (acc:List Tx):Prop where
 e0:st.env 0=.val (.list 2 (rules.map bk))
 e2:st.env 2=.ptr 2 0
 e3:st.env 3=.ptr 3 0
 m2:st.mem 2=.box [.val (tx []),.emp 1,.emp 2]
 m3:st.mem 3=.box [.val (tx rt),.own 9,.val (.list 2 (rules.map bk))]
 m9:st.mem 9=.row 9 1 (acc.map tx)
theorem G4 (rules:List LRule) (rt:Tx) (acc:List Tx) (st:St) (h:MK st rules rt acc):EC Tryz.prog ir110_from4 st (K:=⟨sw [.c 2 true 3] (.val (dn ⟨rt,acc,rules⟩))⟩):=by
 unfold ir110_from4
 simp [h.e2,h.e3,h.m2,h.m3,h.m9,tx]
 refine (Kf (id:=2) (n:=3) (cs:=[.val (tx rt),.own 9,.val (.list 2 (rules.map bk))]) (rs:=[tx rt,.list 1 (acc.map tx),.list 2 (rules.map bk)]) ?_ ?_ ?_ rfl (by omega)).trans ?_
 · simp [h.e2]
 · simp
   rfl
 · simp [PV.frzL,PV.frz,PV.plL,PV.pl,rf,h.m9,tx]
 · simp [kh,ao,dn]
theorem yi (rules:List LRule) (hr:bdS 1048576 (oy 1048576) rules) (rt:Tx) (st:St) (h:MK st rules rt []):EC Tryz.prog ir110_from3 st (K:=⟨sw [.c 2 true 3] (.val (dn ⟨rt,ud rules,rules⟩))⟩):=by
 unfold ir110_from3
 have hrl:=hr.1
 simp [h.e0,h.e2,h.e3,h.m2,h.m3,h.m9]
 refine ab rfl rfl (.inl rfl) (Lz rules rm (by omega)) ?_
 rcases D1 rules (fun r=>decide (r.name=rm)) with ⟨k1,k2⟩ | ⟨k,hk,k1,k2⟩
 · rw [k1]
   have e:ud rules=[]:=by unfold ud oe;rw [k2];rfl
   rw [e]
   simp [num]
   refine G4 rules rt [] _ ⟨?_,?_,?_,?_,?_,?_⟩<;>simp [h.e0,h.e2,h.e3,h.m2,h.m3,h.m9]
 · rw [k1]
   have e:ud rules=rules[k].words.foldl l1 []:=by unfold ud oe;rw [k2]
   rw [e]
   have hb:=(hr.2 _ (List.getElem_mem hk)).2
   obtain ⟨r,hrk⟩:∃ r,rules[k]=r:=⟨_,rfl⟩
   rw [hrk] at hb k2 ⊢
   have hwl:=hb.1
   simp [num]
   refine ay (X:=Nat) (fun i=>⟨co [(0,.val (.list 2 (rules.map bk))),(2,.ptr 2 0),(3,.ptr 3 0),(5,.val (num k)),(6,.val (num i))],cu [(2,.box [.val (tx []),.emp 1,.emp 2]),(3,.box [.val (tx rt),.own 9,.val (.list 2 (rules.map bk))]),(9,.row 9 1 (((r.words.take i).foldl l1 []).map tx))]⟩) (fun i=>i≤r.words.length) (fun i=>r.words.length - i) 0 (Le.mk _ _ ?_ ?_) ?_ ?_
   · simp [upd,num,h.e0,h.e2,h.e3]
   · simp [h.m2,h.m3,h.m9]
   · simp
   · intro i hi
     simp [num,hk,hrk,bk]
     refine ak (fun h1=>?_) (fun h1=>?_)
     · have e1:(r.words.map tx)[i]?.getD .nilptr=tx r.words[i]:=by simp [List.getElem?_eq_getElem h1]
       have hwi:r.words[i].length≤1048576:=hb.2 _ (List.getElem_mem h1)
       have hst:=y5 l1 [] r.words i h1
       have hal:((r.words.take i).foldl l1 []).length≤4:=zd _ _ (by simp)
       generalize (r.words.take i).foldl l1 []=acc at *
       simp [num,hk,hrk,bk,h1,e1,tx]
       refine Ai rfl rfl (fun _=>rfl) rfl (.inl rfl) (Rt r.words[i] (by omega)) ?_
       cases hc:Bz r.words[i] with
       | none=>
        have hu:l1 acc r.words[i]=acc:=by unfold l1;rw [hc]
        rw [hu] at hst
        simp [o7]
        refine LoopNext.mk (i+1) (by omega) (by omega) (Le.mk _ _ ?_ ?_)
        · simp [num];exact wrap_i64 (by omega) (by omega)
        · simp [hst,tx]
       | some u=>
        simp [o7]
        refine ab rfl rfl (.inr rfl) (O6 acc u (by omega)) ?_
        by_cases hm:u∈acc
        · have hu:l1 acc r.words[i]=acc:=by unfold l1;rw [hc];simp [hm]
          rw [hu] at hst
          simp [hm]
          refine LoopNext.mk (i+1) (by omega) (by omega) (Le.mk _ _ ?_ ?_)
          · simp [num];exact wrap_i64 (by omega) (by omega)
          · simp [hst,tx]
        · by_cases h4:acc.length < 4
          · have hu:l1 acc r.words[i]=acc++[u]:=by unfold l1;rw [hc];simp [hm,h4]
            rw [hu] at hst
            have h4':(acc.length:Int) < 4:=by omega
            simp [hm,h4,h4',tx]
            refine ⟨by omega,by omega,LoopNext.mk (i+1) (by omega) (by omega) (Le.mk _ _ ?_ ?_)⟩
            · simp [num];exact wrap_i64 (by omega) (by omega)
            · simp [hst,tx]
          · have hu:l1 acc r.words[i]=acc:=by unfold l1;rw [hc];simp [h4]
            rw [hu] at hst
            have h4':¬ (acc.length:Int) < 4:=by omega
            simp [hm,h4,h4']
            refine LoopNext.mk (i+1) (by omega) (by omega) (Le.mk _ _ ?_ ?_)
            · simp [num];exact wrap_i64 (by omega) (by omega)
            · simp [hst,tx]
     · have e9:i=r.words.length:=by omega
       subst e9
       simp
       refine G4 rules rt _ _ ⟨?_,?_,?_,?_,?_,?_⟩<;>simp
theorem U7 (rules:List LRule) (hr:bdS 1048576 (oy 1048576) rules):ag Tryz.prog 110 [.val (.list 2 (rules.map bk))] (.ret (.val (dn ⟨ue rules,ud rules,rules⟩)) []) []:=by
 refine aj mixed ok110 rfl (fun _=>rfl) ?_
 unfold ir110
 rw [aa]
 have hrl:=hr.1
 simp [ah,am,ax,ac,af,PV.kill]
 refine ab rfl rfl (.inl rfl) (Lz rules uw (by omega)) ?_
 rcases D1 rules (fun r=>decide (r.name=uw)) with ⟨k1,k2⟩ | ⟨k,hk,k1,k2⟩
 · rw [k1]
   have e:ue rules=[]:=by unfold ue oe;rw [k2];rfl
   rw [e]
   simp [num]
   refine yi rules hr [] _ ⟨?_,?_,?_,?_,?_,?_⟩<;>simp [tx,bs]
 · rw [k1]
   have hb:=(hr.2 _ (List.getElem_mem hk)).2
   obtain ⟨r,hrk⟩:∃ r,rules[k]=r:=⟨_,rfl⟩
   rw [hrk] at hb k2
   have e0:ue rules=wl r.words:=by unfold ue oe;rw [k2]
   rw [e0]
   simp [num,hk,hrk,bk]
   cases hw:r.words with
   | nil=>
    rw [show wl []=[] from rfl]
    simp
    refine yi rules hr [] _ ⟨?_,?_,?_,?_,?_,?_⟩<;>simp [tx,bs]
   | cons w ws=>
    have hwl:w.length≤1048576:=hb.2 w (by rw [hw];simp)
    simp [hk,hrk,bk,hw,tx]
    refine ab rfl rfl (.inl rfl) (Ef w (by omega)) ?_
    have e1:wl (w :: ws)=if re w then w else []:=rfl
    rw [e1]
    cases hlw:re w with
    | false=>
     rw [if_neg (by simp)]
     simp
     refine yi rules hr [] _ ⟨?_,?_,?_,?_,?_,?_⟩<;>simp [tx,bs]
    | true=>
     rw [if_pos rfl]
     simp [hk,hrk,bk,hw,tx]
     refine yi rules hr w _ ⟨?_,?_,?_,?_,?_,?_⟩<;>simp [tx,bs]
structure OKS (st:St) (p:LPolicy) (i:Nat):Prop where
 e1:st.env 1=.ptr 1 0
 e3:st.env 3=.val (num i)
 m1:st.mem 1=.box [.val (tx p.reportTo),.val (.list 1 (p.uris.map tx)),.val (.list 2 (p.rules.map bk))]
theorem okpol_words {K:Kx (PExit→St→Prop)} {st:St} {p:LPolicy} {i:Nat} {r:LRule} (hb:oy 1048576 r) (h:OKS st p i) (h4:st.env 4=.ptr 4 0) (h5:st.env 5=.val (num 0)) (m4:st.mem 4=.box [.val (tx r.name),.val (.list 1 (r.words.map tx))])
 (hK:∀ st',OKS st' p i→r.words.all p5=true→K.k .normal st') (hR:∀ st',st'.env 2=.val (.bool false)→r.words.all p5=false→K.k .ret st') :
 EC Tryz.prog ir71_s42 st (K:=K):=by
 unfold ir71_s42
 have hwl:=hb.2.1
 simp only [dz,ia,d8,gy,d9,ck,d7,gz,bm,ew,ir,iu,au,cf,cg,bf,eb,cj,bh,gx,dy,ci,ch,f9,ga,ql,qn,Option.getD_some,Option.getD_none,fo,cq,b9,f5,b8,bv,f8,bw,f7,fz,fy,iz,dl,b6,fw,dh,bz,fv,fl,fx,di,ft,bu,dg,fu,i7,i6,fm,fp,bx,fq,dm,b7,fa,bo,fk,fj,fi,iv,dc,bq,fg,da,bp,ff,ex,fh,db,fc,bn,cz,fe,ix,iw,ez,cx,bt,fb,de,br,jq,jp,j5,jr,jv,jt,js,j4,ju,jw,jx,jy,jz,eg,ef,ed,kj,kl,ek,ib,ct,ge,dq,j7,cl,l4,ko,kf,lb,ld,lc,l5,l6,ji,jk,jj,jl,jm,k8,dt,k7,gf,gg,gh,du,qp,gu,dx,l2,l3,i8,km,kn,Option.map_some,Option.map_none,gm,dv,dp,ca,gc,gd,jc,jb,lj,li,jo,gv,gw,jn,lf,lg,je,cd,jf,cb,ku,gt,gr,bg,la,lh,jh,ky,k6,kz,dr,eq,eu,er,ba,k9,l8,l7,kq,jg,ns,kr,ce,gp,gq,dw,gn,bd,cv,bc,cw,bb,j6,lk,ll,eh,ei,ie,ic,gb]
 refine ay (X:=Nat) (fun j=>⟨co [(1,.ptr 1 0),(3,.val (num i)),(4,.ptr 4 0),(5,.val (num j))],cu [(1,.box [.val (tx p.reportTo),.val (.list 1 (p.uris.map tx)),.val (.list 2 (p.rules.map bk))]),(4,.box [.val (tx r.name),.val (.list 1 (r.words.map tx))])]⟩) (fun j=>j≤r.words.length∧(r.words.take j).all p5=true) (fun j=>r.words.length - j) 0 (Le.mk _ _ ?_ ?_) ?_ ?_
 · simp [h.e1,h.e3,h4,h5]
 · simp [h.m1,m4]
 · simp
 · rintro j ⟨hj,hall⟩
   unfold ir71_l42
   simp [num]
   refine ak (fun h1=>?_) (fun h1=>?_)
   · have e1:(r.words.map tx)[j]?.getD .nilptr=tx r.words[j]:=by simp [List.getElem?_eq_getElem h1]
     have hwj:r.words[j].length≤1048576:=hb.2.2 _ (List.getElem_mem h1)
     have hst:(r.words.take (j+1)).all p5=((r.words.take j).all p5 && p5 r.words[j]):=mo _ _ _ h1
     rw [hall,Bool.true_and] at hst
     simp [num,h1,e1,tx]
     refine ab rfl rfl (.inl rfl) (U5 r.words[j] (by omega)) ?_
     cases hw:p5 r.words[j] with
     | false=>
      simp
      refine hR _ (by simp) ?_
      rw [List.all_eq_false]
      exact ⟨r.words[j],List.getElem_mem h1,by simp [hw]⟩
     | true=>
      simp
      refine LoopNext.mk (j+1) ⟨by omega,by rw [hst,hw]⟩ (by omega) (Le.mk _ _ ?_ ?_)
      · simp [num];exact wrap_i64 (by omega) (by omega)
      · simp [tx]
   · have e:j=r.words.length:=by omega
     subst e
     rw [List.take_length] at hall
     simp
     refine hK _ ⟨?_,?_,?_⟩ hall<;>simp [num,tx]
theorem okpol_from3 (p:LPolicy) (hb:p9 1048576 p) (i:Nat) (st:St) (h:OKS st p i):EC Tryz.prog ir71_from3 st (K:=⟨sw [.t 2] (.val (.bool (decide (p.reportTo=ue p.rules) && decide (p.uris=ud p.rules))))⟩):=by
 unfold ir71_from3
 have hul:=hb.2.1.1
 have hl4:=zd (oe p.rules rm) [] (by simp)
 simp [h.e1,h.m1]
 refine ab rfl rfl (.inl rfl) (U7 p.rules hb.2.2) ?_
 simp [dn,tx,ka,h.e1,h.m1,PV.kill]
 by_cases hr:p.reportTo=ue p.rules
 · rw [← hr]
   simp [h.e1,h.m1,PV.kill]
   refine ab rfl rfl (.inl rfl) (Ia p.uris (ud p.rules) (by omega) (by unfold ud;omega)) ?_
   simp
 · simp [hr]
theorem C5 (p:LPolicy) (h:(p.rules.all ol && ta (p.rules.map fun r=>r.name))=true) (h8:p.rules.length≤8):o2 p=(decide (p.reportTo=ue p.rules) && decide (p.uris=ud p.rules)):=by
 unfold o2;rw [h,decide_eq_true h8];rfl
theorem Bh (p:LPolicy) (i:Nat) (hi:i < p.rules.length) (h:(ol p.rules[i] && decide ((p.rules[i]).name∉(p.rules.map fun r=>r.name).take i))=false):o2 p=false:=by
 unfold o2
 rw [Bool.and_eq_false_iff] at h
 have:(p.rules.all ol && ta (p.rules.map fun r=>r.name))=false:=by
  rw [Bool.and_eq_false_iff]
  rcases h with h | h
  · exact .inl (List.all_eq_false.2 ⟨_,List.getElem_mem hi,by simp [h]⟩)
  · refine .inr (Ez _ (i+1) ?_)
    rw [u1 _ i (by simpa using hi)]
    simp only [List.getElem_map]
    rw [h,Bool.and_false]
 rw [this];simp
theorem c_l04OK (p:LPolicy) (hb:p9 1048576 p):ag Tryz.prog 71 [.val (dn p)] (.ret (.val (.bool (o2 p))) []) []:=by
 refine aj mixed ok71 rfl (fun _=>rfl) ?_
 unfold ir71
 rw [aa]
 have hrl:=hb.2.2.1
 by_cases h8:p.rules.length≤8
 rotate_left
 · have h8':(8:Int) < p.rules.length:=by omega
   have:o2 p=false:=by unfold o2;rw [decide_eq_false h8];rfl
   simp [ah,am,ax,ac,af,dn,tx,h8',this]
 have h8':¬ (8:Int) < p.rules.length:=by omega
 simp [ah,am,ax,ac,af,dn,tx,h8']
 refine ay (X:=Nat) (fun i=>⟨co [(1,.ptr 1 0),(3,.val (num i))],cu [(1,.box [.val (tx p.reportTo),.val (.list 1 (p.uris.map tx)),.val (.list 2 (p.rules.map bk))])]⟩) (fun i=>i≤p.rules.length∧((p.rules.take i).all ol && ta ((p.rules.map fun r=>r.name).take i))=true) (fun i=>p.rules.length - i) 0 (Le.mk _ _ ?_ ?_) ?_ ?_
 · simp [upd,num]
 · simp [tx]
 · simp [ta]
 · rintro i ⟨hi,hall⟩
   unfold ir71_l11
   simp [num]
   refine ak (fun h1=>?_) (fun h1=>?_)
   · have hbr:=hb.2.2.2 _ (List.getElem_mem h1)
     have hst:(p.rules.take (i+1)).all ol=((p.rules.take i).all ol && ol p.rules[i]):=mo _ _ _ h1
     have hst2:=u1 (p.rules.map fun r=>r.name) i (by simpa using h1)
     simp only [List.getElem_map] at hst2
     have iq:=Bh p i h1
     have hself:=D0 (fun r:LRule=>r.name) p.rules i h1
     rw [Bool.and_eq_true] at hall
     rw [hall.1,Bool.true_and] at hst
     rw [hall.2,Bool.true_and] at hst2
     obtain ⟨r,hrk⟩:∃ r,p.rules[i]=r:=⟨_,rfl⟩
     rw [hrk] at hbr hst hst2 iq
     simp only [hrk] at hself
     have hnl:r.name.length≤1048576:=hbr.1
     have hwl:r.words.length≤1048576:=hbr.2.1
     simp [num,h1,hrk,bk,tx,PV.kill]
     refine ab rfl rfl (.inl rfl) (U6 r.name (by omega)) ?_
     cases hn:su r.name with
     | false=>
      have hb2:=iq (by unfold ol;rw [hn];rfl)
      simp [hb2]
     | true=>
      simp [num,h1,hrk,bk,tx,PV.kill]
      refine ab rfl rfl (.inl rfl) (Lz p.rules r.name (by omega)) ?_
      by_cases hu:r.name∈(p.rules.map fun r=>r.name).take i
      · have hb2:=iq (by rw [decide_eq_false (fun h=>h hu),Bool.and_false])
        have hne:¬ (qz p.rules fun x=>decide (x.name=r.name))=(i:Int):=fun h=>hself.1 h hu
        simp [num,hb2,hne]
      · have heq:=hself.2 hu
        rw [decide_eq_true hu] at hst2
        by_cases hw8:r.words.length≤8
        rotate_left
        · have hb2:=iq (by unfold ol;rw [decide_eq_false hw8];simp)
          have hw8':(8:Int) < r.words.length:=by omega
          simp [num,hb2,heq,hw8']
        · have hw8':¬ (8:Int) < r.words.length:=by omega
          simp [num,heq,hw8',PV.kill]
          refine okpol_words (p:=p) (i:=i) (r:=r) hbr ⟨?_,?_,?_⟩ ?_ ?_ ?_ (fun st' hs hall2=>?_) (fun st' h2 hall2=>?_)
          · simp
          · simp [num]
          · simp [tx]
          · simp
          · simp [num]
          · simp [tx]
          · have hok:ol r=true:=by unfold ol;rw [hn,decide_eq_true hw8,hall2];rfl
            simp [hs.e1,hs.e3,num]
            refine LoopNext.mk (i+1) ⟨by omega,by rw [hst,hst2,hok];rfl⟩ (by omega) (Le.mk _ _ ?_ ?_)
            · simp [num,hs.e1];exact wrap_i64 (by omega) (by omega)
            · simp [hs.m1]
          · have hb2:=iq (by unfold ol;rw [hall2];simp)
            simp [h2,hb2]
   · have e:i=p.rules.length:=by omega
     subst e
     rw [List.take_length,List.take_of_length_le (by simp)] at hall
     rw [C5 p hall h8]
     simp
     refine okpol_from3 p hb p.rules.length _ ⟨?_,?_,?_⟩<;>simp [num,tx]
end Go.Proofs
end
section
namespace Go.Proofs
open Go.PW Go.KP
attribute [local simp] RV.cells RV.one PV.cells PV.solid PV.one im ao kh ke RV.ofCells elems PV.killL
variable [GF]
theorem c_l03At (l:List LTarget) (name:Tx) (hl:l.length < 1099511627776):ag Tryz.prog 151 [.val (.list 3 (l.map al)),.val (tx name)] (.ret (.val (num (qz l fun r=>decide (r.url=name)))) []) []:=by
 refine aj mixed ok151 rfl (fun _=>rfl) ?_
 unfold ir151
 rw [aa]
 simp [ah,am,ax,ac,af,num]
 refine ay (X:=Nat) (fun i=>⟨co [(0,.val (.list 3 (l.map al))),(1,.val (tx name)),(5,.val (num i))],cu []⟩) (fun i=>i≤l.length∧∀ k (hk:k < i) (hk':k < l.length),l[k].url≠name) (fun i=>l.length - i) 0 (Le.mk _ _ ?_ ?_) ?_ ?_
 · simp [upd,num]
 · simp
 · simp
 · rintro i ⟨hi,hne⟩
   simp [num]
   refine ak (fun h1=>?_) (fun h1=>?_)
   · have e1:(l.map al)[i]?.getD .nilptr=al l[i]:=by simp [List.getElem?_eq_getElem h1]
     simp [num,h1,e1,al,tx,ka]
     by_cases hu:l[i].url=name
     · have hh:qz l (fun r=>decide (r.url=name))=i:=p7 h1 (by simp [hu]) (fun k hk=>by simp [hne k hk (by omega)])
       simp [hu,hh,num]
     · simp [hu]
       refine LoopNext.mk (i+1) ⟨by omega,fun k hk hk'=>?_⟩ (by omega) (Le.mk _ _ ?_ ?_)
       · by_cases e:k=i
         · subst e;exact hu
         · exact hne k (by omega) hk'
       · simp [num,tx];exact wrap_i64 (by omega) (by omega)
       · simp
   · have e:i=l.length:=by omega
     have hh:qz l (fun r=>decide (r.url=name))=-1:=o3 (fun k hk=>by simp [hne k (by omega) hk])
     simp [hh,num]
theorem K7 (g:LGroup) (i:Nat) (hi:i < g.targets.length) (h:(l0 g.targets[i] && decide ((g.targets[i]).url∉(g.targets.map fun r=>r.url).take i))=false):(g.targets.all l0 && ta (g.targets.map fun t=>t.url))=false:=by
 rw [Bool.and_eq_false_iff] at h ⊢
 rcases h with h | h
 · exact .inl (List.all_eq_false.2 ⟨_,List.getElem_mem hi,by simp [h]⟩)
 · refine .inr (Ez _ (i+1) ?_)
   rw [u1 _ i (by simpa using hi)]
   simp only [List.getElem_map]
   rw [h,Bool.and_false]
theorem Qj (g:LGroup) (b1 b2 b3:Bool) (hb:sl 1048576 g) (hW:ag Tryz.prog 115 [.val (tx g.name)] (.ret (.val (.bool b1)) []) []) (hA:ag Tryz.prog 56 [.val (.int .i64 g.age),.val (.int .i64 1),.val (.int .i64 100)] (.ret (.val (.bool b2)) []) [])
 (hT:ag Tryz.prog 56 [.val (.int .i64 g.targets.length),.val (.int .i64 1),.val (.int .i64 4)] (.ret (.val (.bool b3)) []) []) :
 ag Tryz.prog 112 [.val (ki g)] (.ret (.val (.bool (b1 && b2 && b3 && (g.targets.all l0 && ta (g.targets.map fun t=>t.url))))) []) []:=by
 have htl:g.targets.length≤1048576:=hb.2.1
 refine aj mixed ok112 rfl (fun _=>rfl) ?_
 unfold ir112
 rw [aa]
 simp [ah,am,ax,ac,af,ki,tx,num]
 refine ab rfl rfl (.inl rfl) hW ?_
 cases b1 with
 | false=>simp
 | true=>
  simp [num]
  refine ab rfl rfl (.inl rfl) hA ?_
  cases b2 with
  | false=>simp
  | true=>
   simp [num]
   refine ab rfl rfl (.inl rfl) hT ?_
   cases b3 with
   | false=>simp
   | true=>
    simp [num]
    refine ay (X:=Nat) (fun i=>⟨co [(1,.ptr 1 0),(3,.val (num i))],cu [(1,.box [.val (tx g.name),.val (num g.age),.val (.list 3 (g.targets.map al))])]⟩) (fun i=>i≤g.targets.length∧((g.targets.take i).all l0 && ta ((g.targets.map fun r=>r.url).take i))=true) (fun i=>g.targets.length - i) 0 (Le.mk _ _ ?_ ?_) ?_ ?_
    · simp [upd,num]
    · simp [tx,num]
    · simp [ta]
    · rintro i ⟨hi,hall⟩
      simp [num]
      refine ak (fun h1=>?_) (fun h1=>?_)
      · have hbr:(g.targets[i]).url.length≤1048576:=hb.2.2 _ (List.getElem_mem h1)
        have hst:(g.targets.take (i+1)).all l0=((g.targets.take i).all l0 && l0 g.targets[i]):=mo _ _ _ h1
        have hst2:=u1 (g.targets.map fun r=>r.url) i (by simpa using h1)
        simp only [List.getElem_map] at hst2
        have iq:=K7 g i h1
        have hself:=D0 (fun r:LTarget=>r.url) g.targets i h1
        rw [Bool.and_eq_true] at hall
        rw [hall.1,Bool.true_and] at hst
        rw [hall.2,Bool.true_and] at hst2
        obtain ⟨r,hrk⟩:∃ r,g.targets[i]=r:=⟨_,rfl⟩
        rw [hrk] at hbr hst hst2 iq
        simp only [hrk] at hself
        have hT3:=Fi r (by omega)
        have hAt:=c_l03At g.targets r.url (by omega)
        simp [num,h1,hrk,al,tx]
        refine em rfl rfl (.inl rfl) hT3 ?_
        cases hn:l0 r with
        | false=>
         have hb2:=iq (by rw [hn];rfl)
         simp [hb2]
        | true=>
         simp [num,h1,hrk,al,tx]
         refine em rfl rfl (.inl rfl) hAt ?_
         by_cases hu:r.url∈(g.targets.map fun r=>r.url).take i
         · have hb2:=iq (by rw [decide_eq_false (fun h=>h hu),Bool.and_false])
           have hne:¬ (qz g.targets fun x=>decide (x.url=r.url))=(i:Int):=fun h=>hself.1 h hu
           simp [num,hb2,hne]
         · have heq:=hself.2 hu
           rw [decide_eq_true hu] at hst2
           simp [num,heq]
           refine LoopNext.mk (i+1) ⟨by omega,by rw [hst,hst2,hn];rfl⟩ (by omega) (Le.mk _ _ ?_ ?_)
           · simp [num];exact wrap_i64 (by omega) (by omega)
           · simp [tx,num]
      · have e:i=g.targets.length:=by omega
        subst e
        rw [List.take_length,List.take_of_length_le (by simp)] at hall
        simp [hall]
theorem c_l03OK (g:LGroup) (hb:sl 1048576 g):ag Tryz.prog 112 [.val (ki g)] (.ret (.val (.bool (uf g))) []) []:=by
 have hnl:g.name.length≤1048576:=hb.1
 have h:=Qj g _ _ _ hb (Ef g.name (by omega)) (nh .i64 g.age 1 100) (nh .i64 g.targets.length 1 4)
 have q3:(1≤g.targets.length∧g.targets.length≤4)↔((1:Int)≤g.targets.length∧(g.targets.length:Int)≤4):=by omega
 unfold uf
 rw [decide_eq_decide.2 q3]
 exact h
end Go.Proofs
end
