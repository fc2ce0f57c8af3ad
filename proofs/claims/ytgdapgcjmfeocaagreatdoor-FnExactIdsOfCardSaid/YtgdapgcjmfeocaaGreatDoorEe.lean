/- Ee: merged out of KIi, KIq, KIw. -/
import Derived.Test.YtgdapgcjmfeocaaGreatDoorEb
import Derived.Test.YtgdapgcjmfeocaaGreatDoorCa
import Derived.Test.YtgdapgcjmfeocaaGreatDoorAc
import Derived.Test.YtgdapgcjmfeocaaGreatDoorBa
import Derived.Test.YtgdapgcjmfeocaaGreatDoorEa
set_option linter.unusedSectionVars false
set_option linter.unusedSimpArgs false
set_option linter.unusedVariables false
set_option maxRecDepth 100000
section
namespace Go.Proofs
open Go.PW Go.KP
attribute [local simp] RV.cells RV.one PV.cells PV.solid PV.one im ao kh ke RV.ofCells elems PV.killL
variable [GH]
theorem any_url (l:List LTarget) (url:Tx):(l.any fun x=>decide (x.url=url))=decide (url∈l.map fun t=>t.url):=by
 rw [Bool.eq_iff_iff]
 simp only [List.any_eq_true,decide_eq_true_eq,List.mem_map]
theorem E8 (l:List LTarget) (hl:l.length < 1099511627776):ag Tryz.prog 166 [.val (.list 3 (l.map al))] (.ret (.val (.bool (o8 l))) []) []:=by
 refine aj mixed ok166 rfl (fun _=>rfl) ?_
 unfold ir166
 rw [aa]
 simp [ah,am,ax,ac,af]
 refine ay (X:=Nat) (fun i=>⟨co [(0,.val (.list 3 (l.map al))),(5,.val (.list 3 (l.map al))),(6,.val (num l.length)),(7,.val (num i))],cu []⟩) (fun i=>i≤l.length∧o8 (l.take i)=true) (fun i=>l.length - i) 0 (Le.mk _ _ ?_ ?_) ?_ ?_
 · simp [upd,num]
 · simp
 · simp [o8,ng]
 · rintro i ⟨hi,hinv⟩
   simp [num]
   refine ak (fun h1=>?_) (fun h1=>?_)
   · have e1:=Gf h1
     simp [num,h1,e1,al,tx,show i≤l.length by omega]
     have hh:=Xe (l.take i) l[i].url (by simp;omega)
     rw [any_url,List.map_take] at hh
     refine ab rfl rfl (.inl rfl) hh ?_
     have ht:=Cn l i h1
     by_cases hm:l[i].url∈(l.take i).map fun t=>t.url
     · rw [decide_eq_true hm]
       have:o8 l=false:=It l (i+1) (by rw [ht,hinv,decide_eq_false (fun h=>h hm)];rfl)
       rw [this]
       simp
     · rw [decide_eq_false hm]
       simp
       refine LoopNext.mk (i+1) ⟨by omega,?_⟩ (by omega) (Le.mk _ _ ?_ ?_)
       · rw [ht,hinv,decide_eq_true hm];rfl
       · simp [num];exact wrap_i64 (by omega) (by omega)
       · simp
   · have e:i=l.length:=by omega
     subst e
     rw [List.take_length] at hinv
     rw [hinv]
     simp
def tgs (l:List LPeer):List LTarget:=l.map fun p=>p.target
theorem E7 (l:List LPeer) (hl:l.length < 1099511627776):ag Tryz.prog 129 [.val (lx l)] (.ret (.val (.list 3 ((tgs l).map al))) []) []:=by
 refine aj mixed ok129 rfl (fun _=>rfl) ?_
 unfold ir129
 rw [aa]
 simp [ah,am,ax,ac,af,lx,elems]
 refine ay (X:=Nat) (fun i=>⟨co [(3,.own 6),(7,.val (lx l)),(8,.val (num l.length)),(9,.val (num i))],cu [(6,.row 162 3 ((tgs (l.take i)).map al))]⟩) (fun i=>i≤l.length) (fun i=>l.length - i) 0 (Le.mk _ _ ?_ ?_) ?_ ?_
 · simp [upd,num,lx,PV.kill]
 · simp [upd,tgs]
 · simp
 · intro i hi
   simp [num,lx]
   refine ak (fun h1=>?_) (fun h1=>?_)
   · have e1:=Ct h1
     rw [List.getD_eq_getElem?_getD] at e1
     have hlen:(tgs (l.take i)).length=i:=by simp [tgs];omega
     have hsucc:(tgs (l.take (i+1))).map al=(tgs (l.take i)).map al++[al l[i].target]:=by
      unfold tgs
      rw [List.take_add_one,List.getElem?_eq_getElem h1,List.map_append,List.map_append]
      rfl
     simp [num,lx,h1,e1,ig,tx,elems,ao,hlen,RV.one]
     refine ⟨by omega,by omega,?_⟩
     refine LoopNext.mk (i+1) (by omega) (by omega) (Le.mk _ _ ?_ ?_)
     · simp [lx,num];exact wrap_i64 (by omega) (by omega)
     · rw [hsucc]
       simp [al,num,tx]
   · have e1:i=l.length:=by omega
     subst e1
     simp [num,lx,rf]
structure JP (st:St) (x:LPeer):Prop where
 e1:st.env 1=.ptr 1 0
 m1:st.mem 1=.box (na x)
section
variable {Ks:Kx (St→Prop)} {kx:Kx (RV→St→Prop)} {st:St} {x:LPeer} {b:Bool}
theorem V7 (h:JP st x) (hb:st.env 19=.val (.bool b)) (hK:∀ st',st'.env 2=.val (.bool (b || Iy x))→Ks.k st'):EO Tryz.prog ir171_o20 st (Ks:=Ks) (kx:=kx):=by
 unfold ir171_o20
 cases b with
 | true=>
  simp [hb]
  exact hK _ (by simp)
 | false=>
  by_cases h0:x.fails=0
  · by_cases h1:x.retry=0
    · simp [hb,h.e1,h.m1,na,num,h0,h1]
      exact hK _ (by simp [Iy,h0,h1])
    · simp [hb,h.e1,h.m1,na,num,h0,h1]
      exact hK _ (by simp [Iy,h0,h1])
  · simp [hb,h.e1,h.m1,na,num,h0]
    exact hK _ (by simp [Iy,h0])
theorem V8 (h:JP st x) (hb:st.env 13=.val (.bool b)) (hK:∀ st',st'.env 2=.val (.bool (b || Tg x))→Ks.k st'):EO Tryz.prog ir171_o14 st (Ks:=Ks) (kx:=kx):=by
 unfold ir171_o14
 cases b with
 | true=>
  simp [hb]
  refine V7 (x:=x) (b:=true) ⟨?_,?_⟩ ?_ (fun st' q2=>hK st' (by simpa using q2))<;>simp [h.e1,h.m1]
 | false=>
  simp [hb,h.e1,h.m1,na,num]
  refine ab rfl rfl (.inl rfl) (mc x.retry 0 1000032) ?_
  simp [hb]
  refine V7 (x:=x) (b:=!decide (0≤x.retry∧x.retry≤1000032)) ⟨?_,?_⟩ ?_ (fun st' q2=>hK st' (by rw [q2];simp [Tg]))<;>simp [h.e1,h.m1]
theorem qops8 (h:JP st x) (hb:st.env 7=.val (.bool b)) (hK:∀ st',st'.env 2=.val (.bool (b || P2 x))→Ks.k st'):EO Tryz.prog ir171_o8 st (Ks:=Ks) (kx:=kx):=by
 unfold ir171_o8
 cases b with
 | true=>
  simp [hb]
  refine V8 (x:=x) (b:=true) ⟨?_,?_⟩ ?_ (fun st' q2=>hK st' (by simpa using q2))<;>simp [h.e1,h.m1]
 | false=>
  simp [hb,h.e1,h.m1,na,num]
  refine ab rfl rfl (.inl rfl) (mc x.fails 0 1000000) ?_
  simp [hb]
  refine V8 (x:=x) (b:=!decide (0≤x.fails∧x.fails≤1000000)) ⟨?_,?_⟩ ?_ (fun st' q2=>hK st' (by rw [q2];simp [P2]))<;>simp [h.e1,h.m1]
end
theorem Qx (x:LPeer) (hx:x.target.url.length < 1048577):ag Tryz.prog 171 [.val (ig x)] (.ret (.val (.bool (!vt x))) []) []:=by
 refine aj mixed ok171 rfl (fun _=>rfl) ?_
 unfold ir171
 rw [aa,G8,Bool.not_not]
 simp [ah,am,ax,ac,af,ig,tx,num,ao]
 refine ab rfl rfl (.inl rfl) (Hg x.target hx) ?_
 simp
 refine qops8 (x:=x) (b:=!l0 x.target) ⟨?_,?_⟩ ?_ (fun st' q=>?_)
 · simp
 · simp [na,tx,num]
 · simp
 · simp [q]
theorem Ln (l:List LPeer) (g:Nat) (p:LPeer→Bool) (hl:l.length < 1099511627776) (hg:fnB Tryz.prog g=true)
 (hp:∀ x∈l,ag Tryz.prog g [.val (ig x)] (.ret (.val (.bool (p x))) []) []) :
 ag Tryz.prog 206 [.val (lx l),.fn g []] (.ret (.val (num (qz l p))) []) []:=by
 refine aj mixed ok206 rfl (fun _=>rfl) ?_
 unfold ir206
 rw [aa]
 simp [ah,am,ax,ac,af,ax,am,lx]
 refine ay (X:=Nat) (fun i=>⟨co [(0,.val (lx l)),(1,.fn g []),(7,.val (num l.length)),(8,.val (num i))],cu []⟩) (fun i=>i≤l.length∧∀ k (hk:k < i) (hk':k < l.length),p l[k]=false) (fun i=>l.length - i) 0 (Le.mk _ _ ?_ ?_) ?_ ?_
 · simp [upd,num,lx]
 · simp
 · simp
 · rintro i ⟨hi,hne⟩
   simp [num,lx]
   refine ak (fun h1=>?_) (fun h1=>?_)
   · have e1:=Ct h1
     rw [List.getD_eq_getElem?_getD] at e1
     simp [num,lx,h1,e1,ig,tx,hg]
     refine ab rfl rfl (.inl rfl) (hp l[i] (List.getElem_mem h1)) ?_
     cases hpi:p l[i] with
     | true=>
      simp
      rw [p7 h1 hpi (fun k hk=>hne k hk (by omega))];rfl
     | false=>
      simp
      refine LoopNext.mk (i+1) ⟨by omega,fun k hk hk'=>?_⟩ (by omega) (Le.mk _ _ ?_ ?_)
      · by_cases e:k=i
        · subst e;exact hpi
        · exact hne k (by omega) hk'
      · simp [num,lx];exact wrap_i64 (by omega) (by omega)
      · simp
   · have e:i=l.length:=by omega
     subst e
     simp [num]
     rw [o3 (fun k hk=>hne k hk hk)]
theorem Ft (l:List LPeer) (g:Nat) (p:LPeer→Bool) (hl:l.length < 1099511627776) (hg:fnB Tryz.prog g=true)
 (hp:∀ x∈l,ag Tryz.prog g [.val (ig x)] (.ret (.val (.bool (p x))) []) []) :
 ag Tryz.prog 170 [.val (lx l),.fn g []] (.ret (.val (.bool (l.any p))) []) []:=by
 refine aj mixed ok170 rfl (fun _=>rfl) ?_
 unfold ir170
 rw [aa,← xb l p]
 simp [ah,am,ax,ac,af,ax,am,lx]
 refine ab rfl rfl (.inl rfl) (Ln l g p hl hg hp) ?_
 simp [num]
theorem Ub (l:List LPeer) (hl:l.length < 1099511627776) (hs:∀ p∈l,p.target.url.length < 1048577):ag Tryz.prog 127 [.val (lx l)] (.ret (.val (.bool (p6 l))) []) []:=by
 refine aj mixed ok127 rfl (fun _=>rfl) ?_
 unfold ir127
 rw [aa]
 by_cases h4:4 < l.length
 · have h4':(4:Int) < l.length:=by omega
   have e:p6 l=false:=by
    unfold p6
    rw [decide_eq_false (by omega)];rfl
   simp [ah,am,ax,ac,af,lx,h4',e]
 · have h4':¬ (4:Int) < l.length:=by omega
   have e:p6 l=(o8 (tgs l) && !(l.any fun x=>!vt x)):=by
    unfold p6 tgs
    rw [decide_eq_true (by omega),Is,Bool.true_and,Bool.and_comm]
    congr 1
    rw [Bool.eq_iff_iff]
    simp
   rw [e]
   simp [ah,am,ax,ac,af,lx,h4']
   refine ab rfl rfl (.inl rfl) (E7 l hl) ?_
   simp
   refine ab rfl rfl (.inl rfl) (E8 (tgs l) (by simp [tgs];omega)) ?_
   cases hu:o8 (tgs l) with
   | false=>simp
   | true=>
    simp only [Bool.true_and]
    simp
    refine ab rfl rfl (.inl rfl) (Ft l 171 (fun x=>!vt x) hl (by kernel_rfl) (fun x hx=>Qx x (hs x hx))) ?_
    simp
end Go.Proofs
end
section
namespace Go.Proofs
open Go.PW Go.KP
attribute [local simp] RV.cells RV.one PV.cells PV.solid PV.one im ao kh ke RV.ofCells elems PV.killL
variable [GF]
theorem B3 (l:List LTarget) (g:Nat) (p:LTarget→Bool) (hl:l.length < 1099511627776) (hg:fnB Tryz.prog g=true)
 (hp:∀ x∈l,ag Tryz.prog g [.val (al x)] (.ret (.val (.bool (p x))) []) []) :
 ag Tryz.prog 205 [.val (.list 3 (l.map al)),.fn g []] (.ret (.val (num (qz l p))) []) []:=by
 refine aj mixed ok205 rfl (fun _=>rfl) ?_
 unfold ir205
 rw [aa]
 simp [ah,am,ax,ac,af,ax,am]
 refine ay (X:=Nat) (fun i=>⟨co [(0,.val (.list 3 (l.map al))),(1,.fn g []),(7,.val (num l.length)),(8,.val (num i))],cu []⟩) (fun i=>i≤l.length∧∀ k (hk:k < i) (hk':k < l.length),p l[k]=false) (fun i=>l.length - i) 0 (Le.mk _ _ ?_ ?_) ?_ ?_
 · simp [upd,num]
 · simp
 · simp
 · rintro i ⟨hi,hne⟩
   simp [num]
   refine ak (fun h1=>?_) (fun h1=>?_)
   · have e1:(l.map al)[i]?.getD .nilptr=al l[i]:=by simp [List.getElem?_eq_getElem h1]
     simp [num,h1,e1,al,tx,num,hg]
     refine ab rfl rfl (.inl rfl) (hp l[i] (List.getElem_mem h1)) ?_
     cases hpi:p l[i] with
     | true=>
      simp
      rw [p7 h1 hpi (fun k hk=>hne k hk (by omega))];rfl
     | false=>
      simp
      refine LoopNext.mk (i+1) ⟨by omega,fun k hk hk'=>?_⟩ (by omega) (Le.mk _ _ ?_ ?_)
      · by_cases e:k=i
        · subst e;exact hpi
        · exact hne k (by omega) hk'
      · simp [num];exact wrap_i64 (by omega) (by omega)
      · simp
   · have e:i=l.length:=by omega
     subst e
     simp [num]
     rw [o3 (fun k hk=>hne k hk hk)]
theorem za (l:List LTarget) (g:Nat) (p:LTarget→Bool) (hl:l.length < 1099511627776) (hg:fnB Tryz.prog g=true)
 (hp:∀ x∈l,ag Tryz.prog g [.val (al x)] (.ret (.val (.bool (p x))) []) []) :
 ag Tryz.prog 167 [.val (.list 3 (l.map al)),.fn g []] (.ret (.val (.bool (l.any p))) []) []:=by
 refine aj mixed ok167 rfl (fun _=>rfl) ?_
 unfold ir167
 rw [aa]
 simp [ah,am,ax,ac,af,ax,am]
 refine ab rfl rfl (.inl rfl) (B3 l g p hl hg hp) ?_
 simp [num]
 exact xb l p
end Go.Proofs
end
section
namespace Go.Proofs
open Go.PW Go.KP
attribute [local simp] RV.cells RV.one PV.cells PV.solid PV.one im ao kh ke RV.ofCells elems PV.killL
variable [GH]
theorem Qz (t:LTarget) (ht:t.url.length < 1048577):ag Tryz.prog 168 [.val (al t)] (.ret (.val (.bool (!l0 t))) []) []:=by
 refine aj mixed ok168 rfl (fun _=>rfl) ?_
 unfold ir168
 rw [aa]
 have h:=Hg t ht
 simp [ah,am,ax,ac,af,al,tx,num]
 refine ab rfl rfl (.inl rfl) h ?_
 simp
theorem Lp (g:LGroup) (b1 b2 b3 b4 b5:Bool) (hW:ag Tryz.prog 137 [.val (tx g.name)] (.ret (.val (.bool b1)) []) []) (hA:ag Tryz.prog 60 [.val (num g.age),.val (num 1),.val (num 100)] (.ret (.val (.bool b2)) []) [])
 (hT:ag Tryz.prog 60 [.val (num g.targets.length),.val (num 1),.val (num 4)] (.ret (.val (.bool b3)) []) []) (hU:ag Tryz.prog 166 [.val (.list 3 (g.targets.map al))] (.ret (.val (.bool b4)) []) [])
 (hC:ag Tryz.prog 167 [.val (.list 3 (g.targets.map al)),.fn 168 []] (.ret (.val (.bool b5)) []) []) :
 ag Tryz.prog 126 [.val (ki g)] (.ret (.val (.bool (b1 && b2 && b3 && b4 && !b5))) []) []:=by
 refine aj mixed ok126 rfl (fun _=>rfl) ?_
 unfold ir126
 rw [aa]
 simp [ah,am,ax,ac,af,ki,tx,num]
 refine ab rfl rfl (.inl rfl) hW ?_
 cases b1 with
 | false=>simp
 | true=>
  simp [num]
  refine ab rfl rfl (.inl rfl) hA ?_
  cases b2 with
  | false=>simp
  | true=>
   simp [num]
   refine ab rfl rfl (.inl rfl) hT ?_
   cases b3 with
   | false=>simp
   | true=>
    simp [num]
    refine ab rfl rfl (.inl rfl) hU ?_
    cases b4 with
    | false=>simp
    | true=>
     simp [num]
     refine ab rfl rfl (.inl rfl) hC ?_
     cases b5<;>simp
theorem Uc (g:LGroup) (hb:sl 1048576 g):ag Tryz.prog 126 [.val (ki g)] (.ret (.val (.bool (uf g))) []) []:=by
 have hnl:g.name.length≤1048576:=hb.1
 have htl:g.targets.length≤1048576:=hb.2.1
 have hC:=za g.targets 168 (fun t=>!l0 t) (by omega) (by kernel_rfl) (fun x hx=>Qz x (by have:=hb.2.2 x hx;unfold nt at this;omega))
 have h:=Lp g _ _ _ _ _ (Hh g.name (by omega)) (mc g.age 1 100) (mc g.targets.length 1 4) (E8 g.targets (by omega)) hC
 have q3:(1≤g.targets.length∧g.targets.length≤4)↔((1:Int)≤g.targets.length∧(g.targets.length:Int)≤4):=by omega
 have e:uf g=(re g.name && decide (1≤g.age∧g.age≤100) && decide ((1:Int)≤g.targets.length∧(g.targets.length:Int)≤4) && o8 g.targets && !(g.targets.any fun t=>!l0 t)):=by
  unfold uf
  rw [decide_eq_decide.2 q3,J9,List.not_any_eq_all_not]
  simp only [Bool.not_not]
  cases re g.name<;>cases decide (1≤g.age∧g.age≤100)<;>cases decide ((1:Int)≤g.targets.length∧(g.targets.length:Int)≤4)<;>cases g.targets.all l0<;>simp
 rw [e]
 exact h
end Go.Proofs
end
