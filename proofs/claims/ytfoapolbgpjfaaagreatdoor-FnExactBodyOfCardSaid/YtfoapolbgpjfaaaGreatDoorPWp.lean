/- Regions whose operations run in any order that the edges allow. -/
import Derived.Test.YtfoapolbgpjfaaaGreatDoorPWo
set_option linter.unusedSectionVars false
set_option linter.unusedSimpArgs false
set_option linter.unusedVariables false
namespace Go.PW
variable [GF]
open Go.RowKit
def a4g (P:Program):List POper→St→(St→Prop)→Prop
 | [],st,K=>K st
 | o :: os,st,K=>D1 st o.g (V0 P st o.op (fun p=>a4g P os (x9 st o.dst p) K)) (a4g P os (x9 st o.dst .skip) K)
def evalD (P:Program) (m:Nat) (rs:List POper) (st:St) (K:St→Prop) (kx:RV→St→Prop):Prop:=
 a4g P (rs.take m) st fun st'=>X4 P (rs.drop m) st' K kx
def V9 (ops:Array Oper) (j:Nat):List Nat:=match ops[j]? with
 | some o=>(o.after.toList.filter (Region.binds .any)).map (·.on)
 | none=>[]
def a38 (ops:Array Oper):Nat→Nat→Nat→Bool
 | 0,j,i=>(V9 ops j).contains i
 | f+1,j,i=>(V9 ops j).contains i || (V9 ops j).any fun e=>a38 ops f e i
def R0 (r:POper):List Nat:=(r.op.opds.filterMap fun | .t s=>some s | _=>none)++(match r.g with | some (s,_)=>[s] | none=>[])
def a5n (f:Nat) (ops:Array Oper) (rs:List POper) (m:Nat):Bool:=
 decide (m≤ops.size) && (List.range ops.size).all (fun j=>(V9 ops j).all (fun e=>decide (e < j))) &&
 (List.range ops.size).all (fun j=>decide (j < m) || (List.range j).all (a38 ops f j)) &&
 (List.range m).all (fun i=>(List.range m).all fun j=>match rs[i]?,rs[j]? with
  | some ri,some rj=>(match rj.dst with
   | some d=>(i == j || ri.dst != some d) && (!(R0 ri).contains d || (decide (j < i) && a38 ops f i j) || (decide (i < j) && a38 ops f j i))
   | none=>true)
  | _,_=>true)
def a7o (ops:Array Oper) (rs:List POper) (m:Nat):Bool:=a5n 3 ops rs m || a5n 12 ops rs m
section
variable {P:Program} {ops:Array Oper} {Q:Exit→Act→World→Prop}
theorem x7 {listed:Array Bool} {i:Nat} (hl:listed.size=ops.size):i∈Region.ready .any ops listed↔i < ops.size∧listed.getD i false=false∧∀ e∈V9 ops i,listed.getD e false=true:=by
 unfold Region.ready
 rw [List.mem_filter,List.mem_range]
 constructor
 · rintro ⟨h1,h2⟩
   simp only [Bool.and_eq_true,Bool.not_eq_true'] at h2
   refine ⟨h1,?_,fun e he=>?_⟩
   · have h3:=h2.1
     have:i < listed.size:=by omega
     simpa [Array.getD_eq_getD_getElem?,Array.getElem?_eq_getElem this] using h3
   · unfold V9 at he
     rw [Array.getElem?_eq_getElem h1] at he h2
     simp only [List.mem_map,List.mem_filter] at he
     obtain ⟨e',⟨h4,h5⟩,rfl⟩:=he
     have:=h2.2
     simp only [Option.map_some,Option.getD_some,Array.all_eq_true'] at this
     have:=this e' (by simpa using h4)
     simpa [h5] using this
 · rintro ⟨h1,h2,h3⟩
   refine ⟨h1,?_⟩
   have:i < listed.size:=by omega
   simp only [Bool.and_eq_true,Bool.not_eq_true']
   refine ⟨by simpa [Array.getD_eq_getD_getElem?,Array.getElem?_eq_getElem this] using h2,?_⟩
   rw [Array.getElem?_eq_getElem h1]
   simp only [Option.map_some,Option.getD_some,Array.all_eq_true']
   intro e he
   cases hb:Region.binds .any e with
   | false=>rfl
   | true=>
    simp only [Bool.not_true,Bool.false_or]
    refine h3 e.on ?_
    unfold V9
    rw [Array.getElem?_eq_getElem h1]
    exact List.mem_map.2 ⟨e,List.mem_filter.2 ⟨by simpa using he,hb⟩,rfl⟩
def a1l (ops:Array Oper) (listed:Array Bool):Prop:=∀ j,listed.getD j false=true→∀ e∈V9 ops j,listed.getD e false=true
theorem Y4 {listed:Array Bool} (hd:a1l ops listed):∀ (f j i:Nat),(∀ e∈V9 ops j,listed.getD e false=true)→a38 ops f j i=true→listed.getD i false=true
 | 0,j,i,h,hb=>h i (by simpa [a38] using hb)
 | f+1,j,i,h,hb=>by
  simp only [a38,Bool.or_eq_true,List.any_eq_true] at hb
  rcases hb with hb | ⟨e,he,hb⟩
  · exact h i (by simpa using hb)
  · exact Y4 hd f e i (hd e (h e he)) hb
structure ShapeF (f:Nat) (ops:Array Oper) (rs:List POper) (m:Nat):Prop where
 le:m≤ops.size
 back:∀ j,j < ops.size→∀ e∈V9 ops j,e < j
 tail:∀ j,j < ops.size→m≤j→∀ i,i < j→a38 ops f j i=true
 dst:∀ i j ri rj d,i < m→j < m→rs[i]?=some ri→rs[j]?=some rj→ri.dst=some d→rj.dst=some d→i=j
 slot:∀ i j ri rj d,i < m→j < m→rs[i]?=some ri→rs[j]?=some rj→rj.dst=some d→d∈R0 ri→(j < i∧a38 ops f i j=true)∨(i < j∧a38 ops f j i=true)
theorem a3n {f:Nat} {rs:List POper} {m:Nat} (h:a5n f ops rs m=true):ShapeF f ops rs m:=by
 simp only [a5n,Bool.and_eq_true,decide_eq_true_eq,List.all_eq_true,List.mem_range,Bool.or_eq_true] at h
 obtain ⟨⟨⟨h1,h2⟩,h3⟩,h4⟩:=h
 refine ⟨h1,h2,fun j hj hm i hi=>?_,fun i j ri rj d hi hj e1 e2 d1 d2=>?_,fun i j ri rj d hi hj e1 e2 d2 hs=>?_⟩
 · rcases h3 j hj with h | h
   · omega
   · exact h i hi
 · have:=h4 i hi j hj
   rw [e1,e2] at this
   simp only [d2,Bool.and_eq_true,Bool.or_eq_true,beq_iff_eq,bne_iff_ne] at this
   rcases this.1 with h | h
   · exact h
   · exact (h d1).elim
 · have:=h4 i hi j hj
   rw [e1,e2] at this
   simp only [d2,Bool.and_eq_true,Bool.or_eq_true,Bool.not_eq_true',decide_eq_true_eq] at this
   rcases this.2 with (h | h) | h
   · have:=List.contains_iff_mem.2 hs
     rw [h] at this
     cases this
   · exact .inl h
   · exact .inr h
theorem a96 {rs:List POper} {m:Nat} (h:a7o ops rs m=true):∃ f,ShapeF f ops rs m:=by
 simp only [a7o,Bool.or_eq_true] at h
 rcases h with h | h
 · exact ⟨_,a3n h⟩
 · exact ⟨_,a3n h⟩
theorem n9 {listed:Array Bool} {i j:Nat} (hi:i < listed.size):(listed.setIfInBounds i true).getD j false=if j=i then true else listed.getD j false:=by
 simp only [Array.getD_eq_getD_getElem?,Array.getElem?_setIfInBounds]
 by_cases h:i=j
 · subst h;simp [hi]
 · simp [h,Ne.symm h]
theorem a7u {f0:Nat} {rs:List POper} {m:Nat} (hS:ShapeF f0 ops rs m):∀ (d k fuel:Nat) (listed:Array Bool) (a:Act) (w:World),k+d=ops.size→m≤k→listed.size=ops.size→(∀ j,j < ops.size→listed.getD j false=decide (j < k))→d≤fuel →
 wpOps P ops Q (List.range' k d) a w→wpAny P .any ops Q fuel listed a w
 | 0,k,fuel,listed,a,w,hk,hm,hl,hL,hf,h=>by
  have hr:Region.ready .any ops listed=[]:=by
   refine List.eq_nil_iff_forall_not_mem.2 fun i hi=>?_
   obtain ⟨h1,h2,_⟩:=(x7 hl).1 hi
   rw [hL i h1] at h2
   simp at h2;omega
  cases fuel with
  | zero=>exact ⟨hr,h⟩
  | succ f=>exact ⟨fun _=>h,fun i hi=>by rw [hr] at hi;cases hi⟩
 | d+1,k,0,listed,a,w,hk,hm,hl,hL,hf,h=>by omega
 | d+1,k,fuel+1,listed,a,w,hk,hm,hl,hL,hf,h=>by
  have hDC:a1l ops listed:=fun j hj e he=>by
   by_cases hjs:j < ops.size
   · rw [hL j hjs] at hj
     have hej:=hS.back j hjs e he
     rw [hL e (by omega)]
     simp at hj ⊢;omega
   · unfold V9 at he
     rw [Array.getElem?_eq_none (by omega)] at he
     simp at he
  have hk':k∈Region.ready .any ops listed:=(x7 hl).2 ⟨by omega,by rw [hL k (by omega)];simp,fun e he=>by
   have:=hS.back k (by omega) e he
   rw [hL e (by omega)];simpa using this⟩
  refine ⟨fun h0=>(by rw [h0] at hk';cases hk'),fun i hi=>?_⟩
  obtain ⟨h1,h2,h3⟩:=(x7 hl).1 hi
  have hik:i=k:=by
   rw [hL i h1] at h2
   have hge:k≤i:=by simpa using h2
   by_cases he:i=k
   · exact he
   · have:=Y4 hDC f0 i k h3 (hS.tail i h1 (by omega) k (by omega))
     rw [hL k (by omega)] at this
     simp at this
  subst hik
  rw [List.range'_succ,wpOps_cons] at h
  refine wpOp_mono (fun a w hh=>a7u hS d (i+1) fuel _ a w (by omega) (by omega) (by simpa using hl) (fun j hj=>?_) (by omega) hh) h
  rw [n9 (by omega),hL j hj]
  by_cases he:j=i
  · subst he;simp
  · simp only [he,if_false,decide_eq_decide];omega
end
def V7 (rs:List POper) (i:Nat):Option Nat:=(rs[i]?).bind (·.dst)
structure Mix (rs:List POper) (m:Nat) (pv:Nat→PV) (L:Nat→Prop) (st st':St):Prop where
 mem:st'.mem=st.mem
 on:∀ x i,i < m→L i→V7 rs i=some x→st'.env x=pv i
 off:∀ x,(∀ i,i < m→L i→V7 rs i≠some x)→st'.env x=st.env x
theorem Mix.start (rs:List POper) (m:Nat) (pv:Nat→PV) (L:Nat→Prop) (hL:∀ i,i < m→¬ L i) (st:St):Mix rs m pv L st st:=⟨rfl,fun x i hi h _=>(hL i hi h).elim,fun _ _=>rfl⟩
theorem Mix.add {rs:List POper} {m:Nat} {pv:Nat→PV} {L L':Nat→Prop} {st st':St} (h:Mix rs m pv L st st') {i:Nat} (hi:i < m) (hL:∀ j,j < m→(L' j↔L j∨j=i))
 (hd:∀ j d,j < m→V7 rs j=some d→V7 rs i=some d→j=i):Mix rs m pv L' st (x9 st' (V7 rs i) (pv i)):=by
 cases hdi:V7 rs i with
 | none=>
  refine ⟨h.mem,fun x j hj hLj hx=>?_,fun x hx=>?_⟩
  · rcases (hL j hj).1 hLj with hh | rfl
    · exact h.on x j hj hh hx
    · rw [hdi] at hx;cases hx
  · exact h.off x fun j hj hLj=>hx j hj ((hL j hj).2 (.inl hLj))
 | some d=>
  refine ⟨h.mem,fun x j hj hLj hx=>?_,fun x hx=>?_⟩
  · by_cases hxd:x=d
    · subst hxd
      obtain rfl:=hd j x hj hx hdi
      exact l9 _ _ _
    · refine (l8 _ _ _ _ hxd).trans ?_
      rcases (hL j hj).1 hLj with hh | rfl
      · exact h.on x j hj hh hx
      · rw [hdi] at hx;simp at hx;exact (hxd hx.symm).elim
  · have hxd:x≠d:=fun e=>hx i hi ((hL i hi).2 (.inr rfl)) (by rw [hdi,e])
    exact (l8 _ _ _ _ hxd).trans (h.off x fun j hj hLj=>hx j hj ((hL j hj).2 (.inl hLj)))
theorem Mix.uniq {rs:List POper} {m:Nat} {pv:Nat→PV} {L:Nat→Prop} {st s1 s2:St} (h1:Mix rs m pv L st s1) (h2:Mix rs m pv L st s2):s1=s2:=by
 obtain ⟨e1,m1⟩:=s1
 obtain ⟨e2,m2⟩:=s2
 have hm:m1=m2:=h1.mem.trans h2.mem.symm
 subst hm
 congr 1
 funext x
 by_cases hx:∃ i,i < m∧L i∧V7 rs i=some x
 · obtain ⟨i,hi,hL,hd⟩:=hx
   exact (h1.on x i hi hL hd).trans (h2.on x i hi hL hd).symm
 · have:∀ i,i < m→L i→V7 rs i≠some x:=fun i hi hL hd=>hx ⟨i,hi,hL,hd⟩
   exact (h1.off x this).trans (h2.off x this).symm
def b9l (P:Program) (rs:List POper) (m:Nat) (pv:Nat→PV) (st:St) (i:Nat):Prop:=
 ∃ o st',rs[i]?=some o∧Mix rs m pv (· < i) st st'∧D1 st' o.g (V0 P st' o.op (fun q=>q=pv i)) (pv i=.skip)
theorem Mix.same {rs:List POper} {m:Nat} {pv pv':Nat→PV} {L:Nat→Prop} {st st':St} (h:Mix rs m pv L st st') (he:∀ i,L i→pv i=pv' i):Mix rs m pv' L st st':=
 ⟨h.mem,fun x i hi hL hd=>(h.on x i hi hL hd).trans (he i hL),h.off⟩
theorem Q3 {st:St} {g:Option (Nat×Bool)} {A B A' B':Prop} (h:D1 st g A B) (ha:A→A') (hb:B→B'):D1 st g A' B':=by
 unfold D1 at *
 split at h
 · exact ha h
 · split at h
   · split at h
     · rename_i hh;rw [if_pos hh];exact ha h
     · rename_i hh;rw [if_neg hh];exact hb h
   · exact hb h
   · exact h.elim
theorem b0h {st:St} {g:Option (Nat×Bool)} {A B:Prop} (h:D1 st g A B):(A∧∀ A' B':Prop,A'→D1 st g A' B')∨(B∧∀ A' B':Prop,B'→D1 st g A' B'):=by
 cases g with
 | none=>exact .inl ⟨h,fun A' B' h'=>h'⟩
 | some sb=>
  obtain ⟨s,b⟩:=sb
  simp only [D1] at *
  split at h
  · rename_i b' e
    split at h
    · rename_i hb;exact .inl ⟨h,fun A' B' h'=>by rw [if_pos hb];exact h'⟩
    · rename_i hb;exact .inr ⟨h,fun A' B' h'=>by rw [if_neg hb];exact h'⟩
  · exact .inr ⟨h,fun A' B' h'=>h'⟩
  · exact h.elim
theorem b0j {P:Program} {rs:List POper} {m:Nat} {st:St} {K:St→Prop} (hd:∀ i j ri rj d,i < m→j < m→rs[i]?=some ri→rs[j]?=some rj→ri.dst=some d→rj.dst=some d→i=j) :
 ∀ (os:List POper) (k:Nat) (pv0:Nat→PV) (st':St),(∀ j,j < os.length→rs[k+j]?=os[j]?)→k+os.length=m→Mix rs m pv0 (· < k) st st'→a4g P os st' K →
  ∃ pv,(∀ i,i < k→pv i=pv0 i)∧(∀ i,k≤i→i < m→b9l P rs m pv st i)∧∃ st'',Mix rs m pv (· < m) st st''∧K st''
 | [],k,pv0,st',_,hk,hM,h=>⟨pv0,fun _ _=>rfl,fun i h1 h2=>by simp at hk;omega,st',by simpa using (show k=m by simpa using hk) ▸ hM,h⟩
 | o :: os,k,pv0,st',hr,hk,hM,h=>by
  have ho:rs[k]?=some o:=by simpa using hr 0 (by simp)
  have hr':∀ j,j < os.length→rs[k+1+j]?=os[j]?:=fun j hj=>by have:=hr (j+1) (by simpa using hj);simpa [Nat.add_assoc,Nat.add_comm 1] using this
  have hkm:k < m:=by simp at hk;omega
  have hdst:V7 rs k=o.dst:=by simp [V7,ho]
  have hdd:∀ j d,j < m→V7 rs j=some d→V7 rs k=some d→j=k:=fun j d hj h1 h2=>by
   unfold V7 at h1 h2
   cases e1:rs[j]? with
   | none=>rw [e1] at h1;cases h1
   | some rj=>
    rw [e1] at h1
    rw [ho] at h2
    exact hd j k rj o d hj hkm e1 ho h1 h2
  have go:∀ p,(∀ A' B':Prop,((V0 P st' o.op (fun q=>q=p)→A')→(p=.skip→B')→D1 st' o.g A' B'))→a4g P os (x9 st' o.dst p) K →
   ∃ pv,(∀ i,i < k→pv i=pv0 i)∧(∀ i,k≤i→i < m→b9l P rs m pv st i)∧∃ st'',Mix rs m pv (· < m) st st''∧K st'':=fun p hg hK=>by
   have hpv:∀ i,i < k→pv0 i=upd k p pv0 i:=fun i hi=>(l8 _ _ _ _ (by omega)).symm
   have hM1:=hM.same hpv
   have hM2:=hM1.add (L':=(· < k+1)) hkm (fun j _=>by omega) hdd
   rw [hdst,l9] at hM2
   obtain ⟨pv,g1,g2,g3⟩:=b0j hd os (k+1) (upd k p pv0) _ hr' (by simp at hk;omega) hM2 hK
   refine ⟨pv,fun i hi=>by rw [g1 i (by omega),← hpv i hi],fun i hi1 hi2=>?_,g3⟩
   by_cases hik:i=k
   · subst hik
     refine ⟨o,st',ho,hM.same (fun j hj=>by rw [g1 j (by omega),← hpv j hj]),?_⟩
     rw [g1 i (by omega),l9]
     exact hg _ _ id id
   · exact g2 i (by omega) hi2
  simp only [a4g] at h
  rcases b0h h with ⟨hA,hg⟩ | ⟨hB,hg⟩
  · obtain ⟨p,h1,h2⟩:=a7z hA
    exact go p (fun A' B' ha _=>hg A' B' (ha h1)) h2
  · exact go .skip (fun A' B' _ hb=>hg A' B' (hb rfl)) hB
theorem a82 {p q:Nat→Bool}:∀ (l:List Nat),(∀ x∈l,q x=true→p x=true)→l.countP q≤l.countP p
 | [],_=>Nat.le_refl _
 | y :: l,h=>by
  have ih:=a82 l (fun x hx=>h x (by simp [hx]))
  simp only [List.countP_cons]
  have:=h y (by simp)
  cases hq:q y<;>cases hp:p y<;>simp_all<;>omega
theorem a4u {p q:Nat→Bool}:∀ (l:List Nat),(∀ x∈l,q x=true→p x=true)→∀ x,x∈l→p x=true→q x=false→l.countP q < l.countP p
 | [],_,x,hx,_,_=>by simp at hx
 | y :: l,h,x,hx,hp,hq=>by
  simp only [List.countP_cons]
  have hle:=a82 l (fun x hx=>h x (by simp [hx]))
  rcases List.mem_cons.1 hx with rfl | hx
  · simp [hp,hq];omega
  · have ih:=a4u l (fun x hx=>h x (by simp [hx])) x hx hp hq
    have:=h y (by simp)
    cases hq:q y<;>cases hp:p y<;>simp_all<;>omega
theorem least {p:Nat→Prop} (n:Nat) (h:p n):∃ k,p k∧∀ j,j < k→¬ p j:=by
 induction n using Nat.strongRecOn with
 | ind n ih=>
  by_cases hx:∃ j,j < n∧p j
  · obtain ⟨j,hj,hp⟩:=hx;exact ih j hj hp
  · exact ⟨n,h,fun j hj hp=>hx ⟨j,hj,hp⟩⟩
theorem a86 {P:Program} {n:Nat} {ops:Array Oper}:∀ {os:List Oper} {rs:List POper},Q9 P n ops os rs=true→∀ {i:Nat} {o:Oper} {r:POper},os[i]?=some o→rs[i]?=some r→a4w P n ops o r=true
 | [],[],_,i,o,r,h,_=>by simp at h
 | o' :: os,r' :: rs,hc,i,o,r,h1,h2=>by
  simp only [Q9,Bool.and_eq_true] at hc
  cases i with
  | zero=>simp at h1 h2;subst h1;subst h2;exact hc.1
  | succ i=>exact a86 hc.2 (by simpa using h1) (by simpa using h2)
 | [],_ :: _,hc,_,_,_,_,_=>by simp [Q9] at hc
 | _ :: _,[],hc,_,_,_,_,_=>by simp [Q9] at hc
theorem a84 {P:Program} {n:Nat} {ops:Array Oper}:∀ {os:List Oper} {rs:List POper},Q9 P n ops os rs=true→os.length=rs.length
 | [],[],_=>rfl
 | _ :: _,_ :: _,hc=>by simp only [Q9,Bool.and_eq_true] at hc;simp [a84 hc.2]
 | [],_ :: _,hc=>by simp [Q9] at hc
 | _ :: _,[],hc=>by simp [Q9] at hc
section
variable {P:Program} {F:Ctx} {st:St} {Q:Exit→Act→World→Prop} {ops:Array Oper} {rs:List POper} {m:Nat} {pv:Nat→PV}
theorem b41 {f0:Nat} (hS:ShapeF f0 ops rs m) (hc:Q9 P F.n ops ops.toList rs=true) (hrun:∀ i,i < m→b9l P rs m pv st i)
 (hfin:∀ γ st'' a w,Mix rs m pv (· < m) st st''→Inv F γ st'' a w→wpOps P ops Q (List.range' m (ops.size - m)) a w) :
 ∀ (c:Nat) (listed:Array Bool) (γ:Nat→Value) (st':St) (a:Act) (w:World),listed.size=ops.size→a1l ops listed→(∀ j,m≤j→listed.getD j false=false)→(List.range m).countP (fun j=>!listed.getD j false)≤c →
  Mix rs m pv (fun i=>listed.getD i false=true) st st'→Inv F γ st' a w→wpAny P .any ops Q (c+(ops.size - m)) listed a w:=by
 have full:∀ (fuel:Nat) (listed:Array Bool) (γ:Nat→Value) (st':St) (a:Act) (w:World),listed.size=ops.size→(∀ j,m≤j→listed.getD j false=false)→(∀ j,j < m→listed.getD j false=true)→ops.size - m≤fuel →
  Mix rs m pv (fun i=>listed.getD i false=true) st st'→Inv F γ st' a w→wpAny P .any ops Q fuel listed a w:=fun fuel listed γ st' a w hl ht hall hf hM hI=>by
  refine a7u hS (ops.size - m) m fuel listed a w (by have:=hS.le;omega) (Nat.le_refl _) hl (fun j hj=>?_) hf (hfin γ st' a w ?_ hI)
  · by_cases hj':j < m
    · rw [hall j hj'];simp [hj']
    · rw [ht j (by omega)];simp [hj']
  · refine ⟨hM.mem,fun x i hi _ hd=>hM.on x i hi (hall i hi) hd,fun x hx=>hM.off x fun i hi _=>hx i hi hi⟩
 intro c
 induction c with
 | zero=>
  intro listed γ st' a w hl hD ht hcnt hM hI
  refine full _ listed γ st' a w hl ht (fun j hj=>?_) (by omega) hM hI
  have:=List.countP_eq_zero.1 (Nat.le_zero.1 hcnt) j (by simpa using hj)
  simpa using this
 | succ c ih=>
  intro listed γ st' a w hl hD ht hcnt hM hI
  by_cases hall:∀ j,j < m→listed.getD j false=true
  · exact full _ listed γ st' a w hl ht hall (by omega) hM hI
  · have hex:∃ n,n < m∧listed.getD n false=false:=by
     refine Classical.byContradiction fun hn=>hall fun j hj=>?_
     cases h:listed.getD j false with
     | true=>rfl
     | false=>exact (hn ⟨j,hj,h⟩).elim
    obtain ⟨n,hn⟩:=hex
    obtain ⟨j0,⟨hj0,hu0⟩,hmin⟩:=least (p:=fun n=>n < m∧listed.getD n false=false) n hn
    have hle:=hS.le
    have hrdy:j0∈Region.ready .any ops listed:=(x7 hl).2 ⟨by omega,hu0,fun e he=>by
     have hlt:=hS.back j0 (by omega) e he
     cases h:listed.getD e false with
     | true=>rfl
     | false=>exact (hmin e hlt ⟨by omega,h⟩).elim⟩
    rw [show c+1+(ops.size - m)=(c+(ops.size - m))+1 from by omega]
    refine ⟨fun h0=>(by rw [h0] at hrdy;cases hrdy),fun i hi=>?_⟩
    obtain ⟨h1,h2,h3⟩:=(x7 hl).1 hi
    have him:i < m:=by
     refine Classical.byContradiction fun hge=>?_
     have:=Y4 hD f0 i j0 h3 (hS.tail i h1 (by omega) j0 (by omega))
     rw [hu0] at this
     cases this
    obtain ⟨r,sti,hr,hMi,hg⟩:=hrun i him
    have ho:ops[i]?=some ops[i]:=Array.getElem?_eq_getElem h1
    have hc1:=a86 hc (i:=i) (o:=ops[i]) (r:=r) (by simp) hr
    obtain ⟨g1,g2,g3,_⟩:=Y8 hc1
    have hdst:V7 rs i=r.dst:=by simp [V7,hr]
    have hslot:∀ s,s∈R0 r→st'.env s=sti.env s:=fun s hs=>by
     by_cases hx:∃ j,j < m∧V7 rs j=some s
     · obtain ⟨j,hj,hd⟩:=hx
       unfold V7 at hd
       cases e1:rs[j]? with
       | none=>rw [e1] at hd;cases hd
       | some rj=>
        rw [e1] at hd
        have hd':V7 rs j=some s:=by simp only [V7,e1];exact hd
        rcases hS.slot i j r rj s him hj hr e1 hd hs with ⟨k1,k2⟩ | ⟨k1,k2⟩
        · have hlj:=Y4 hD f0 i j h3 k2
          rw [hM.on s j hj hlj hd',hMi.on s j hj k1 hd']
        · have huniq:∀ j',j' < m→V7 rs j'=some s→j'=j:=fun j' hj' hd''=>by
           unfold V7 at hd''
           cases e2:rs[j']? with
           | none=>rw [e2] at hd'';cases hd''
           | some r'=>rw [e2] at hd'';exact hS.dst j' j r' rj s hj' hj e2 e1 hd'' hd
          have hnl:listed.getD j false≠true:=fun hl'=>by
           have:=Y4 hD f0 j i (hD j hl') k2
           rw [h2] at this
           cases this
          rw [hM.off s fun j' hj' hl' hd''=>hnl (by rw [← huniq j' hj' hd''];exact hl'),hMi.off s fun j' hj' hl' hd''=>(by have:=huniq j' hj' hd'';omega)]
     · rw [hM.off s fun j hj _ hd=>hx ⟨j,hj,hd⟩,hMi.off s fun j hj _ hd=>hx ⟨j,hj,hd⟩]
    have hag:Agree sti st' r.op.opds:=⟨hM.mem.trans hMi.mem.symm,fun x hx=>by
     cases x with
     | t s=>exact hslot s (List.mem_append.2 (.inl (List.mem_filterMap.2 ⟨.t s,hx,rfl⟩)))
     | k p=>rfl⟩
    have hg':D1 st' r.g (V0 P st' r.op (fun q=>q=pv i)) (pv i=.skip):=by
     have e:D1 st' r.g (V0 P sti r.op (fun q=>q=pv i)) (pv i=.skip):=by
      cases hgg:r.g with
      | none=>rw [hgg] at hg;exact hg
      | some sb=>
       obtain ⟨s,b⟩:=sb
       rw [hgg] at hg
       simp only [D1] at hg ⊢
       rw [hslot s (by unfold R0;rw [hgg];simp)]
       exact hg
     exact Q3 e (a1n hag _).2 id
    have next:∀ γ' v w',Inv F γ' st' a w'→RepP γ' (i8 F.L γ' st'.mem) w' (pv i) v→wpAny P .any ops Q (c+(ops.size - m)) (listed.setIfInBounds i true) (a.put ops[i].dst v) w':=fun γ' v w' hI' hv=>by
     refine ih _ γ' (x9 st' (V7 rs i) (pv i)) _ w' (by simpa using hl) (fun j hj e he=>?_) (fun j hj=>?_) ?_ ?_ ?_
     · rw [n9 (by omega)] at hj ⊢
       by_cases hei:e=i
       · simp [hei]
       · rw [if_neg hei]
         by_cases hji:j=i
         · subst hji;exact h3 e he
         · rw [if_neg hji] at hj;exact hD j hj e he
     · rw [n9 (by omega),if_neg (by omega)];exact ht j hj
     · have:=a4u (p:=fun j=>!listed.getD j false) (q:=fun j=>!(listed.setIfInBounds i true).getD j false) (List.range m) (fun x _ hx=>by
        rw [n9 (by omega)] at hx
        by_cases hxi:x=i
        · simp [hxi] at hx
        · rw [if_neg hxi] at hx;exact hx) i (by simpa using him) (by simp [h2]) (by simp [n9 (show i < listed.size by omega)])
       omega
     · refine hM.add him (fun j _=>?_) (fun j d hj k1 k2=>?_)
       · rw [n9 (by omega)]
         by_cases hji:j=i
         · simp [hji]
         · simp [hji]
       · unfold V7 at k1 k2
         rw [hr] at k2
         cases e1:rs[j]? with
         | none=>rw [e1] at k1;cases k1
         | some rj=>rw [e1] at k1;exact hS.dst j i rj r d hj him e1 hr k1 k2
     · rw [hdst,g2]
       exact Z1 hI' g3 hv
    unfold wpOp
    rw [ho]
    refine a0n hI hc1 hg' (fun hy=>.inl ?_) (fun hn=>?_)
    · exact a6k hI g1 hy fun γ' v w' hI' hv=>next γ' v w' hI' hv
    · exact next γ undef w hI (by rw [hn];exact .skip)
theorem b46 {id:Nat} {K:St→Prop} {kx:RV→St→Prop} {γ:Nat→Value} {a:Act} {w:World} (hm:P.follows .mixedOrders=true) (hI:Inv F γ st a w) (hc:Q9 P F.n ops ops.toList rs=true)
 (hd:a7o ops rs m=true) (h:evalD P m rs st K kx) (hQ:b0p F K kx Q):(Code.region id ops true).wp P Q a w:=by
 obtain ⟨f0,hS⟩:=a96 hd
 have hlen:rs.length=ops.size:=by have:=a84 hc;simp at this;exact this.symm
 have hle:=hS.le
 refine wp_region_any hm ?_
 have htl:(rs.take m).length=m:=by simp;omega
 obtain ⟨pv,_,hrun,st'',hM'',hK⟩:=b0j (P:=P) (m:=m) (K:=fun st'=>X4 P (rs.drop m) st' K kx) (fun i j ri rj d hi hj=>hS.dst i j ri rj d hi hj) (rs.take m) 0 (fun _=>.undef) st
  (fun j hj=>by rw [htl] at hj;simp [List.getElem?_take,hj]) (by omega) (Mix.start rs m _ _ (fun i _ h=>by omega) st) h
 have hB:Below w.heap.size w { w with drawn:=w.drawn+1 }:=⟨rfl,rfl,rfl,Nat.le_refl _,fun _ _=>rfl⟩
 have:=b41 (Q:=Q) hS hc (fun i hi=>hrun i (Nat.zero_le _) hi) (fun γ' s a' w' hM' hI'=>?_) m (Array.replicate ops.size false) γ st a { w with drawn:=w.drawn+1 } (by simp) (fun j hj=>?_) (fun j hj=>?_) ?_
  (Mix.start rs m pv _ (fun i _ h=>by simp [Array.getD_eq_getD_getElem?,Array.getElem?_replicate] at h;split at h<;>simp at h) st) (hI.later hB)
 · rwa [show m+(ops.size - m)=ops.size from by omega] at this
 · obtain rfl:=Mix.uniq hM' hM''
   have e:ops.size - m=(ops.toList.drop m).length:=by simp
   rw [e]
   refine a5y hQ (ops.toList.drop m) (rs.drop m) m (fun j hj=>by simp) ?_ hI' hK
   have dropc:∀ (k:Nat) (os:List Oper) (rs:List POper),Q9 P F.n ops os rs=true→Q9 P F.n ops (os.drop k) (rs.drop k)=true:=by
    intro k
    induction k with
    | zero=>intro os rs h;exact h
    | succ k ih=>
     intro os rs h
     cases os<;>cases rs<;>simp [Q9] at h ⊢
     exact ih _ _ h.2
   exact dropc m _ _ hc
 · exfalso;simp [Array.getD_eq_getD_getElem?,Array.getElem?_replicate] at hj;split at hj<;>simp at hj
 · simp [Array.getD_eq_getD_getElem?,Array.getElem?_replicate];split<;>simp
 · exact Nat.le_trans List.countP_le_length (by simp)
end
def a4h (P:Program):POT→St→(St→Prop)→(RV→St→Prop)→Prop
 | .done,st,K,_=>K st
 | .stop,_,_,_=>True
 | .alt _ o t r,st,K,kx=>D1 st o.g (P6 P st (o.dst.getD 0) o.op (fun p st'=>a4h P t (x9 st' o.dst p) K kx) kx) (a4h P t (x9 st o.dst .skip) K kx)∧a4h P r st K kx
def POT.heads:POT→List Nat
 | .alt i _ _ r=>i :: r.heads
 | _=>[]
def b47 (ops:Array Oper) (t:POT) (l:Array Bool):Bool:=match t with
 | .done=>(Region.ready .any ops l).isEmpty
 | t=>!(Region.ready .any ops l).isEmpty && (Region.ready .any ops l).all fun i=>t.heads.contains i
def b9a (P:Program) (n:Nat) (ops:Array Oper):POT→Array Bool→Bool
 | .done,_=>true
 | .stop,_=>true
 | .alt i o t r,l=>(match ops[i]? with | some x=>a4w P n ops x o | none=>false) && b47 ops t (l.setIfInBounds i true) && b9a P n ops t (l.setIfInBounds i true) && b9a P n ops r l
def b49 (P:Program) (n:Nat) (ops:Array Oper) (t:POT):Bool:=b47 ops t (Array.replicate ops.size false) && b9a P n ops t (Array.replicate ops.size false)
section
variable {P:Program} {F:Ctx} {Q:Exit→Act→World→Prop} {ops:Array Oper}
def left (ops:Array Oper) (l:Array Bool):Nat:=(List.range ops.size).countP fun j=>!l.getD j false
theorem Y9 {l:Array Bool} {i:Nat} (hl:l.size=ops.size) (hr:i∈Region.ready .any ops l):left ops (l.setIfInBounds i true) < left ops l:=by
 obtain ⟨h1,h2,_⟩:=(x7 hl).1 hr
 refine a4u (List.range ops.size) (fun x _ hx=>?_) i (by simpa using h1) (by simp [h2]) (by simp [n9 (show i < l.size by omega)])
 rw [n9 (by omega)] at hx
 by_cases hxi:x=i
 · simp [hxi] at hx
 · rw [if_neg hxi] at hx;exact hx
theorem b0o {t:POT} {l:Array Bool} {fuel:Nat} {a:Act} {w:World} (ht:t≠.done) (hl:l.size=ops.size) (hf:left ops l≤fuel) (hc:b47 ops t l=true)
 (key:∀ fuel',left ops l≤fuel'+1→∀ i,i∈t.heads→i∈Region.ready .any ops l→wpOp P ops Q i (wpAny P .any ops Q fuel' (l.setIfInBounds i true)) a w):wpAny P .any ops Q fuel l a w:=by
 have hc':(Region.ready .any ops l).isEmpty=false∧∀ i∈Region.ready .any ops l,i∈t.heads:=by
  cases t with
  | done=>exact (ht rfl).elim
  | stop=>simpa [b47] using hc
  | alt i o t r=>simpa [b47] using hc
 obtain ⟨h1,h2⟩:=hc'
 cases fuel with
 | zero=>
  exfalso
  cases hr:Region.ready .any ops l with
  | nil=>rw [hr] at h1;cases h1
  | cons i _=>
   have:=Y9 hl (i:=i) (by rw [hr];simp)
   omega
 | succ fuel=>
  refine ⟨fun h0=>(by rw [h0] at h1;cases h1),fun i hi=>key fuel hf i (h2 i hi) hi⟩
theorem a4k {K:St→Prop} {kx:RV→St→Prop} (hQ:b0p F K kx Q):∀ (t:POT) (l:Array Bool) {γ:Nat→Value} {st:St} {a:Act} {w:World},l.size=ops.size→b9a P F.n ops t l=true→Inv F γ st a w→a4h P t st K kx →
 (b47 ops t l=true→∀ fuel,left ops l≤fuel→wpAny P .any ops Q fuel l a w) ∧
 ∀ fuel,left ops l≤fuel+1→∀ i,i∈t.heads→i∈Region.ready .any ops l→wpOp P ops Q i (wpAny P .any ops Q fuel (l.setIfInBounds i true)) a w
 | .done,l,γ,st,a,w,hl,hc,hI,h=>by
  refine ⟨fun hcov fuel hf=>?_,fun _ _ i hi=>by cases hi⟩
  have h0:Region.ready .any ops l=[]:=by simpa [b47] using hcov
  cases fuel with
  | zero=>exact ⟨h0,hQ.1 γ st a w hI h⟩
  | succ fuel=>exact ⟨fun _=>hQ.1 γ st a w hI h,fun i hi=>by rw [h0] at hi;cases hi⟩
 | .stop,l,γ,st,a,w,hl,hc,hI,h=>by
  exact ⟨fun hcov fuel hf=>b0o (by simp) hl hf hcov (fun _ _ i hi=>by cases hi),fun _ _ i hi=>by cases hi⟩
 | .alt j o t r,l,γ,st,a,w,hl,hc,hI,h=>by
  simp only [b9a,Bool.and_eq_true] at hc
  obtain ⟨⟨⟨h1,h2⟩,h3⟩,h4⟩:=hc
  obtain ⟨e1,e2⟩:=h
  have key:∀ fuel,left ops l≤fuel+1→∀ i,i∈(POT.alt j o t r).heads→i∈Region.ready .any ops l→wpOp P ops Q i (wpAny P .any ops Q fuel (l.setIfInBounds i true)) a w:=fun fuel hf i hi hr=>by
   by_cases hij:i=j
   · subst hij
     split at h1
     · rename_i x ho
       obtain ⟨g1,g2,g3,_⟩:=Y8 h1
       have hlt:=Y9 hl hr
       have ih:=fun {γ:Nat→Value} {st:St} {a:Act} {w:World} (hI:Inv F γ st a w) (h:a4h P t st K kx)=>(a4k hQ t (l.setIfInBounds i true) (by simpa using hl) h3 hI h).1 h2 fuel (by omega)
       unfold wpOp
       rw [ho]
       refine a0n hI h1 e1 (fun hy=>.inl ?_) (fun hn=>?_)
       · refine a2e (by cases hd:o.dst with | none=>simp | some x=>(have:=g3 x hd;have:=hI.fr.hn;simp;omega)) hI g1 hy ⟨fun γ' st' q v w' hI' hq hK=>?_,fun γ' st' r v w' hI' hr hk=>hQ.2 γ' st' a w' r v hI' hr hk⟩
         exact ih (by rw [g2];exact Z1 hI' g3 hq) hK
       · exact ih (by rw [g2];exact Z1 hI g3 .skip) hn
     · cases h1
   · have hi':i∈r.heads:=by
      rcases List.mem_cons.1 hi with h | h
      · exact (hij h).elim
      · exact h
     exact (a4k hQ r l hl h4 hI e2).2 fuel hf i hi' hr
  exact ⟨fun hcov fuel hf=>b0o (by simp) hl hf hcov key,key⟩
theorem b7m {id:Nat} {t:POT} {K:St→Prop} {kx:RV→St→Prop} {γ:Nat→Value} {st:St} {a:Act} {w:World} (hm:P.follows .mixedOrders=true) (hI:Inv F γ st a w) (hc:b49 P F.n ops t=true) (h:a4h P t st K kx) (hQ:b0p F K kx Q):(Code.region id ops true).wp P Q a w:=by
 refine wp_region_any hm ?_
 simp only [b49,Bool.and_eq_true] at hc
 have hB:Below w.heap.size w { w with drawn:=w.drawn+1 }:=⟨rfl,rfl,rfl,Nat.le_refl _,fun _ _=>rfl⟩
 exact (a4k hQ t _ (by simp) hc.2 (hI.later hB) h).1 hc.1 _ (Nat.le_trans List.countP_le_length (by simp))
end
end Go.PW
