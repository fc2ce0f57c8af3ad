/- A call keeps what a frame knows. -/
import Derived.Test.YtfoapolbgpjfaaaGreatDoorPWg
set_option linter.unusedSectionVars false
set_option linter.unusedSimpArgs false
set_option linter.unusedVariables false
namespace Go.PW
variable [GF]
open Go.RowKit
def PV.ownIds:PV→List Nat
 | .own id=>[id]
 | .agg cs=>cs.filterMap fun | .own id=>some id | _=>none
 | _=>[]
theorem a52 {p:PV} (h:p.noOwn=true):p.ownIds=[]:=by
 cases p<;>simp [PV.noOwn,PV.ownIds] at *
 intro q hq
 have:=h q hq
 cases q<;>simp at this ⊢
section
variable {P:Program} {F:Ctx} {γ:Nat→Value} {st:St} {a:Act} {w:World} {o:Oper} {K:Act→World→Prop} {Q:Exit→Act→World→Prop}
def Lc (F:Ctx) (γ:Nat→Value) (M:Nat→MObj) (ids:List Nat) (b:Nat):Prop:=i8 F.L γ M b∧∀ id∈ids,Value.blk (γ id)≠some b
theorem Z5 (ids:List Nat):Keeps (i8 F.L γ st.mem) w (Lc F γ st.mem ids) w:=fun b o v h1 h2=>⟨fun h=>h1 h.1,h2⟩
theorem b7z (hI:Inv F γ st a w) {ids:List Nat} {p:PV} {v:Value} {r:RV} (hr:p.rv? st.mem=some r) (hids:∀ i,p=.own i→i∈ids) (hp:RepP γ (i8 F.L γ st.mem) w p v):RepR (Lc F γ st.mem ids) w r v:=by
 cases p<;>simp [PV.rv?] at hr
 · subst hr;exact hp.valI.mono (Z5 ids)
 · subst hr;rw [hp.empI];exact .list0 _ _ _
 · rename_i id
   split at hr
   · rename_i E sz xs hm
     simp only [Option.some.injEq] at hr
     subst hr
     rw [hp.ownI]
     obtain ⟨vs,h1,h2,h3,h4⟩:=hI.mem.row id E sz xs hm
     rcases h1.2 with ⟨he,h0⟩ | ⟨g,cap,cur,he,hg,hh,hn,hc,hs,ht⟩
     · have:xs=[]:=List.eq_nil_of_length_eq_zero h0
       subst this
       rw [he];exact .list0 _ _ _
     · rw [he]
       by_cases hx:xs=[]
       · subst hx;exact .list0 _ _ _
       · have hv:=h1.cells (g:=g) (by rw [he];rfl)
         refine .list sz xs g 0 cap (fun j=>vs.getD j undef) hx h2 hn (fun hL=>hL.2 id (hids id rfl) (by rw [he];rfl)) (fun j hj=>?_) h3.1 (fun i k hi hk=>(h3.2 i k hi hk).mono (Z5 ids))
         have hlt:j < vs.length:=by rw [h1.1];exact hj
         have:=hv j (vs.getD j undef) (by simp [List.getD_eq_getElem?_getD,List.getElem?_eq_getElem hlt])
         have hadd:(⟨g,0,none⟩:Addr).add j=⟨g,0+j,none⟩:=by unfold Addr.add;split<;>simp_all
         rwa [hadd] at this
   · cases hr
theorem b5k (hI:Inv F γ st a w) {ids:List Nat}:∀ {cs:List PV} {rs:List RV},b3w st.mem cs=some rs→(∀ c∈cs,∀ i,c=.own i→i∈ids)→∀ (f:Nat→Value),(∀ j,j < cs.length→RepP γ (i8 F.L γ st.mem) w (cs.getD j .undef) (f j)) →
 rs.length=cs.length∧∀ j,j < cs.length→RepR (Lc F γ st.mem ids) w (rs.getD j .nilptr) (f j)
 | [],rs,h,_,f,_=>by simp [b3w] at h;subst h;exact ⟨rfl,fun j hj=>by simp at hj⟩
 | p :: ps,rs,h,hids,f,hf=>by
  simp only [b3w] at h
  split at h
  · rename_i r rs' h1 h2
    simp only [Option.some.injEq] at h
    subst h
    obtain ⟨hl,hr⟩:=b5k hI h2 (fun c hc=>hids c (by simp [hc])) (fun j=>f (j+1)) (fun j hj=>by simpa using hf (j+1) (by simpa using hj))
    refine ⟨by simp [hl],fun j hj=>?_⟩
    cases j with
    | zero=>simpa using b7z hI h1 (hids p (by simp)) (by simpa using hf 0 (by simp))
    | succ j=>simpa using hr j (by simpa using hj)
  · cases h
theorem a13 {L:Nat→Prop}:∀ {cs:List PV} {rs:List RV},o9 cs=some rs→∀ (f:Nat→Value),(∀ j,j < cs.length→RepP γ L w (cs.getD j .undef) (f j))→rs.length=cs.length∧∀ j,j < cs.length→RepR L w (rs.getD j .nilptr) (f j)
 | [],rs,h,f,_=>by simp [o9] at h;subst h;exact ⟨rfl,fun j hj=>by simp at hj⟩
 | p :: ps,rs,h,f,hf=>by
  cases p<;>simp [o9] at h
  · rename_i r
    obtain ⟨rs',h1,rfl⟩:=h
    obtain ⟨hl,hr⟩:=a13 h1 (fun j=>f (j+1)) (fun j hj=>by simpa using hf (j+1) (by simpa using hj))
    refine ⟨by simp [hl],fun j hj=>?_⟩
    cases j with
    | zero=>simpa using (show RepP γ L w (.val r) (f 0) by simpa using hf 0 (by simp)).valI
    | succ j=>simpa using hr j (by simpa using hj)
  · rename_i sz
    obtain ⟨rs',h1,rfl⟩:=h
    obtain ⟨hl,hr⟩:=a13 h1 (fun j=>f (j+1)) (fun j hj=>by simpa using hf (j+1) (by simpa using hj))
    refine ⟨by simp [hl],fun j hj=>?_⟩
    cases j with
    | zero=>
     have:=(show RepP γ L w (.emp sz) (f 0) by simpa using hf 0 (by simp)).empI
     simp only [List.getD_cons_zero]
     rw [this];exact .list0 _ _ _
    | succ j=>simpa using hr j (by simpa using hj)
theorem b6b (hI:Inv F γ st a w) {ids:List Nat} {id:Nat} {cs:List PV} {rs:List RV} (hm:st.mem id=.box cs) (hv:o9 cs=some rs) (hrow:∀ i∈ids,∃ E sz xs,st.mem i=.row E sz xs) :
 ∃ b,γ id=.pointer (some ⟨b,0,none⟩)∧ArgRep (Lc F γ st.mem ids) w (.box rs) (.pointer (some ⟨b,0,none⟩)) [b]:=by
 obtain ⟨b,arr,T,h1,h2,h3,h4,h5⟩:=hI.mem.box id cs hm
 obtain ⟨hl,hr⟩:=a13 hv (fun j=>arr.getD j undef) (fun j hj=>(h5 j hj).1)
 refine ⟨b,h1,.box rs b arr T h2 (by omega) ⟨.inr ⟨id,by rw [hm];rfl,by rw [h1];rfl⟩,fun i hi hb=>?_⟩ (fun j hj=>(hr j (by omega)).mono (Z5 ids)) (fun j hj=>(h5 j (by omega)).2)⟩
 obtain ⟨E,sz,xs,hrw⟩:=hrow i hi
 have:=hI.mem.inj i id b (by rw [hrw];rfl) (by rw [hm];rfl) hb (by rw [h1];rfl)
 subst this
 rw [hrw] at hm
 cases hm
theorem b42 (hI:Inv F γ st a w) {ids:List Nat} (hrow:∀ i∈ids,∃ E sz xs,st.mem i=.row E sz xs):∀ {ps:List PV} {as:List AV},avOf.go st.mem ps=some as→∀ (vs:List Value),vs.length=ps.length →
 (∀ j,j < ps.length→RepP γ (i8 F.L γ st.mem) w (ps.getD j .undef) (vs.getD j undef)) →
 ∃ ms,ArgsRep (Lc F γ st.mem ids) w as vs ms∧ms.length=(PV.boxIds.go ps).length∧∀ j,j < ms.length→Value.blk (γ ((PV.boxIds.go ps).getD j 0))=some (ms.getD j 0)∧∃ cs,st.mem ((PV.boxIds.go ps).getD j 0)=.box cs
 | [],as,h,vs,hl,hf=>by
  simp [avOf.go] at h
  subst h
  have:vs=[]:=List.eq_nil_of_length_eq_zero (by simpa using hl)
  subst this
  exact ⟨[],.nil,rfl,fun j hj=>by simp at hj⟩
 | p :: ps,as,h,vs,hl,hf=>by
  cases vs with
  | nil=>simp at hl
  | cons v vs=>
   have hp:=hf 0 (by simp)
   simp only [List.getD_cons_zero] at hp
   have hf':∀ j,j < ps.length→RepP γ (i8 F.L γ st.mem) w (ps.getD j .undef) (vs.getD j undef):=fun j hj=>by simpa using hf (j+1) (by simpa using hj)
   cases p with
   | val r=>
    simp [avOf.go] at h
    obtain ⟨as',h1,rfl⟩:=h
    obtain ⟨ms,h2,h3,h4⟩:=b42 hI hrow h1 vs (by simpa using hl) hf'
    exact ⟨ms,by simpa using ArgsRep.cons _ _ _ _ [] ms (.val r v (hp.valI.mono (Z5 ids))) h2,by simpa [PV.boxIds.go] using h3,by simpa [PV.boxIds.go] using h4⟩
   | ptr id off=>
    cases off with
    | succ n=>simp [avOf.go] at h
    | zero=>
     simp only [avOf.go] at h
     split at h
     · rename_i cs hm
       split at h
       · rename_i rs as' hv h1
         simp only [Option.some.injEq] at h
         subst h
         obtain ⟨b,hg,hb⟩:=b6b hI (ids:=ids) hm hv hrow
         obtain ⟨ms,h2,h3,h4⟩:=b42 hI hrow h1 vs (by simpa using hl) hf'
         obtain ⟨b',hg',hv'⟩:=hp.ptrI
         rw [hg] at hg'
         simp only [Value.pointer.injEq,Option.some.injEq,Addr.mk.injEq,and_true] at hg'
         subst hg'
         subst hv'
         refine ⟨b :: ms,by simpa using ArgsRep.cons _ _ _ _ [b] ms hb h2,by simp [PV.boxIds.go,h3],fun j hj=>?_⟩
         cases j with
         | zero=>simp only [PV.boxIds.go,List.getD_cons_zero];exact ⟨by rw [hg];rfl,cs,hm⟩
         | succ j=>simpa [PV.boxIds.go] using h4 j (by simpa using hj)
       · cases h
     · cases h
   | _=>simp [avOf.go] at h
theorem b1t (hI:Inv F γ st a w) {ids:List Nat} (hrow:∀ i∈ids,∃ E sz xs,st.mem i=.row E sz xs):∀ {ps:List PV} {as:List AV},a0z st.mem ps=some as→(∀ p∈ps,∀ i∈p.ownIds,i∈ids)→∀ (vs:List Value),vs.length=ps.length →
 (∀ j,j < ps.length→RepP γ (i8 F.L γ st.mem) w (ps.getD j .undef) (vs.getD j undef)) →
 ∃ ms,ArgsRep (Lc F γ st.mem ids) w as vs ms∧ms.length=(boxIds ps).length∧∀ j,j < ms.length→Value.blk (γ ((boxIds ps).getD j 0))=some (ms.getD j 0)∧∃ cs,st.mem ((boxIds ps).getD j 0)=.box cs
 | [],as,h,_,vs,hl,hf=>by
  simp [a0z] at h
  subst h
  have:vs=[]:=List.eq_nil_of_length_eq_zero (by simpa using hl)
  subst this
  exact ⟨[],.nil,rfl,fun j hj=>by simp at hj⟩
 | p :: ps,as,h,hids,vs,hl,hf=>by
  cases vs with
  | nil=>simp at hl
  | cons v vs=>
   have hp:=hf 0 (by simp)
   simp only [List.getD_cons_zero] at hp
   have hf':∀ j,j < ps.length→RepP γ (i8 F.L γ st.mem) w (ps.getD j .undef) (vs.getD j undef):=fun j hj=>by simpa using hf (j+1) (by simpa using hj)
   simp only [a0z] at h
   split at h
   · rename_i av as' h1 h2
     simp only [Option.some.injEq] at h
     subst h
     obtain ⟨ms,g2,g3,g4⟩:=b1t hI hrow h2 (fun q hq=>hids q (by simp [hq])) vs (by simpa using hl) hf'
     have hids':=hids p (by simp)
     have join:∀ ms1,ArgRep (Lc F γ st.mem ids) w av v ms1→ms1.length=p.boxIds.length→(∀ j,j < ms1.length→Value.blk (γ (p.boxIds.getD j 0))=some (ms1.getD j 0)∧∃ cs,st.mem (p.boxIds.getD j 0)=.box cs) →
      ∃ ms,ArgsRep (Lc F γ st.mem ids) w (av :: as') (v :: vs) ms∧ms.length=(boxIds (p :: ps)).length∧∀ j,j < ms.length→Value.blk (γ ((boxIds (p :: ps)).getD j 0))=some (ms.getD j 0)∧∃ cs,st.mem ((boxIds (p :: ps)).getD j 0)=.box cs:=fun ms1 k1 k2 k3=>by
      refine ⟨ms1++ms,.cons _ _ _ _ ms1 ms k1 g2,by simp [boxIds,k2,g3],fun j hj=>?_⟩
      by_cases hj1:j < ms1.length
      · have:=k3 j hj1
        simpa [boxIds,List.getD_eq_getElem?_getD,List.getElem?_append,hj1,show j < p.boxIds.length by omega] using this
      · have:=g4 (j - ms1.length) (by simp at hj;omega)
        simpa [boxIds,List.getD_eq_getElem?_getD,List.getElem?_append,hj1,show ¬ j < p.boxIds.length by omega,← k2] using this
     cases p with
     | val r=>
      simp [avOf] at h1
      subst h1
      exact join [] (.val r v (hp.valI.mono (Z5 ids))) rfl (fun j hj=>by simp at hj)
     | emp sz=>
      simp [avOf] at h1
      subst h1
      exact join [] (.val _ v (by rw [hp.empI];exact .list0 _ _ _)) rfl (fun j hj=>by simp at hj)
     | own id=>
      simp only [avOf] at h1
      split at h1
      · rename_i E sz xs hm
        simp only [Option.some.injEq] at h1
        subst h1
        exact join [] (.val _ v (b7z hI (p:=.own id) (by simp [PV.rv?,hm]) (fun i hi=>hids' i (by cases hi;simp [PV.ownIds])) hp)) rfl (fun j hj=>by simp at hj)
      · cases h1
     | ptr id off=>
      cases off with
      | succ n=>simp [avOf] at h1
      | zero=>
       simp only [avOf] at h1
       split at h1
       · rename_i cs hm
         simp only [Option.map_eq_some_iff] at h1
         obtain ⟨rs,hv,rfl⟩:=h1
         obtain ⟨b,hg,hb⟩:=b6b hI (ids:=ids) hm hv hrow
         obtain ⟨b',hg',hv'⟩:=hp.ptrI
         rw [hg] at hg'
         simp only [Value.pointer.injEq,Option.some.injEq,Addr.mk.injEq,and_true] at hg'
         subst hg'
         subst hv'
         refine join [b] hb rfl (fun j hj=>?_)
         have:j=0:=by simp at hj;omega
         subst this
         exact ⟨by simp [PV.boxIds,hg,Value.blk],cs,by simpa [PV.boxIds] using hm⟩
       · cases h1
     | agg cs=>
      simp [avOf] at h1
      obtain ⟨rs,h1,rfl⟩:=h1
      obtain ⟨us,hv,hs,hr⟩:=hp.aggI
      obtain ⟨hl',hr'⟩:=b5k hI (ids:=ids) h1 (fun c hc i hi=>hids' i (by
       subst hi
       simp only [PV.ownIds,List.mem_filterMap]
       exact ⟨.own i,hc,rfl⟩)) (fun j=>us.getD j undef) hr
      subst hv
      exact join [] (.val _ _ (.agg rs us (by omega) (fun i hi=>hr' i (by omega)))) rfl (fun j hj=>by simp at hj)
     | fn f caps=>
      simp only [avOf] at h1
      split at h1
      · rename_i as1 hgo
        simp only [Option.some.injEq] at h1
        subst h1
        obtain ⟨us,hv,hs,hr⟩:=hp.fnI
        obtain ⟨ms1,k1,k2,k3⟩:=b42 hI hrow hgo us.toList (by simpa using hs) (fun j hj=>by
         have:=hr j hj
         simpa [Array.getD_eq_getD_getElem?,List.getD_eq_getElem?_getD] using this)
        subst hv
        exact join ms1 (by simpa using ArgRep.fn f as1 us.toList ms1 k1) (by simpa [PV.boxIds] using k2) (by simpa [PV.boxIds] using k3)
      · cases h1
     | _=>simp [avOf] at h1
   · cases h
end
end Go.PW
