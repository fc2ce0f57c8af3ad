/- The machine does what stepE says: literals, stores, appends; and the theorem for every operation. -/
import Derived.Test.YtfoapolbgpjfaaaGreatDoorPWj
set_option linter.unusedSectionVars false
set_option linter.unusedSimpArgs false
set_option linter.unusedVariables false
namespace Go.PW
variable [GF]
open Go.RowKit
section
variable {P:Program} {F:Ctx} {γ:Nat→Value} {st:St} {a:Act} {w:World} {o:Oper} {K:Act→World→Prop} {Q:Exit→Act→World→Prop}
theorem Z4 (vs:Array Value) (j:Nat):vs.getD j undef=vs.toList.getD j undef:=by simp [Array.getD_eq_getD_getElem?,List.getD_eq_getElem?_getD]
theorem b45 (hI:Inv F γ st a w) {sz:Nat} {x:Opd} {y:Operand} {xs:List Opd} {rs:List RV} (hc:i7 x y=true) (h:elems st sz (x :: xs)=some rs) :
 ∃ r rs',rs=r :: rs'∧elems st sz xs=some rs'∧r.cells.length=sz∧(a.eval y).cells.size=sz ∧
  ∀ j,j < sz→RepR (i8 F.L γ st.mem) w (r.cells.getD j .nilptr) ((a.eval y).cells.getD j undef)∧((a.eval y).cells.getD j undef).oneCell'=true:=by
 have hp:=j5 hI hc
 simp only [elems] at h
 split at h
 · rename_i r rs' e1 e2
   split at h
   · rename_i hh
     simp only [Option.some.injEq] at h
     rw [e1] at hp
     have hs:(PV.val r).solid st.mem=true:=by
      cases r with
      | agg cs=>simpa [PV.solid,RV.cells] using hh.2
      | _=>simpa [PV.solid,PV.one,RV.cells] using hh.2
     obtain ⟨k1,k2⟩:=V1 hI hp hs
     have hcl:(PV.val r).cells=r.cells.map .val:=by cases r<;>rfl
     rw [hcl,List.length_map] at k1 k2
     refine ⟨r,rs',h.symm,e2,hh.1,by omega,fun j hj=>?_⟩
     have:=k2 j (by omega)
     rw [Q4 _ _ (by omega)] at this
     exact ⟨this.1.valI,this.2⟩
   · cases h
 · rename_i cs rs' e1 e2
   split at h
   · rename_i us hv
     split at h
     · rename_i hh
       simp only [Option.some.injEq] at h
       rw [e1] at hp
       obtain ⟨vs,hval,hs,hr⟩:=hp.aggI
       obtain ⟨hl,hr'⟩:=a13 hv (fun j=>vs.getD j undef) hr
       refine ⟨.agg us,rs',h.symm,e2,hh.1,by rw [hval];simp only [Value.cells];omega,fun j hj=>?_⟩
       rw [hval]
       simp only [RV.cells,Value.cells]
       have:=hr' j (by omega)
       exact ⟨this,oneR this (List.all_eq_true.1 hh.2 _ (R5 (by omega)))⟩
     · cases h
   · cases h
 · cases h
theorem a8l (hI:Inv F γ st a w) {sz:Nat} (hsz:0 < sz):∀ {xs:List Opd} {ys:List (Nat×Operand)} {k:Nat} {rs:List RV} {vs:Array Value},a6e k xs ys=true→elems st sz xs=some rs→(k+xs.length)*sz≤vs.size →
 ∃ us,Instr.fill (fun i=>some (i*sz,sz)) vs (ys.map fun (i,x)=>(i,a.eval x))=some us∧us.size=vs.size∧rs.length=xs.length∧(∀ j,j < k*sz→us.getD j undef=vs.getD j undef)∧(∀ r∈rs,r.cells.length=sz) ∧
  ∀ i c,i < rs.length→c < sz→RepR (i8 F.L γ st.mem) w ((rs.getD i .nilptr).cells.getD c .nilptr) (us.getD ((k+i)*sz+c) undef)∧(us.getD ((k+i)*sz+c) undef).oneCell'=true
 | [],[],k,rs,vs,_,he,_=>by
  simp [elems] at he
  subst he
  exact ⟨vs,rfl,rfl,rfl,fun _ _=>rfl,fun r hr=>by simp at hr,fun i c hi=>by simp at hi⟩
 | x :: xs,(i,y) :: ys,k,rs,vs,hc,he,hb=>by
  simp only [a6e,Bool.and_eq_true,beq_iff_eq] at hc
  obtain ⟨⟨rfl,h2⟩,h3⟩:=hc
  obtain ⟨r,rs',rfl,e2,hrl,hvs,hr⟩:=b45 hI h2 he
  simp only [List.length_cons] at hb
  have hb1:i*sz+sz≤vs.size:=by
   have:(i+1)*sz≤(i+(xs.length+1))*sz:=Nat.mul_le_mul_right _ (by omega)
   rw [Nat.add_mul] at this;omega
  have hT:=a3i vs (a.eval y).cells (i*sz) (by omega)
  have hsz':((a.eval y).cells.zipIdx.foldl (fun cs (x:Value×Nat)=>cs.setIfInBounds (i*sz+x.2) x.1) vs).size=vs.size:=by
   rw [← Array.length_toList,hT,J7 _ _ _ (by simp;omega)];simp
  obtain ⟨us,g1,g2,g3,g4,g5,g6⟩:=a8l hI hsz (vs:=(a.eval y).cells.zipIdx.foldl (fun cs (x:Value×Nat)=>cs.setIfInBounds (i*sz+x.2) x.1) vs) h3 e2 (by rw [hsz'];rw [show i+1+xs.length=i+(xs.length+1) from by omega];exact hb)
  have hread:∀ j,((a.eval y).cells.zipIdx.foldl (fun cs (x:Value×Nat)=>cs.setIfInBounds (i*sz+x.2) x.1) vs).getD j undef=if i*sz≤j∧j < i*sz+sz then (a.eval y).cells.getD (j - i*sz) undef else vs.getD j undef:=fun j=>by
   rw [Z4,hT,V2 _ _ _ _ _ (by simp;omega)]
   simp only [Array.length_toList,hvs,Z4]
  refine ⟨us,?_,by rw [g2,hsz'],by simp [g3],fun j hj=>?_,fun r' hr'=>?_,fun i' c hi' hc=>?_⟩
  · show Instr.fill _ vs ((i,a.eval y) :: ys.map fun (i,x)=>(i,a.eval x))=some us
    simp only [Instr.fill]
    rw [if_neg (by simp;omega)]
    exact g1
  · rw [g4 j (by rw [Nat.add_mul];omega),hread j,if_neg (by omega)]
  · rcases List.mem_cons.1 hr' with rfl | h
    · exact hrl
    · exact g5 r' h
  · cases i' with
    | zero=>
     simp only [List.getD_cons_zero,Nat.add_zero]
     rw [g4 (i*sz+c) (by rw [Nat.add_mul];omega),hread,if_pos (by omega),show i*sz+c - i*sz=c from by omega]
     exact hr c hc
    | succ i'=>
     simp only [List.getD_cons_succ]
     have:=g6 i' c (by simpa using hi') hc
     rwa [show i+1+i'=i+(i'+1) from by omega] at this
 | [],_ :: _,_,_,_,hc,_,_=>by simp [a6e] at hc
 | _ :: _,[],_,_,_,hc,_,_=>by simp [a6e] at hc
theorem b5v (hI:Inv F γ st a w) (d E sz:Nat) (hdn:d < 900) (hsz:0 < sz) (rs:List RV) (us:Array Value) (hl:us.size=rs.length*sz) (hmax:rs.length≤maxLen) (hcl:∀ r∈rs,r.cells.length=sz)
 (hr:∀ i c,i < rs.length→c < sz→RepR (i8 F.L γ st.mem) w ((rs.getD i .nilptr).cells.getD c .nilptr) (us.getD (i*sz+c) undef)∧(us.getD (i*sz+c) undef).oneCell'=true) :
 Inv F (upd d (.slice (some ⟨w.heap.size,0,none⟩) rs.length rs.length) γ) { env:=fun x=>(st.env x).kill (· == d),mem:=upd d (.row E sz rs) fun x=>(st.mem x).kill (· == d) } a (w.alloc (.cells us E)):=by
 refine hI.alloc d (.cells us E) _ (.row E sz rs) rfl (fun γ' L' hγ hd hkk=>?_) rfl hdn
 refine ⟨us.toList,⟨by simp [hl],.inr ⟨w.heap.size,rs.length,us,rfl,.inl hI.fr.size,heap_alloc_new w _,Nat.le_refl _,hmax,hl,?_⟩⟩,hsz,⟨hcl,fun i c hi hc=>?_⟩,fun v hv=>?_⟩
 · exact List.take_of_length_le (by simp [hl])
 · rw [← Z4];exact (hr i c hi hc).1.mono hkk
 · obtain ⟨j,hj,rfl⟩:=List.getElem_of_mem hv
   have hj':j < us.size:=by simpa using hj
   have hdm:j / sz < rs.length:=Nat.div_lt_of_lt_mul (by rw [Nat.mul_comm];omega)
   have:=(hr (j / sz) (j % sz) hdm (Nat.mod_lt _ hsz)).2
   rw [show j / sz*sz+j % sz=j from by rw [Nat.mul_comm];exact Nat.div_add_mod j sz] at this
   simpa [Array.getD_eq_getD_getElem?,Array.getElem?_eq_getElem hj'] using this
end
end Go.PW
