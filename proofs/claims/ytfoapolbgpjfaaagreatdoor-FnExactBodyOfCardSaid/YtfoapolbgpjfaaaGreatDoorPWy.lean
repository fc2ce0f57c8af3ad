/- The machine does what stepE says: the theorem for every operation. -/
import Derived.Test.YtfoapolbgpjfaaaGreatDoorPWz
set_option linter.unusedSectionVars false
set_option linter.unusedSimpArgs false
set_option linter.unusedVariables false
namespace Go.PW
variable [GF]
open Go.RowKit
section
variable {P:Program} {F:Ctx} {γ:Nat→Value} {st:St} {a:Act} {w:World} {o:Oper} {K:Act→World→Prop} {Q:Exit→Act→World→Prop}
theorem a2e {p:POp} {d:Nat} (hdn:d < 900) {K':PV→St→Prop} {kx:RV→St→Prop} (hI:Inv F γ st a w) (hc:a3m P o p=true) (h:P6 P st d p K' kx) (hA:a1y F a o.dst K' kx K Q):o.wp P a w K Q:=by
 have still:m8 P o p=true→J6 st p (fun q=>K' q st)→o.wp P a w K Q:=fun hc h=>b10 hI hc h fun v q hr hk=>hA.1 γ st q v w hI hr hk
 cases p with
 | alloc z=>
  obtain ⟨dst,op,type,pos,after,guard⟩:=o
  cases op<;>simp [a3m] at hc
  rename_i t
  split at hc
  · rename_i i hi
    split at hc
    · rename_i v hz
      obtain ⟨h1,h2⟩:=a4v (γ:=γ) (L:=i8 F.L γ st.mem) (w:=w) hc
      have hk:PV.killL (· == d) z=z:=by
       have:∀ {ps:List PV} {vs:List Value},D5 ps vs=true→PV.killL (· == d) ps=ps:=by
        intro ps
        induction ps with
        | nil=>intro vs _;rfl
        | cons p ps ih=>
         intro vs h
         cases vs with
         | nil=>simp [D5] at h
         | cons v vs=>
          simp only [D5,Bool.and_eq_true] at h
          simp only [PV.killL,ih h.2]
          have:p.kill (· == d)=p:=by
           cases p<;>first | rfl | (exact absurd h.1 (by simp [a0f]))
          rw [this]
       exact this hc
      have hI':=b5w hI d hdn z v.cells t h1 hk h2
      refine k6 (v:=.pointer (some ⟨w.heap.size,0,none⟩)) (w':=w.alloc (.cells v.cells t)) ?_ (hA.1 _ _ _ _ _ hI' (.ptr d 0 w.heap.size (l9 _ _ _)) h)
      simp only [execOp]
      refine P7 ?_
      unfold Instr.alloc
      simp [zeroValue,typeInfo,hi,hz,a8d]
    · cases hc
  · cases hc
 | box x=>
  obtain ⟨dst,op,type,pos,after,guard⟩:=o
  cases op<;>simp [a3m] at hc
  rename_i t y
  obtain ⟨h1,h2,h3⟩:=h
  obtain ⟨k1,k2⟩:=V1 hI (j5 hI hc) h1
  have hI':=b5w hI d hdn _ (a.eval y).cells t k1 h2 k2
  refine k6 (v:=.pointer (some ⟨w.heap.size,0,none⟩)) (w':=w.alloc (.cells (a.eval y).cells t)) ?_ (hA.1 _ _ _ _ _ hI' (.ptr d 0 w.heap.size (l9 _ _ _)) h3)
  simp only [execOp]
  refine P7 ?_
  unfold Instr.box
  simp [a8d]
 | build z parts=>
  obtain ⟨dst,op,type,pos,after,guard⟩:=o
  cases op<;>simp [a3m] at hc
  rename_i t ps
  split at hc
  · rename_i i fs hi hu
    split at hc
    · rename_i v places hz hp
      simp only [Bool.and_eq_true] at hc
      obtain ⟨h1,h2⟩:=a4v (γ:=γ) (L:=i8 F.L γ st.mem) (w:=w) hc.1
      obtain ⟨cs',us,e1,e2,e3,e4⟩:=a8w hI hc.2 h h1 (fun j hj=>(h2 j hj).1)
      refine k6 (v:=.agg us) ?_ (hA.1 _ _ _ _ _ hI (a16 e2 e3) e4)
      simp only [execOp]
      refine P7 (run_build w t _ us ?_)
      unfold Program.built
      simp only [hi,hu,hz,hp]
      rw [← e1]
      congr 1
      simp
    · cases hc
  · cases hc
 | lit E sz xs=>
  obtain ⟨dst,op,type,pos,after,guard⟩:=o
  cases op<;>simp [a3m] at hc
  rename_i t n ps
  split at hc
  · rename_i e hu
    simp only [Bool.and_eq_true,beq_iff_eq,decide_eq_true_eq] at hc
    obtain ⟨⟨⟨⟨⟨rfl,rfl⟩,h2⟩,h3⟩,h4⟩,h5⟩:=hc
    split at h5
    · rename_i i hi
      simp only [Bool.and_eq_true,beq_iff_eq] at h5
      obtain ⟨h6,h7⟩:=h5
      split at h7
      · rename_i v hz
        have hvs:v.cells.size=sz:=by simpa using h7
        simp only [P6] at h
        split at h
        · rename_i rs hrs
          obtain ⟨us,g1,g2,g3,g4,g5,g6⟩:=a8l hI h3 (k:=0) (vs:=if xs.length*sz=0 then ((Array.range (xs.length*sz)).map (#[][· % 0]!)) else ((Array.range (xs.length*sz)).map (v.cells[· % v.cells.size]!))) h4 hrs (by split<;>simp)
          have hus:us.size=rs.length*sz:=by rw [g2,g3];split<;>simp
          have hI':=b5v hI d e sz hdn h3 rs us hus (by unfold maxLen;have:rs.length≤rs.length*sz:=Nat.le_mul_of_pos_right _ h3;rw [g3] at *;omega) g5 (fun i c hi hc=>by simpa using g6 i c hi hc)
          refine k6 (v:=.slice (some ⟨w.heap.size,0,none⟩) xs.length xs.length) (w':=w.alloc (.cells us e)) ?_ (hA.1 _ _ _ _ _ hI' (.own d _ (by rw [l9,g3])) h)
          simp only [execOp]
          refine P7 ?_
          subst h6
          refine a1i hu hi hz h2 ?_
          rw [← g1]
          congr 1
          simp
        · exact h.elim
      · cases h7
    · cases h5
  · cases hc
 | store n x y=>
  obtain ⟨dst,op,type,pos,after,guard⟩:=o
  cases op<;>simp [a3m] at hc
  rename_i t x' y'
  obtain ⟨⟨h1,h2⟩,h3⟩:=hc
  obtain ⟨i,hi,hn⟩:∃ i,P.info? t=some i∧i.size=n:=by
   split at h3
   · rename_i i hi;exact ⟨i,hi,by simpa using h3⟩
   · cases h3
  have hx:=j5 hI h1
  have hy:=j5 hI h2
  obtain ⟨hcn,h⟩:=h
  have fin:∀ w' st',(Instr.storeAt t (a.eval x') (a.eval y')).run P w=.ok () w'→Inv F γ st' a w'→K' .skip st'→Oper.wp P { dst,op:=.store t x' y',type,pos,after,guard } a w K Q:=fun w' st' hr hI' hk=>by
   refine a25 (w':=w') ?_ (hA.1 _ _ _ _ _ hI' .skip hk)
   simp [execOp,hr]
  split at h
  · rename_i id off e
    rw [e] at hx
    obtain ⟨b,hg,hv⟩:=hx.ptrI
    split at h
    · rename_i cs hm
      obtain ⟨g1,g2,g3⟩:=h
      obtain ⟨w',hr,hI'⟩:=b6k hI (a:=a) hi hn hg hm hy g1 hcn g2
      exact fin w' _ (by rw [hv];exact hr) hI' g3
    · exact h.elim
  · rename_i id j s off e
    rw [e] at hx
    obtain ⟨b,n',c',hg,hv⟩:=hx.eltI
    split at h
    · rename_i E sz xs hm
      split at h
      · rename_i rs hvals
        obtain ⟨rfl,g1,g2,g3,g4⟩:=h
        obtain ⟨w',hr,hI'⟩:=b6j hI hi hn hg hm g1 hy g2 hcn hvals g3
        exact fin w' _ (by rw [hv];exact hr) hI' g4
      · exact h.elim
    · exact h.elim
  · exact h.elim
 | app E sz bytes x y=>
  obtain ⟨dst,op,type,pos,after,guard⟩:=o
  cases op<;>simp [a3m] at hc
  rename_i c
  obtain ⟨callee,args,argTypes⟩:=c
  cases callee<;>try (simp at hc;done)
  rename_i bi
  cases bi<;>try (simp at hc;done)
  dsimp only at hc
  obtain ⟨x',y',t,ha,hat,h1,h2,hu,i,z,hi,hs,hby,hz,hzs,hsz⟩:∃ x' y' t,args=#[x',y']∧argTypes=#[t,t]∧i7 x x'=true∧i7 y y'=true∧P.underlying t=some (.slice E) ∧
   ∃ i z,P.info? E=some i∧i.size=sz∧i.bytes=bytes∧i.zero=some z∧z.cells.size=sz∧0 < sz:=by
   split at hc
   · rename_i x' y' t t' e1 e2
     simp only [Bool.and_eq_true,beq_iff_eq] at hc
     obtain ⟨⟨⟨rfl,g1⟩,g2⟩,g3⟩:=hc
     split at g3
     · rename_i e he
       simp only [Bool.and_eq_true,beq_iff_eq,decide_eq_true_eq] at g3
       obtain ⟨⟨rfl,g4⟩,g5⟩:=g3
       split at g5
       · rename_i i hi
         simp only [Bool.and_eq_true,beq_iff_eq] at g5
         obtain ⟨⟨g6,g7⟩,g8⟩:=g5
         split at g8
         · rename_i z hz
           exact ⟨x',y',t,by apply Array.toList_inj.1;simp [e1],by apply Array.toList_inj.1;simp [e2],g1,g2,he,i,z,hi,g6,g7,hz,by simpa using g8,g4⟩
         · cases g8
       · cases g5
     · cases g3
   · cases hc
  subst ha;subst hat
  have hx:=j5 hI h1
  have hy:=j5 hI h2
  simp only [P6] at h
  split at h
  · exact h.elim
  · rename_i ys hys
    obtain ⟨hone,h⟩:=h
    have hsrc:b1v (i8 F.L γ st.mem) w sz ys (a.eval y'):=by
     split at hys
     · rename_i s ys' e
       split at hys
       · rename_i hh
         simp only [Option.some.injEq] at hys
         subst hys
         rw [e] at hy
         exact b13 hy.valI hh hone
       · cases hys
     · rename_i s e
       simp only [Option.some.injEq] at hys
       subst hys
       rw [e] at hy
       exact .inl ⟨rfl,none,0,hy.empI⟩
     · rename_i id e
       split at hys
       · rename_i E' s ys' hm
         split at hys
         · rename_i hh
           simp only [Option.some.injEq] at hys
           subst hys
           subst hh
           rw [e] at hy
           rw [hy.ownI]
           exact b3v hI hm
         · cases hys
       · cases hys
     · cases hys
    have fin:∀ v' w',(Builtin.append_ #[t,t] type #[a.eval x',a.eval y']).run P w=.ok v' w'→K (a.put dst v') w'→Oper.wp P { dst,op:=.call { callee:=.builtin .append,args:=#[x',y'],argTypes:=#[t,t] },type,pos,after,guard } a w K Q:=fun v' w' hr hk=>by
     refine k6 (w':=w') ?_ hk
     simp [execOp,resolve,invoke,builtin,hr]
    split at h
    · rename_i id e
      rw [e] at hx
      split at h
      · rename_i E' sz' xs hm
        obtain ⟨h9,_,rfl,rfl,g1,g2,g3⟩:=h
        obtain ⟨vs,k1,k2,k3,k4⟩:=hI.mem.row id E' sz' xs hm
        obtain ⟨v',w',news,hr,m1,m2,m3,m4,m5,m6⟩:=a9h (ty:=type) hu hi hz hs hby hzs hsz k1.own0 hsrc g2 g1 (Nat.zero_le _)
        have hI':=a9i hI id E' sz' h9 hsz (.inl ⟨hm,rfl⟩) k3 k4 k1.1 m5 m4 (World.rowAt.of m1 fun b hb=>by
         rcases m6 b hb with h | h
         · exact .inl (Nat.le_trans hI.fr.size h)
         · exact k1.ok (a2i h)) m2 m6
        exact fin v' w' (by rw [hx.ownI];exact hr) (hA.1 _ _ _ _ _ hI' (.own id v' (l9 _ _ _).symm) g3)
      · exact h.elim
    · rename_i s e
      rw [e] at hx
      obtain ⟨g1,g2,g3⟩:=h
      have k1:w.ownsRow 0 E sz (.slice none 0 0) ([]:List RV).length []:=World.ownsRow_nil w 0 E sz
      obtain ⟨v',w',news,hr,m1,m2,m3,m4,m5,m6⟩:=a9h (ty:=type) (xs:=[]) hu hi hz hs hby hzs hsz k1 hsrc (by simpa using g2) (by simpa using g1) (Nat.zero_le _)
      have hI':=a9i hI d E sz (.inl hdn) hsz (xs:=[]) (vs:=[]) (v:=.slice none 0 0) (.inr rfl) ⟨by simp,fun i k hi=>by simp at hi⟩ (by simp) (by simp) m5 m4 (World.rowAt.of m1 fun b hb=>by
       rcases m6 b hb with h | h
       · exact .inl (Nat.le_trans hI.fr.size h)
       · cases h) m2 m6
      exact fin v' w' (by rw [hx.empI];exact hr) (hA.1 _ _ _ _ _ hI' (.own d v' (l9 _ _ _).symm) (by simpa using g3))
    · exact h.elim
 | call f xs=>
  obtain ⟨dst,op,type,pos,after,guard⟩:=o
  cases op<;>simp [a3m] at hc
  rename_i c
  obtain ⟨callee,args,argTypes⟩:=c
  cases callee<;>try (simp at hc;done)
  rename_i y
  cases y<;>try (simp at hc;done)
  rename_i f'
  simp only [Bool.and_eq_true,beq_iff_eq] at hc
  obtain ⟨⟨rfl,h1⟩,h2⟩:=hc
  obtain ⟨k1,k2⟩:=b1o hI h1
  refine a7e (f:=f) (args:=(args.toList.map a.eval).toArray) ?_ (a4x hI k1 k2 h) hA
  have:=a04 (P:=P) (w:=w) h2 (args.map a.eval)
  simp [execOp,resolve,Deferred.ofValue,Act.eval,invoke]
  have e2:(List.map a.eval args.toList).toArray=args.map a.eval:=by apply Array.toList_inj.1;simp
  rw [e2];exact this
 | callr f x xs=>
  obtain ⟨dst,op,type,pos,after,guard⟩:=o
  cases op<;>simp [a3m] at hc
  rename_i c
  obtain ⟨callee,args,argTypes⟩:=c
  cases callee<;>try (simp at hc;done)
  rename_i y
  cases y<;>try (simp at hc;done)
  rename_i f'
  simp only [Bool.and_eq_true,beq_iff_eq] at hc
  obtain ⟨⟨rfl,h1⟩,h2⟩:=hc
  obtain ⟨k1,k2⟩:=b1o hI h1
  simp only [P6] at h
  split at h
  · rename_i id e
    split at h
    · rename_i E sz rs hm
      obtain ⟨u,vs,hl⟩:∃ u vs,args.toList.map a.eval=u :: vs:=by
       cases hh:args.toList.map a.eval with
       | nil=>rw [hh] at k1;simp at k1
       | cons u vs=>exact ⟨u,vs,rfl⟩
      rw [hl] at k1 k2
      have hu:RepP γ (i8 F.L γ st.mem) w (ev st x) u:=by
       have:=k2 0 (by simp)
       simpa only [List.map_cons,List.getD_cons_zero] using this
      refine a7e (f:=f) (args:=(args.toList.map a.eval).toArray) ?_ (by rw [hl];exact b6o hI hu (by simpa using k1) (fun j hj=>by simpa using k2 (j+1) (by simpa using hj)) hm h) hA
      have:=a04 (P:=P) (w:=w) h2 (args.map a.eval)
      simp [execOp,resolve,Deferred.ofValue,Act.eval,invoke]
      have e2:(List.map a.eval args.toList).toArray=args.map a.eval:=by apply Array.toList_inj.1;simp
      rw [e2];exact this
    · exact h.elim
  · refine a7e (f:=f) (args:=(args.toList.map a.eval).toArray) ?_ (a4x hI k1 k2 h) hA
    have:=a04 (P:=P) (w:=w) h2 (args.map a.eval)
    simp [execOp,resolve,Deferred.ofValue,Act.eval,invoke]
    have e2:(List.map a.eval args.toList).toArray=args.map a.eval:=by apply Array.toList_inj.1;simp
    rw [e2];exact this
 | callv x xs=>
  obtain ⟨dst,op,type,pos,after,guard⟩:=o
  cases op<;>simp [a3m] at hc
  rename_i c
  obtain ⟨callee,args,argTypes⟩:=c
  cases callee<;>try (simp at hc;done)
  rename_i y
  dsimp only at hc
  simp only [Bool.and_eq_true] at hc
  obtain ⟨h1,h2⟩:=hc
  have hx:=j5 hI h1
  simp only [P6] at h
  split at h
  · rename_i f caps e
    rw [e] at hx
    obtain ⟨vs,hv,hs,hr⟩:=hx.fnI
    obtain ⟨hf,h⟩:=h
    obtain ⟨k1,k2⟩:=b1o hI h2
    have k3:(args.toList.map a.eval++vs.toList).length=(xs.map (ev st)++caps).length:=by rw [List.length_append,List.length_append,k1];simp [hs]
    refine a7e (f:=f) (args:=(args.toList.map a.eval++vs.toList).toArray) ?_ (a4x hI k3 (fun j hj=>?_) h) hA
    · have:=a04 (P:=P) (w:=w) hf (args.map a.eval++vs)
      simp [execOp,resolve,Deferred.ofValue,hv,invoke]
      have e2:(List.map a.eval args.toList++vs.toList).toArray=args.map a.eval++vs:=by apply Array.toList_inj.1;simp
      rw [e2];exact this
    · by_cases hlt:j < (xs.map (ev st)).length
      · rw [show (xs.map (ev st)++caps).getD j .undef=(xs.map (ev st)).getD j .undef from by simp [List.getD_eq_getElem?_getD,List.getElem?_append,show j < xs.length by simpa using hlt],
         show (args.toList.map a.eval++vs.toList).getD j undef=(args.toList.map a.eval).getD j undef from by rw [List.getD_eq_getElem?_getD,List.getElem?_append,if_pos (by omega),← List.getD_eq_getElem?_getD]]
        exact k2 j hlt
      · rw [show (xs.map (ev st)++caps).getD j .undef=caps.getD (j - (xs.map (ev st)).length) .undef from by rw [List.getD_eq_getElem?_getD,List.getElem?_append,if_neg hlt,← List.getD_eq_getElem?_getD],
         show (args.toList.map a.eval++vs.toList).getD j undef=vs.toList.getD (j - (xs.map (ev st)).length) undef from by rw [List.getD_eq_getElem?_getD,List.getElem?_append,if_neg (by omega),← List.getD_eq_getElem?_getD,k1],← Z4]
        exact hr _ (by rw [List.length_append] at hj;omega)
  · exact h.elim
 | pan x=>
  obtain ⟨dst,op,type,pos,after,guard⟩:=o
  cases op<;>simp [a3m] at hc
  rename_i y
  have hx:=j5 hI hc
  simp only [P6] at h
  split at h
  · rename_i t r e
    rw [e] at hx
    have hv:=hx.valI
    generalize hy:a.eval y=v at hv
    cases hv with
    | ifc _ _ u hu=>
     unfold Oper.wp
     have:(execOp a.eval { dst,op:=.panic y,type,pos,after,guard }).run P w=.halt (.panic (.iface t u)) w:=by
      simp [execOp,hy,Instr.panic]
     rw [this]
     exact hA.2 γ st _ _ w hI (.ifc t r u hu) h
  · exact h.elim
 | mks E sz bytes agg z x=>
  obtain ⟨dst,op,type,pos,after,guard⟩:=o
  cases op<;>simp [a3m] at hc
  rename_i t l c
  obtain ⟨⟨h1,h2⟩,h3⟩:=hc
  obtain ⟨e,hu,rfl,hsz,hag,hag1,i,v,hi,hz,rfl,rfl,hvs,hcs⟩:∃ e,P.underlying t=some (.slice e)∧e=E∧0 < sz∧a6h P e=some agg∧(agg || sz == 1)=true∧∃ i v,P.info? e=some i∧i.zero=some v∧i.size=sz∧i.bytes=bytes∧v.cells.size=sz∧D5 z v.cells.toList=true:=by
   split at h3
   · rename_i e hu
     simp only [Bool.and_eq_true,beq_iff_eq,decide_eq_true_eq] at h3
     obtain ⟨⟨⟨⟨rfl,g1⟩,g2⟩,g3⟩,g4⟩:=h3
     split at g4
     · rename_i i hi
       simp only [Bool.and_eq_true,beq_iff_eq] at g4
       obtain ⟨⟨g5,g6⟩,g7⟩:=g4
       split at g7
       · rename_i v hz
         simp only [Bool.and_eq_true,beq_iff_eq] at g7
         exact ⟨e,hu,rfl,g1,g2,by simpa using g3,i,v,hi,hz,g5,g6,g7.1,g7.2⟩
       · cases g7
     · cases g4
   · cases h3
  have hl:=j5 hI h2
  have hcap:=j5 hI h1
  simp only [P6] at h
  split at h
  · rename_i k n zs e1 e2
    obtain ⟨h0,hb,hm,hk⟩:=h
    rw [e1] at hl hcap
    have hl':=hl.valI
    have hc':=hcap.valI
    obtain ⟨k1,k2⟩:=a4v (γ:=γ) (L:=i8 F.L γ st.mem) (w:=w) hcs
    obtain ⟨r1,r2⟩:=a13 e2 (fun j=>v.cells.getD j undef) (fun j hj=>(k2 j hj).1)
    let el:RV:=if agg then .agg zs else zs.getD 0 .nilptr
    have hel:el.cells=zs:=by
     cases agg with
     | true=>rfl
     | false=>
      have h1':i.size=1:=by simpa using hag1
      have hz1:zs.length=1:=by omega
      obtain ⟨z0,rfl⟩:=List.length_eq_one_iff.1 hz1
      show ([z0].getD 0 .nilptr).cells=[z0]
      simp only [List.getD_cons_zero]
      have g:=r2 0 (by omega)
      have g':=(k2 0 (by omega)).2
      simp only [List.getD_cons_zero] at g
      exact a9o g g'
    have hzl:zs.length=i.size:=by omega
    have hrun:=run_make (P:=P) w t e i v hu hi hz k k n n h0 (Int.le_refl _) (by
     have h:((i.bytes*n.toNat:Nat):Int)≤281474976710656:=by omega
     rw [Int.natCast_mul,Int.toNat_of_nonneg h0] at h
     exact h) (by omega)
    have hI':=b5v hI d e i.size hdn hsz (List.replicate n.toNat el) (madeCells v.cells (n.toNat*i.size)) (by rw [size_madeCells];simp) (by simp [maxLen];omega) (fun r hr=>by rw [(List.mem_replicate.1 hr).2,hel,hzl]) (fun i' c hi' hc''=>by
     simp only [List.length_replicate] at hi'
     have e3:(List.replicate n.toNat el).getD i' .nilptr=el:=by simp [List.getD_eq_getElem?_getD,List.getElem?_replicate,hi']
     have hlt:i'*i.size+c < n.toNat*i.size:=by
      have:=Nat.mul_le_mul_right i.size (show i'+1≤n.toNat from hi')
      rw [Nat.add_mul] at this;omega
     have e4:(madeCells v.cells (n.toNat*i.size)).getD (i'*i.size+c) undef=v.cells.getD c undef:=by
      have hm':(i'*i.size+c) % i.size=c:=by rw [Nat.mul_comm,Nat.mul_add_mod];exact Nat.mod_eq_of_lt hc''
      rw [a8j _ _ _ hlt (by omega),hvs,hm']
     rw [e3,e4,hel]
     exact ⟨r2 c (by omega),(k2 c (by omega)).2⟩)
    refine k6 (v:=.slice (some ⟨w.heap.size,0,none⟩) n.toNat n.toNat) (w':=w.alloc (.cells (madeCells v.cells (n.toNat*i.size)) e)) ?_ (hA.1 _ _ _ _ _ hI' (.own d _ (by rw [l9];simp)) hk)
    simp only [execOp]
    refine P7 ?_
    have el':a.eval l=.int k n:=by revert hl';generalize a.eval l=u;intro hl';cases hl';rfl
    have ec':a.eval c=.int k n:=by revert hc';generalize a.eval c=u;intro hc';cases hc';rfl
    rw [el',ec']
    exact hrun
  · exact h.elim
 | isnil iface neg x=>
  obtain ⟨dst,op,type,pos,after,guard⟩:=o
  cases op<;>simp [a3m] at hc
  rename_i op' t x' y yt
  cases y<;>try (simp at hc;done)
  rename_i v
  simp only [Bool.and_eq_true,beq_iff_eq] at hc
  obtain ⟨⟨rfl,h1⟩,h3⟩:=hc
  have hx:=j5 hI h1
  have hd:Op.maxDepth=9999+1:=rfl
  split at h3
  · rename_i u u' ms hu
    have ec:a.eval (.const Value.nilIface)=.nilIface:=rfl
    have fin:∀ (u:Value) (b:Bool),a.eval x'=u→(u=.nilIface∨∃ ty v,u=.iface ty v)→(∀ w,(Op.equal t u .nilIface).run P w=.ok b w)→K' (.val (.bool (if neg then !b else b))) st →
     Oper.wp P { dst,op:=.binOp (if neg then BinOp.neq else BinOp.eql) t x' (.const .nilIface) yt,type,pos,after,guard } a w K Q:=fun u b he hu' hq hk=>by
     refine k6 (v:=.bool (if neg then !b else b)) (w':=w) ?_ (hA.1 _ _ _ _ _ hI (.val _ _ (.bool _)) hk)
     rcases hu' with rfl | ⟨ty,v,rfl⟩<;>cases neg<;>simp [execOp,he,ec,eqGuard,binOp,hq]
    simp only [P6] at h
    split at h
    · rename_i e1 e2
      rw [e2] at hx
      have hv:=hx.valI
      generalize hev:a.eval x'=u at *
      cases hv
      exact fin _ true rfl (.inl rfl) (fun w=>by unfold Op.equal;rw [hd];unfold Op.equalIn;simp [run_underlying hu]) (by simpa using h)
    · rename_i e1 e2
      rw [e2] at hx
      have hv:=hx.valI
      generalize hev:a.eval x'=u at *
      cases hv
      exact fin _ false rfl (.inr ⟨_,_,rfl⟩) (fun w=>by unfold Op.equal;rw [hd];unfold Op.equalIn;simp [run_underlying hu]) (by simpa using h)
    all_goals first | exact h.elim | simp_all
  · rename_i u u' ee hu
    have fin:∀ (A:Option Addr) (n c:Nat),a.eval x'=.slice A n c→K' (.val (.bool (if neg then !A.isNone else A.isNone))) st→Oper.wp P { dst,op:=.binOp (if neg then BinOp.neq else BinOp.eql) t x' (.const (.slice none 0 0)) yt,type,pos,after,guard } a w K Q:=fun A n c he hk=>by
     have hq:∀ w,(Op.equal t (.slice A n c) (.slice none 0 0)).run P w=.ok A.isNone w:=fun w=>by
      unfold Op.equal;rw [hd];unfold Op.equalIn
      cases A<;>simp [run_underlying hu]
     have ec:a.eval (.const (Value.slice none 0 0))=.slice none 0 0:=rfl
     refine k6 (v:=.bool (if neg then !A.isNone else A.isNone)) (w':=w) ?_ (hA.1 _ _ _ _ _ hI (.val _ _ (.bool _)) hk)
     cases neg<;>simp [execOp,he,ec,eqGuard,binOp,hq]
    simp only [P6] at h
    split at h
    · simp_all
    · simp_all
    · rename_i e1 e2
      rw [e2] at hx
      exact fin none 0 0 hx.empI (by simpa using h)
    · rename_i s xs e1 e2
      rw [e2] at hx
      have hv:=hx.valI
      generalize hev:a.eval x'=u at *
      cases hv with
      | list0 _ A c=>
       cases A with
       | none=>exact fin none 0 c rfl (by simpa using h.1 rfl)
       | some A=>exact fin (some A) 0 c rfl (by cases neg<;>simpa using h.2)
      | list _ _ b o c f h0=>exact fin _ _ c rfl (by cases neg<;>simpa using h.2)
    · rename_i id e1 e2
      rw [e2] at hx
      split at h
      · rename_i E sz xs hm
        obtain ⟨vs,g1,_⟩:=hI.mem.row id E sz xs hm
        rcases g1.2 with ⟨hv,hn⟩ | ⟨g,cap,cur,hv,_⟩
        · exact fin none 0 0 (by rw [hx.ownI,hv]) (by simpa using h.1 (List.eq_nil_of_length_eq_zero hn))
        · exact fin _ _ _ (by rw [hx.ownI,hv]) (by cases neg<;>simpa using h.2)
      · exact h.elim
    · exact h.elim
  · cases h3
 | xop o'=>exact b7v hdn hI hc h hA
 | _=>exact still hc h
end
end Go.PW
