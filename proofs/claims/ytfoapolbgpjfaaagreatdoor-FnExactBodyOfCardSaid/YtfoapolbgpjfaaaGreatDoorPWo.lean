/- Regions: a list of operations in their order, and in any order that the edges allow. -/
import Derived.Test.YtfoapolbgpjfaaaGreatDoorPWn
set_option linter.unusedSectionVars false
set_option linter.unusedSimpArgs false
set_option linter.unusedVariables false
namespace Go.PW
variable [GF]
open Go.RowKit
section
variable {P:Program} {F:Ctx} {γ:Nat→Value} {st:St} {a:Act} {w:World} {o:Oper} {K:Act→World→Prop} {Q:Exit→Act→World→Prop}
theorem St.kill_none (st:St):st.kill (fun _=>false)=st:=by
 obtain ⟨env,mem⟩:=st
 simp only [St.kill,PV.kill_none,Bool.false_eq_true,if_false,St.mk.injEq,true_and]
 funext x
 exact MObj.kill_none _
theorem a1v {f d:Nat} {ps:List PV} {p:PV} (h:a0y P st f ps (fun q=>q=p)):a3o P st d f ps (fun q st'=>q=p∧st'=st) (fun _ _=>False):=by
 unfold a0y at h
 refine .inl ?_
 unfold a4z
 split at h
 · exact h.elim
 · rename_i as has
   obtain ⟨h0,p',h1,h2,h3,h4,rfl⟩:=h
   simp only [h0,has]
   refine ⟨List.nodup_nil,by simp,.ret p' [],[],h1,rfl,h3,?_,h2 _,?_⟩
   · rcases h4 with h4 | h4
     · exact .inl h4
     · exact .inr ⟨h4,by simp [b25],by simp⟩
   · have:(fun i=>decide (l1 d≤i) && decide (i < l1 d+([]:List Row).length))=fun _=>false:=by
      funext i
      simp only [List.length_nil,Nat.add_zero,Bool.and_eq_false_imp,decide_eq_true_eq,decide_eq_false_iff_not]
      omega
     simp only [this,K9,a00,St.kill_none]
theorem a6k {op:POp} {p:PV} (hI:Inv F γ st a w) (hc:a3m P o op=true) (h:V0 P st op (fun q=>q=p))
 (hK:∀ γ' v w',Inv F γ' st a w'→RepP γ' (i8 F.L γ' st.mem) w' p v→K (a.put o.dst v) w'):o.wp P a w K Q:=by
 have fin:P6 P st 0 op (fun q st'=>q=p∧st'=st) (fun _ _=>False)→o.wp P a w K Q:=fun hE=>
  a2e (by decide) hI hc hE ⟨fun γ' st' q v w' hI' hq hh=>by obtain ⟨rfl,rfl⟩:=hh;exact hK γ' v w' hI' hq,fun _ _ _ _ _ _ _ hh=>hh.elim⟩
 cases op<;>simp only [V0] at h
 case xop o'=>
  refine fin ?_
  obtain ⟨hr,h⟩:=h
  obtain ⟨r,h1,h2⟩:=a43 hr h
  simp only [P6]
  exact a0j (K':=fun q st'=>q=p∧st'=st) (fun p s hh=>⟨by rw [hh.1];exact h2,hh.2⟩) h1
 case lit E sz xs=>
  obtain ⟨dst,op,type,pos,after,guard⟩:=o
  cases op<;>simp [a3m] at hc
  rename_i t n ps
  split at hc
  · rename_i e hu
    simp only [Bool.and_eq_true,beq_iff_eq,decide_eq_true_eq] at hc
    obtain ⟨⟨⟨⟨⟨rfl,rfl⟩,h2⟩,h3⟩,h4⟩,h5⟩:=hc
    split at h5
    · rename_i i hi
      simp only [Bool.and_eq_true,beq_iff_eq] at h5
      obtain ⟨h6,h7⟩:=h5
      split at h7
      · rename_i v hz
        have hvs:v.cells.size=sz:=by simpa using h7
        split at h
        · rename_i rs hrs
          subst h
          obtain ⟨us,g1,g2,g3,g4,g5,g6⟩:=a8l hI h3 (k:=0) (vs:=if xs.length*sz=0 then ((Array.range (xs.length*sz)).map (#[][· % 0]!)) else ((Array.range (xs.length*sz)).map (v.cells[· % v.cells.size]!))) h4 hrs (by split<;>simp)
          have hus:us.size=rs.length*sz:=by rw [g2,g3];split<;>simp
          have hB:Below w.heap.size w (w.alloc (.cells us e)):=(Below.refl _ w).alloc (Nat.le_refl _) _
          have hI':=hI.later hB
          refine k6 (v:=.slice (some ⟨w.heap.size,0,none⟩) xs.length xs.length) (w':=w.alloc (.cells us e)) ?_ (hK _ _ _ hI' (.val _ _ ?_))
          · simp only [execOp]
            refine P7 ?_
            subst h6
            refine a1i hu hi hz h2 ?_
            rw [← g1]
            congr 1
            simp
          · by_cases h0:rs=[]
            · subst h0
              rw [← g3]
              exact .list0 _ _ _
            · rw [← g3]
              refine .list sz rs w.heap.size 0 rs.length (fun j=>us.getD j undef) h0 h3 (Nat.le_refl _) (fun hl=>?_) (fun j hj=>?_) g5 (fun i c hi hc=>?_)
              · exact Nat.lt_irrefl _ (hI.live_lt hl)
              · rw [Nat.zero_add]
                have hjl:j < us.size:=by omega
                rw [World.cell?_alloc_new]
                simp [Array.getD_eq_getD_getElem?,Array.getElem?_eq_getElem hjl]
              · exact (by simpa using (g6 i c hi hc).1:RepR (i8 F.L γ st.mem) w _ _).mono (Keeps.later hB)
        · exact h.elim
      · cases h7
    · cases h5
  · cases hc
 case build z parts=>
  refine fin ?_
  show a0o st z parts fun cs=>l4 cs=p∧st=st
  simpa using h
 case call f xs=>exact fin (a1v h)
 case callv x xs=>
  refine fin ?_
  show match ev st x with | .fn f caps=>fnB P f=true∧a3o P st 0 f (xs.map (ev st)++caps) _ _ | _=>False
  split at h
  · rename_i f caps e
    rw [e]
    exact ⟨h.1,a1v h.2⟩
  · exact h.elim
 all_goals first
  | (exfalso;simp only [J6] at h;done)
  | exact fin (by simpa [P6] using h)
end
def x9 (st:St) (d:Option Nat) (p:PV):St:=match d with
 | some d=>st.set d p
 | none=>st
def D1 (st:St) (g:Option (Nat×Bool)) (yes no:Prop):Prop:=match g with
 | none=>yes
 | some (s,b)=>match st.env s with
  | .val (.bool b')=>if b'=b then yes else no
  | .skip=>no
  | _=>False
def X4 (P:Program):List POper→St→(St→Prop)→(RV→St→Prop)→Prop
 | [],st,K,_=>K st
 | o :: os,st,K,kx=>D1 st o.g (P6 P st (o.dst.getD 0) o.op (fun p st'=>X4 P os (x9 st' o.dst p) K kx) kx) (X4 P os (x9 st o.dst .skip) K kx)
def a4w (P:Program) (n:Nat) (ops:Array Oper) (o:Oper) (r:POper):Bool:=
 a3m P o r.op && o.dst == r.dst && (match r.dst with | some d=>decide (d < n) | none=>true) &&
  (match o.guard,r.g with
   | none,none=>true
   | some (j,b),some (s,b')=>b == b' && ((ops[j]?).bind (·.dst)) == some s
   | _,_=>false)
def Q9 (P:Program) (n:Nat) (ops:Array Oper):List Oper→List POper→Bool
 | [],[]=>true
 | o :: os,r :: rs=>a4w P n ops o r && Q9 P n ops os rs
 | _,_=>false
def b0p (F:Ctx) (K:St→Prop) (kx:RV→St→Prop) (Q:Exit→Act→World→Prop):Prop:=
 (∀ γ st a w,Inv F γ st a w→K st→Q .normal a w) ∧
 (∀ γ st a w r v,Inv F γ st a w→RepR (i8 F.L γ st.mem) w r v→kx r st→Q (.panic [{ v,recovered:=false }]) a w)
section
variable {P:Program} {F:Ctx} {γ:Nat→Value} {st:St} {a:Act} {w:World} {Q:Exit→Act→World→Prop} {ops:Array Oper}
theorem Z1 (hI:Inv F γ st a w) {d:Option Nat} (hd:∀ x,d=some x→x < F.n) {p:PV} {v:Value} (hp:RepP γ (i8 F.L γ st.mem) w p v):Inv F γ (x9 st d p) (a.put d v) w:=by
 cases d with
 | none=>exact hI.put_none v
 | some d=>exact hI.put d (hd d rfl) hp
theorem Y8 {n:Nat} {o:Oper} {r:POper} (h:a4w P n ops o r=true):a3m P o r.op=true∧o.dst=r.dst∧(∀ x,r.dst=some x→x < n) ∧
 ((o.guard=none∧r.g=none)∨∃ j b s,o.guard=some (j,b)∧r.g=some (s,b)∧(ops[j]?).bind (·.dst)=some s):=by
 simp only [a4w,Bool.and_eq_true,beq_iff_eq] at h
 obtain ⟨⟨⟨h1,h2⟩,h3⟩,h4⟩:=h
 refine ⟨h1,h2,fun x hx=>by rw [hx] at h3;simpa using h3,?_⟩
 split at h4
 · rename_i e1 e2;exact .inl ⟨e1,e2⟩
 · rename_i j b s b' e1 e2
   simp only [Bool.and_eq_true,beq_iff_eq] at h4
   obtain ⟨rfl,h5⟩:=h4
   exact .inr ⟨j,b,s,e1,e2,h5⟩
 · cases h4
theorem b0r (hI:Inv F γ st a w) {j s:Nat} {b:Bool} (hj:(ops[j]?).bind (·.dst)=some s) (hs:st.env s=.val (.bool b)):yielded ops a.tmps j=some b:=by
 have:=hI.env s
 rw [hs] at this
 have hv:=this.valI
 unfold yielded
 rw [hj]
 simp only [Option.bind_some]
 rw [Array.getD_eq_getD_getElem?] at hv
 cases hq:a.tmps[s]? with
 | none=>rw [hq] at hv;cases hv
 | some v=>
  rw [hq] at hv
  simp only [Option.getD_some] at hv
  cases hv
  rfl
theorem b0q (hI:Inv F γ st a w) {j s:Nat} (hj:(ops[j]?).bind (·.dst)=some s) (hs:st.env s=.skip):yielded ops a.tmps j=none:=by
 have:=hI.env s
 rw [hs] at this
 unfold yielded
 rw [hj]
 simp only [Option.bind_some]
 rw [Array.getD_eq_getD_getElem?] at this
 cases hq:a.tmps[s]? with
 | none=>rfl
 | some v=>
  rw [hq] at this
  simp only [Option.getD_some] at this
  cases this
  rfl
theorem a0n {n:Nat} {o:Oper} {r:POper} (hI:Inv F γ st a w) (hc:a4w P n ops o r=true) {yes no:Prop} (h:D1 st r.g yes no) {A B:Prop} (hy:yes→A) (hn:no→B) :
 if Region.wanted o (yielded ops a.tmps) then A else B:=by
 obtain ⟨_,_,_,h4⟩:=Y8 hc
 unfold Region.wanted
 rcases h4 with ⟨e1,e2⟩ | ⟨j,b,s,e1,e2,e3⟩
 · rw [e1]
   rw [e2] at h
   simpa using hy h
 · rw [e1]
   rw [e2] at h
   simp only [D1] at h
   split at h
   · rename_i b' e
     simp only [b0r hI e3 e]
     split at h
     · rename_i hb;subst hb;simpa using hy h
     · rename_i hb
       have:(some b' == some b)=false:=by simp [hb]
       simp only [this]
       exact hn h
   · rename_i e
     simp only [b0q hI e3 e]
     exact hn h
   · exact h.elim
theorem a5y {K:St→Prop} {kx:RV→St→Prop} (hQ:b0p F K kx Q):∀ (os:List Oper) (rs:List POper) (k:Nat) {γ:Nat→Value} {st:St} {a:Act} {w:World},(∀ j,j < os.length→ops[k+j]?=os[j]?)→Q9 P F.n ops os rs=true →
 Inv F γ st a w→X4 P rs st K kx→wpOps P ops Q (List.range' k os.length) a w
 | [],[],k,γ,st,a,w,_,_,hI,h=>hQ.1 γ st a w hI h
 | [],_ :: _,_,_,_,_,_,_,hc,_,_=>by simp [Q9] at hc
 | _ :: _,[],_,_,_,_,_,_,hc,_,_=>by simp [Q9] at hc
 | o :: os,r :: rs,k,γ,st,a,w,hk,hc,hI,h=>by
  simp only [Q9,Bool.and_eq_true] at hc
  obtain ⟨hc1,hc2⟩:=hc
  have ho:ops[k]?=some o:=by simpa using hk 0 (by simp)
  have ih:=fun {γ:Nat→Value} {st:St} {a:Act} {w:World}=>a5y hQ os rs (k+1) (γ:=γ) (st:=st) (a:=a) (w:=w) (fun j hj=>by have:=hk (j+1) (by simpa using hj);simpa [Nat.add_assoc,Nat.add_comm 1] using this) hc2
  obtain ⟨g1,g2,g3,_⟩:=Y8 hc1
  rw [List.length_cons,List.range'_succ,wpOps_cons]
  unfold wpOp
  simp only [ho]
  simp only [X4] at h
  refine a0n hI hc1 h (fun hy=>.inl ?_) (fun hn=>?_)
  · refine a2e (by cases hd:r.dst with | none=>simp | some x=>(have:=g3 x hd;have:=hI.fr.hn;simp;omega)) hI g1 hy ⟨fun γ' st' q v w' hI' hq hK=>?_,fun γ' st' r v w' hI' hr hk=>hQ.2 γ' st' a w' r v hI' hr hk⟩
    exact ih (by rw [g2];exact Z1 hI' g3 hq) hK
  · exact ih (by rw [g2];exact Z1 hI g3 .skip) hn
theorem b0y {id:Nat} {rs:List POper} {K:St→Prop} {kx:RV→St→Prop} (hI:Inv F γ st a w) (hc:Q9 P F.n ops ops.toList rs=true) (h:X4 P rs st K kx) (hQ:b0p F K kx Q):(Code.region id ops false).wp P Q a w:=by
 refine wp_region ?_
 rw [List.range_eq_range',← Array.length_toList]
 exact a5y hQ ops.toList rs 0 (fun j _=>by simp) hc hI h
end
end Go.PW
