/- Fk: merged out of KRe. -/
import Derived.Test.YtfoapolbgpjfaaaGreatDoorAc
import Derived.Test.YtfoapolbgpjfaaaGreatDoorPWai
set_option linter.unusedSectionVars false
set_option linter.unusedSimpArgs false
set_option linter.unusedVariables false
section
namespace Go.PW
open Go.RowKit Go.KP
variable [GF]
def a2y (res:List Rs) (o:PV ⊕ RV) (B:List (List RV)):PExit→St→Prop
 | .normal,st=>∃ p,o=.inl p∧O2 res st.fin=some p∧S2 st.mem 0 B
 | .ret,st=>∃ p,o=.inl p∧O2 res st.fin=some p∧S2 st.mem 0 B
 | .pan r,st=>o=.inr r∧S2 st.mem 0 B
 | .exit _,_=>False
def b8v:PV ⊕ RV→Out
 | .inl p=>.ret p []
 | .inr r=>.pan r
@[simp] theorem Q2 {res p B} {st:St}:a2y res (.inl p) B .ret st=(O2 res st.fin=some p∧S2 st.mem 0 B):=by
  simp [a2y]
@[simp] theorem N8 {res p B} {st:St}:a2y res (.inl p) B .normal st=(O2 res st.fin=some p∧S2 st.mem 0 B):=by
  simp [a2y]
@[simp] theorem c0a {res r r' B} {st:St}:a2y res (.inr r) B (.pan r') st=(r=r'∧S2 st.mem 0 B):=by
  simp [a2y]
@[simp] theorem BoxesAt_one {M:Nat→MObj} {b:List RV}:S2 M 0 [b]=(M 900=.box (b.map .val)):=by simp [S2]
theorem a63 {st:St}:∀ {k:Nat} {B:List (List RV)},S2 st.mem k B→a1l st k B
 | k,[],_=>trivial
 | k,b :: B,h=>⟨by rw [h.1];exact b19 b,a63 h.2⟩
theorem O5 {P:Program} {f:Nat} {c:PC} {res:List Rs} {as:List AV} {o:PV ⊕ RV} {B:List (List RV)} (hm:P.follows .mixedOrders=true) (hc:M9 P f c as.length res=true) (hb:B.length=(a7 as).length) (hp:∀ p,o=.inl p→∀ ι,p.ren ι=p)
 (h:S8 P c (f5 as) (a2y res o B)):v7 P f as (b8v o) B:=by
 refine a7g hm hc (R7 (fun e s hh=>?_) h)
 have key:(∃ p,o=.inl p∧O2 res s.fin=some p∧S2 s.mem 0 B)→∃ st',Le s st'∧b18 res (a7 as).length (b8v o) B .ret st':=fun ⟨p,ho,h1,h2⟩=>by
  subst ho
  exact ⟨s.fin,(Le.freeze s _).trans (Le.plain _),hb,⟨⟨id,by rw [hp p rfl];exact h1,fun i j hi=>by simp at hi,fun i r hr=>by simp at hr⟩,a2x h2⟩⟩
 cases e with
 | normal=>exact key hh
 | ret=>exact key hh
 | exit id=>exact hh.elim
 | pan r=>
  obtain ⟨ho,h2⟩:=hh
  subst ho
  exact ⟨hb,rfl,a63 h2⟩
theorem n8 {P:Program} {st:St} {Ke:Kx (PV→St→Prop)} {kx:Kx (RV→St→Prop)} {d f ps as} {p:PV} {id:Nat} {b:List RV} (ha:N1 st.mem ps=some as) (hb:boxIds ps=[id]) (hlt:id < 1000) (hl:p.ownLt 0=true) (hr:ps.all PV.noOwn=true)
 (h:v7 P f as (.ret p []) [b]) (hK:Ke.k (p.shift (M5 d)) ⟨st.env,upd id (.box (b.map .val)) st.mem⟩):KC P st d f ps (Ke:=Ke) (kx:=kx):=by
 unfold KC
 refine .inl ?_
 unfold a16
 rw [ha]
 have hr1:1000≤M5 d:=by unfold M5;omega
 refine ⟨by rw [hb];simp,by rw [hb];simp;omega,.ret p [],[b],h,by rw [hb];rfl,hl,.inl hr,?_⟩
 have e:(fun i=>decide (M5 d≤i) && decide (i < M5 d+([]:List Row).length))=fun _=>false:=by
  funext i
  simp only [List.length_nil,Nat.add_zero,Bool.and_eq_false_imp,decide_eq_true_eq,decide_eq_false_iff_not]
  omega
 rw [e,a5h]
 simp only [Y9,hb,Q4]
 exact hK
theorem N7 {P:Program} {st:St} {Ke:Kx (PV→St→Prop)} {kx:Kx (RV→St→Prop)} {d f ps as} {r:RV} {id:Nat} {b:List RV} (ha:N1 st.mem ps=some as) (hb:boxIds ps=[id]) (hlt:id < 1000) (hf:r.flat=true) (hfb:∀ r∈b,r.flat=true)
 (h:v7 P f as (.pan r) [b]) (hK:kx.k r ⟨st.env,upd id (.box (b.map .val)) st.mem⟩):KC P st d f ps (Ke:=Ke) (kx:=kx):=by
 unfold KC
 refine .inl ?_
 unfold a16
 rw [ha]
 have hr1:1000≤M5 d:=by unfold M5;omega
 refine ⟨by rw [hb];simp,by rw [hb];simp;omega,.pan r,[b],h,by rw [hb];rfl,hf,fun b' hb'=>by rw [List.mem_singleton.1 hb'];exact hfb,?_⟩
 simp only [hb,Q4]
 exact hK
end Go.PW
end
