/- Fk: merged out of KRe. -/
import Derived.Test.YtfoapolbgpjfaaaGreatDoorAc
import Derived.Test.YtfoapolbgpjfaaaGreatDoorPWai
set_option linter.unusedSectionVars false
set_option linter.unusedSimpArgs false
set_option linter.unusedVariables false
section
namespace Go.PW
open Go.RowKit Go.KP
variable [GF]
def a45 (res:List Rs) (o:PV ⊕ RV) (B:List (List RV)):PExit→St→Prop
 | .normal,st=>∃ p,o=.inl p∧R1 res st.fin=some p∧W0 st.mem 0 B
 | .ret,st=>∃ p,o=.inl p∧R1 res st.fin=some p∧W0 st.mem 0 B
 | .pan r,st=>o=.inr r∧W0 st.mem 0 B
 | .exit _,_=>False
def c3w:PV ⊕ RV→Out
 | .inl p=>.ret p []
 | .inr r=>.pan r
@[simp] theorem U2 {res p B} {st:St}:a45 res (.inl p) B .ret st=(R1 res st.fin=some p∧W0 st.mem 0 B):=by
  simp [a45]
@[simp] theorem Q9 {res p B} {st:St}:a45 res (.inl p) B .normal st=(R1 res st.fin=some p∧W0 st.mem 0 B):=by
  simp [a45]
@[simp] theorem c5q {res r r' B} {st:St}:a45 res (.inr r) B (.pan r') st=(r=r'∧W0 st.mem 0 B):=by
  simp [a45]
@[simp] theorem BoxesAt_one {M:Nat→MObj} {b:List RV}:W0 M 0 [b]=(M 900=.box (b.map .val)):=by simp [W0]
theorem a93 {st:St}:∀ {k:Nat} {B:List (List RV)},W0 st.mem k B→a3m st k B
 | k,[],_=>trivial
 | k,b :: B,h=>⟨by rw [h.1];exact b5r b,a93 h.2⟩
theorem S3 {P:Program} {f:Nat} {c:PC} {res:List Rs} {as:List AV} {o:PV ⊕ RV} {B:List (List RV)} (hm:P.follows .mixedOrders=true) (hc:N5 P f c as.length res=true) (hb:B.length=(b9 as).length) (hp:∀ p,o=.inl p→∀ ι,p.ren ι=p)
 (h:W4 P c (w8 as) (a45 res o B)):z6 P f as (c3w o) B:=by
 refine b0m hm hc (V5 (fun e s hh=>?_) h)
 have key:(∃ p,o=.inl p∧R1 res s.fin=some p∧W0 s.mem 0 B)→∃ st',Le s st'∧b5q res (b9 as).length (c3w o) B .ret st':=fun ⟨p,ho,h1,h2⟩=>by
  subst ho
  exact ⟨s.fin,(Le.freeze s _).trans (Le.plain _),hb,⟨⟨id,by rw [hp p rfl];exact h1,fun i j hi=>by simp at hi,fun i r hr=>by simp at hr⟩,a44 h2⟩⟩
 cases e with
 | normal=>exact key hh
 | ret=>exact key hh
 | exit id=>exact hh.elim
 | pan r=>
  obtain ⟨ho,h2⟩:=hh
  subst ho
  exact ⟨hb,rfl,a93 h2⟩
theorem F5 {P:Program} {st:St} {Ke:Kx (PV→St→Prop)} {kx:Kx (RV→St→Prop)} {d f ps as} {p:PV} {id:Nat} {b:List RV} (ha:Q4 st.mem ps=some as) (hb:boxIds ps=[id]) (hlt:id < 1000) (hl:p.ownLt 0=true) (hr:ps.all PV.noOwn=true)
 (h:z6 P f as (.ret p []) [b]) (hK:Ke.k (p.shift (P3 d)) ⟨st.env,upd id (.box (b.map .val)) st.mem⟩):KC P st d f ps (Ke:=Ke) (kx:=kx):=by
 unfold KC
 refine .inl ?_
 unfold a4a
 rw [ha]
 have hr1:1000≤P3 d:=by unfold P3;omega
 refine ⟨by rw [hb];simp,by rw [hb];simp;omega,.ret p [],[b],h,by rw [hb];rfl,hl,.inl hr,?_⟩
 have e:(fun i=>decide (P3 d≤i) && decide (i < P3 d+([]:List Row).length))=fun _=>false:=by
  funext i
  simp only [List.length_nil,Nat.add_zero,Bool.and_eq_false_imp,decide_eq_true_eq,decide_eq_false_iff_not]
  omega
 rw [e,a73]
 simp only [a1n,hb,U5]
 exact hK
theorem Q8 {P:Program} {st:St} {Ke:Kx (PV→St→Prop)} {kx:Kx (RV→St→Prop)} {d f ps as} {r:RV} {id:Nat} {b:List RV} (ha:Q4 st.mem ps=some as) (hb:boxIds ps=[id]) (hlt:id < 1000) (hf:r.flat=true) (hfb:∀ r∈b,r.flat=true)
 (h:z6 P f as (.pan r) [b]) (hK:kx.k r ⟨st.env,upd id (.box (b.map .val)) st.mem⟩):KC P st d f ps (Ke:=Ke) (kx:=kx):=by
 unfold KC
 refine .inl ?_
 unfold a4a
 rw [ha]
 have hr1:1000≤P3 d:=by unfold P3;omega
 refine ⟨by rw [hb];simp,by rw [hb];simp;omega,.pan r,[b],h,by rw [hb];rfl,hf,fun b' hb'=>by rw [List.mem_singleton.1 hb'];exact hfb,?_⟩
 simp only [hb,U5]
 exact hK
end Go.PW
end
