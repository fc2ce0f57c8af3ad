/- Fk: merged out of KRe. -/
import Derived.Test.YtfoapolbgpjfaaaGreatDoorAc
import Derived.Test.YtfoapolbgpjfaaaGreatDoorPWai
set_option linter.unusedSectionVars false
set_option linter.unusedSimpArgs false
set_option linter.unusedVariables false
section
namespace Go.PW
open Go.RowKit Go.KP
variable [GF]
def a3k (res:List Rs) (o:PV ⊕ RV) (B:List (List RV)):PExit→St→Prop
 | .normal,st=>∃ p,o=.inl p∧O5 res st.fin=some p∧T7 st.mem 0 B
 | .ret,st=>∃ p,o=.inl p∧O5 res st.fin=some p∧T7 st.mem 0 B
 | .pan r,st=>o=.inr r∧T7 st.mem 0 B
 | .exit _,_=>False
def c1m:PV ⊕ RV→Out
 | .inl p=>.ret p []
 | .inr r=>.pan r
@[simp] theorem R3 {res p B} {st:St}:a3k res (.inl p) B .ret st=(O5 res st.fin=some p∧T7 st.mem 0 B):=by
  simp [a3k]
@[simp] theorem P1 {res p B} {st:St}:a3k res (.inl p) B .normal st=(O5 res st.fin=some p∧T7 st.mem 0 B):=by
  simp [a3k]
@[simp] theorem c3e {res r r' B} {st:St}:a3k res (.inr r) B (.pan r') st=(r=r'∧T7 st.mem 0 B):=by
  simp [a3k]
@[simp] theorem BoxesAt_one {M:Nat→MObj} {b:List RV}:T7 M 0 [b]=(M 900=.box (b.map .val)):=by simp [T7]
theorem a8b {st:St}:∀ {k:Nat} {B:List (List RV)},T7 st.mem k B→a15 st k B
 | k,[],_=>trivial
 | k,b :: B,h=>⟨by rw [h.1];exact b30 b,a8b h.2⟩
theorem P9 {P:Program} {f:Nat} {c:PC} {res:List Rs} {as:List AV} {o:PV ⊕ RV} {B:List (List RV)} (hm:P.follows .mixedOrders=true) (hc:M9 P f c as.length res=true) (hb:B.length=(a7 as).length) (hp:∀ p,o=.inl p→∀ ι,p.ren ι=p)
 (h:U0 P c (d3 as) (a3k res o B)):n7 P f as (c1m o) B:=by
 refine a6v hm hc (R5 (fun e s hh=>?_) h)
 have key:(∃ p,o=.inl p∧O5 res s.fin=some p∧T7 s.mem 0 B)→∃ st',Le s st'∧b1f res (a7 as).length (c1m o) B .ret st':=fun ⟨p,ho,h1,h2⟩=>by
  subst ho
  exact ⟨s.fin,(Le.freeze s _).trans (Le.plain _),hb,⟨⟨id,by rw [hp p rfl];exact h1,fun i j hi=>by simp at hi,fun i r hr=>by simp at hr⟩,a3j h2⟩⟩
 cases e with
 | normal=>exact key hh
 | ret=>exact key hh
 | exit id=>exact hh.elim
 | pan r=>
  obtain ⟨ho,h2⟩:=hh
  subst ho
  exact ⟨hb,rfl,a8b h2⟩
theorem w7 {P:Program} {st:St} {Ke:Kx (PV→St→Prop)} {kx:Kx (RV→St→Prop)} {d f ps as} {p:PV} {id:Nat} {b:List RV} (ha:O1 st.mem ps=some as) (hb:boxIds ps=[id]) (hlt:id < 1000) (hl:p.ownLt 0=true) (hr:ps.all PV.noOwn=true)
 (h:n7 P f as (.ret p []) [b]) (hK:Ke.k (p.shift (x7 d)) ⟨st.env,upd id (.box (b.map .val)) st.mem⟩):KC P st d f ps (Ke:=Ke) (kx:=kx):=by
 unfold KC
 refine .inl ?_
 unfold a2o
 rw [ha]
 have hr1:1000≤x7 d:=by unfold x7;omega
 refine ⟨by rw [hb];simp,by rw [hb];simp;omega,.ret p [],[b],h,by rw [hb];rfl,hl,.inl hr,?_⟩
 have e:(fun i=>decide (x7 d≤i) && decide (i < x7 d+([]:List Row).length))=fun _=>false:=by
  funext i
  simp only [List.length_nil,Nat.add_zero,Bool.and_eq_false_imp,decide_eq_true_eq,decide_eq_false_iff_not]
  omega
 rw [e,a6j]
 simp only [R0,hb,R6]
 exact hK
theorem P0 {P:Program} {st:St} {Ke:Kx (PV→St→Prop)} {kx:Kx (RV→St→Prop)} {d f ps as} {r:RV} {id:Nat} {b:List RV} (ha:O1 st.mem ps=some as) (hb:boxIds ps=[id]) (hlt:id < 1000) (hf:r.flat=true) (hfb:∀ r∈b,r.flat=true)
 (h:n7 P f as (.pan r) [b]) (hK:kx.k r ⟨st.env,upd id (.box (b.map .val)) st.mem⟩):KC P st d f ps (Ke:=Ke) (kx:=kx):=by
 unfold KC
 refine .inl ?_
 unfold a2o
 rw [ha]
 have hr1:1000≤x7 d:=by unfold x7;omega
 refine ⟨by rw [hb];simp,by rw [hb];simp;omega,.pan r,[b],h,by rw [hb];rfl,hf,fun b' hb'=>by rw [List.mem_singleton.1 hb'];exact hfb,?_⟩
 simp only [hb,R6]
 exact hK
end Go.PW
end
