/- Fk: merged out of KRe. -/
import Derived.Test.YtfoapolbgpjfaaaGreatDoorAc
import Derived.Test.YtfoapolbgpjfaaaGreatDoorPWai
set_option linter.unusedSectionVars false
set_option linter.unusedSimpArgs false
set_option linter.unusedVariables false
section
namespace Go.PW
open Go.RowKit Go.KP
variable [GF]
def a4m (res:List Rs) (o:PV ⊕ RV) (B:List (List RV)):PExit→St→Prop
 | .normal,st=>∃ p,o=.inl p∧P2 res st.fin=some p∧U9 st.mem 0 B
 | .ret,st=>∃ p,o=.inl p∧P2 res st.fin=some p∧U9 st.mem 0 B
 | .pan r,st=>o=.inr r∧U9 st.mem 0 B
 | .exit _,_=>False
def c4d:PV ⊕ RV→Out
 | .inl p=>.ret p []
 | .inr r=>.pan r
@[simp] theorem S7 {res p B} {st:St}:a4m res (.inl p) B .ret st=(P2 res st.fin=some p∧U9 st.mem 0 B):=by
  simp [a4m]
@[simp] theorem Q4 {res p B} {st:St}:a4m res (.inl p) B .normal st=(P2 res st.fin=some p∧U9 st.mem 0 B):=by
  simp [a4m]
@[simp] theorem c59 {res r r' B} {st:St}:a4m res (.inr r) B (.pan r') st=(r=r'∧U9 st.mem 0 B):=by
  simp [a4m]
@[simp] theorem BoxesAt_one {M:Nat→MObj} {b:List RV}:U9 M 0 [b]=(M 900=.box (b.map .val)):=by simp [U9]
theorem a9u {st:St}:∀ {k:Nat} {B:List (List RV)},U9 st.mem k B→a23 st k B
 | k,[],_=>trivial
 | k,b :: B,h=>⟨by rw [h.1];exact b5l b,a9u h.2⟩
theorem R0 {P:Program} {f:Nat} {c:PC} {res:List Rs} {as:List AV} {o:PV ⊕ RV} {B:List (List RV)} (hm:P.follows .mixedOrders=true) (hc:K5 P f c as.length res=true) (hb:B.length=(a7 as).length) (hp:∀ p,o=.inl p→∀ ι,p.ren ι=p)
 (h:U6 P c (b9 as) (a4m res o B)):f9 P f as (c4d o) B:=by
 refine a6a hm hc (S3 (fun e s hh=>?_) h)
 have key:(∃ p,o=.inl p∧P2 res s.fin=some p∧U9 s.mem 0 B)→∃ st',Le s st'∧b2h res (a7 as).length (c4d o) B .ret st':=fun ⟨p,ho,h1,h2⟩=>by
  subst ho
  exact ⟨s.fin,(Le.freeze s _).trans (Le.plain _),hb,⟨⟨id,by rw [hp p rfl];exact h1,fun i j hi=>by simp at hi,fun i r hr=>by simp at hr⟩,a4k h2⟩⟩
 cases e with
 | normal=>exact key hh
 | ret=>exact key hh
 | exit id=>exact hh.elim
 | pan r=>
  obtain ⟨ho,h2⟩:=hh
  subst ho
  exact ⟨hb,rfl,a9u h2⟩
theorem x8 {P:Program} {st:St} {Ke:Kx (PV→St→Prop)} {kx:Kx (RV→St→Prop)} {d f ps as} {p:PV} {id:Nat} {b:List RV} (ha:P5 st.mem ps=some as) (hb:boxIds ps=[id]) (hlt:id < 1000) (hl:p.ownLt 0=true) (hr:ps.all PV.noOwn=true)
 (h:f9 P f as (.ret p []) [b]) (hK:Ke.k (p.shift (d5 d)) ⟨st.env,upd id (.box (b.map .val)) st.mem⟩):KC P st d f ps (Ke:=Ke) (kx:=kx):=by
 unfold KC
 refine .inl ?_
 unfold a2z
 rw [ha]
 have hr1:1000≤d5 d:=by unfold d5;omega
 refine ⟨by rw [hb];simp,by rw [hb];simp;omega,.ret p [],[b],h,by rw [hb];rfl,hl,.inl hr,?_⟩
 have e:(fun i=>decide (d5 d≤i) && decide (i < d5 d+([]:List Row).length))=fun _=>false:=by
  funext i
  simp only [List.length_nil,Nat.add_zero,Bool.and_eq_false_imp,decide_eq_true_eq,decide_eq_false_iff_not]
  omega
 rw [e,a7w]
 simp only [S5,hb,S9]
 exact hK
theorem Q3 {P:Program} {st:St} {Ke:Kx (PV→St→Prop)} {kx:Kx (RV→St→Prop)} {d f ps as} {r:RV} {id:Nat} {b:List RV} (ha:P5 st.mem ps=some as) (hb:boxIds ps=[id]) (hlt:id < 1000) (hf:r.flat=true) (hfb:∀ r∈b,r.flat=true)
 (h:f9 P f as (.pan r) [b]) (hK:kx.k r ⟨st.env,upd id (.box (b.map .val)) st.mem⟩):KC P st d f ps (Ke:=Ke) (kx:=kx):=by
 unfold KC
 refine .inl ?_
 unfold a2z
 rw [ha]
 have hr1:1000≤d5 d:=by unfold d5;omega
 refine ⟨by rw [hb];simp,by rw [hb];simp;omega,.pan r,[b],h,by rw [hb];rfl,hf,fun b' hb'=>by rw [List.mem_singleton.1 hb'];exact hfb,?_⟩
 simp only [hb,S9]
 exact hK
end Go.PW
end
