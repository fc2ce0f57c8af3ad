/- Calls that hand back a row, and functions that write a row. -/
import Derived.Test.YtgdapgcjmfeocaaGreatDoorPWv
set_option linter.unusedSectionVars false
set_option linter.unusedSimpArgs false
set_option linter.unusedVariables false
namespace Go.PW
open Go.RowKit
variable [GF]
theorem c8d {P:Program} {st:St} {Ke:Kx (PV→St→Prop)} {kx:Kx (RV→St→Prop)} {d f ps as E sz rs} {p:PV} (ha:a3j st.mem ps=some as) (hb:boxIds ps=[]) (hl:p.ownLt 1=true) (hr:ps.all PV.noOwn=true∨(p.flat=true∧∀ x∈rs,x.flat=true))
 (h:d8 P f as (.ret p [⟨E,sz,rs⟩]) [])
 (hK:Ke.k (p.shift (L9 d)) ⟨fun x=>(st.env x).kill (fun i=>L9 d≤i && i < L9 d+1),upd (L9 d) (.row E sz rs) fun x=>if (L9 d≤x && x < L9 d+1) then .dead else (st.mem x).kill (fun i=>L9 d≤i && i < L9 d+1)⟩):KC P st d f ps (Ke:=Ke) (kx:=kx):=by
 unfold KC
 refine .inl ?_
 unfold a6v
 rw [ha]
 refine ⟨by rw [hb];exact List.nodup_nil,by rw [hb];rfl,_,_,h,by rw [hb];rfl,hl,?_,?_⟩
 · rcases hr with hr | ⟨h1,h2⟩
   · exact .inl hr
   · exact .inr ⟨h1,fun r hr'=>by rw [List.mem_singleton.1 hr'];exact h2,fun b hb'=>by cases hb'⟩
 · rw [hb]
   exact hK
def RetO (res:List Rs) (mk:Nat→PV) (E sz:Nat) (xs:List RV):PExit→St→Prop
 | .normal,st=>∃ id,a0e res st=some (mk id)∧st.mem id=.row E sz xs
 | .ret,st=>∃ id,a0e res st=some (mk id)∧st.mem id=.row E sz xs
 | _,_=>False
@[simp] theorem RetO_ret {res mk E sz xs} {st:St}:RetO res mk E sz xs .ret st=∃ id,a0e res st=some (mk id)∧st.mem id=.row E sz xs:=by rfl
@[simp] theorem RetO_normal {res mk E sz xs} {st:St}:RetO res mk E sz xs .normal st=∃ id,a0e res st=some (mk id)∧st.mem id=.row E sz xs:=by rfl
theorem c24 {P:Program} {f:Nat} {c:PC} {res:List Rs} {as:List AV} {mk:Nat→PV} {E sz:Nat} {xs:List RV} (hm:P.follows .mixedOrders=true) (hc:j3 P f c as.length res=true) (hb:b8 as=[]) (hmk:∀ ι:Nat→Nat,(mk 0).ren ι=mk (ι 0))
 (h:a0d P c (d9 as) (RetO res mk E sz xs)):d8 P f as (.ret (mk 0) [⟨E,sz,xs⟩]) []:=by
 refine b6j hm hc (V5 (fun e s hh=>?_) h)
 have key:(∃ id,a0e res s=some (mk id)∧s.mem id=.row E sz xs)→∃ st',Le s st'∧b9p res (b8 as).length (.ret (mk 0) [⟨E,sz,xs⟩]) [] .ret st':=fun ⟨id,h1,h2⟩=>
  ⟨s,Le.forget rfl (fun x=>.refl _),(by rw [hb]),⟨⟨fun _=>id,by rw [hmk];exact h1,fun i j hi hj _=>by simp at hi hj;omega,fun i r hr=>by
   have:i=0:=by
    have:=(List.getElem?_eq_some_iff.1 hr).1
    simp at this;exact this
   subst this
   simp at hr;subst hr;exact h2⟩,trivial⟩⟩
 cases e with
 | normal=>exact key hh
 | ret=>exact key hh
 | exit id=>exact hh.elim
 | pan r=>exact hh.elim
theorem RepP.nm {γ:Nat→Value} {L:Nat→Prop} {w:World} {n:Nat} {p:PV} {v:Value} (h:RepP (fun _=>γ n) L w p v):RepP γ L w (p.nm n) v:=by
 generalize hg:(fun _:Nat=>γ n)=γ' at h
 induction h with
 | undef v=>exact .undef v
 | skip=>exact .skip
 | val r v h=>exact .val r v h
 | emp s=>exact .emp s
 | own id v h=>exact .own n v (by rw [h,← hg])
 | ptr id off b h=>exact .ptr n off b (by rw [← hg] at h;exact h)
 | elt id j sz off b m c h=>exact .elt n j sz off b m c (by rw [← hg] at h;exact h)
 | «at» cells b o f hb h0 hc h=>exact .at cells b o f hb h0 hc h
 | agg cs vs hs _ ih=>exact .agg _ vs (by rw [PV.nmL_length];exact hs) (fun i hi=>by rw [PV.nmL_length] at hi;rw [PV.nmL_getD _ _ _ hi];exact ih i hi)
 | tup cs vs hs _ ih=>exact .tup _ vs (by rw [PV.nmL_length];exact hs) (fun i hi=>by rw [PV.nmL_length] at hi;rw [PV.nmL_getD _ _ _ hi];exact ih i hi)
 | fn f cs vs hs _ ih=>exact .fn f _ vs (by rw [PV.nmL_length];exact hs) (fun i hi=>by rw [PV.nmL_length] at hi;rw [PV.nmL_getD _ _ _ hi];exact ih i hi)
def RetR (res:List Rs) (out:RV) (E sz:Nat) (xs:List RV):PExit→St→Prop
 | .normal,st=>a0e res st=some (.val out)∧st.mem 900=.row E sz xs
 | .ret,st=>a0e res st=some (.val out)∧st.mem 900=.row E sz xs
 | _,_=>False
@[simp] theorem RetR_ret {res out E sz xs} {st:St}:RetR res out E sz xs .ret st=(a0e res st=some (.val out)∧st.mem 900=.row E sz xs):=by rfl
@[simp] theorem RetR_normal {res out E sz xs} {st:St}:RetR res out E sz xs .normal st=(a0e res st=some (.val out)∧st.mem 900=.row E sz xs):=by rfl
end Go.PW
