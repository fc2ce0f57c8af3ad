/- Deep objects read as data by a call; functions whose result is a new row, or nil taken for one. -/
import Derived.Test.YtfoapolbgpjfaaaGreatDoorPWaf
set_option linter.unusedSectionVars false
set_option linter.unusedSimpArgs false
set_option linter.unusedVariables false
set_option maxRecDepth 100000
namespace Go.PW
variable [GF]
open Go.RowKit
def RetA (res:List Rs) (mk:Nat→PV) (E sz:Nat) (xs:List RV):PExit→St→Prop
 | .normal,st=>∃ st',Le st st'∧∃ id,O2 res st'=some (mk id)∧st'.mem id=.row E sz xs
 | .ret,st=>∃ st',Le st st'∧∃ id,O2 res st'=some (mk id)∧st'.mem id=.row E sz xs
 | _,_=>False
@[simp] theorem RetA_ret {res mk E sz xs} {st:St}:RetA res mk E sz xs .ret st=∃ st',Le st st'∧∃ id,O2 res st'=some (mk id)∧st'.mem id=.row E sz xs:=by rfl
@[simp] theorem RetA_normal {res mk E sz xs} {st:St}:RetA res mk E sz xs .normal st=∃ st',Le st st'∧∃ id,O2 res st'=some (mk id)∧st'.mem id=.row E sz xs:=by rfl
theorem b9x {P:Program} {f:Nat} {c:PC} {res:List Rs} {as:List AV} {mk:Nat→PV} {E sz:Nat} {xs:List RV} (hm:P.follows .mixedOrders=true) (hc:M9 P f c as.length res=true) (hb:a7 as=[]) (hmk:∀ ι:Nat→Nat,(mk 0).ren ι=mk (ι 0))
 (h:S8 P c (f5 as) (RetA res mk E sz xs)):v7 P f as (.ret (mk 0) [⟨E,sz,xs⟩]) []:=by
 refine a7g hm hc (R7 (fun e s hh=>?_) h)
 have key:(∃ s',Le s s'∧∃ id,O2 res s'=some (mk id)∧s'.mem id=.row E sz xs)→∃ st',Le s st'∧b18 res (a7 as).length (.ret (mk 0) [⟨E,sz,xs⟩]) [] .ret st':=fun ⟨s',hle,id,h1,h2⟩=>
  ⟨s',hle,(by rw [hb]),⟨⟨fun _=>id,by rw [hmk];exact h1,fun i j hi hj _=>by simp at hi hj;omega,fun i r hr=>by
   have:i=0:=by
    have:=(List.getElem?_eq_some_iff.1 hr).1
    simp at this;exact this
   subst this
   simp at hr;subst hr;exact h2⟩,trivial⟩⟩
 cases e with
 | normal=>exact key hh
 | ret=>exact key hh
 | exit id=>exact hh.elim
 | pan r=>exact hh.elim
theorem b8j {E sz:Nat} {xs:List RV} {st:St} {a b:Nat} {c:RV} (id:Nat) (h1:st.env a=.own id) (h2:st.env b=.val c) (h3:st.mem id=.row E sz xs):∃ st',Le st st'∧∃ id,(st'.env a=.own id∧st'.env b=.val c)∧st'.mem id=.row E sz xs:=
 ⟨st,Le.forget rfl (fun x=>.refl _),id,⟨h1,h2⟩,h3⟩
theorem V3 {E sz:Nat} {st:St} {a b:Nat} {c:RV} (z d:Nat) (hsz:0 < sz) (h9:V5 d) (hab:b≠a) (h1:st.env a=.emp z) (h2:st.env b=.val c):∃ st',Le st st'∧∃ id,(st'.env a=.own id∧st'.env b=.val c)∧st'.mem id=.row E sz []:=by
 refine ⟨⟨upd a (.own d) fun x=>(st.env x).kill (· == d),upd d (.row E sz []) fun i=>(st.mem i).kill (· == d)⟩,Le.adopt d E sz h9 hsz (by simp [upd]) (fun x=>?_) (fun i hi=>.inl (by simp [upd,hi])),d,⟨by simp [upd],by simp [upd,hab,h2,PV.kill]⟩,by simp [upd]⟩
 by_cases hx:x=a
 · subst hx;rw [h1];simp [upd];exact .emp z
 · simp [upd,hx];exact .kill _
end Go.PW
