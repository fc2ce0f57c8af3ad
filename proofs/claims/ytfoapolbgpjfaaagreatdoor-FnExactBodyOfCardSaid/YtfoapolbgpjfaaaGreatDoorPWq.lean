/- The code of a function as data: what it comes to, and that the machine comes to it. -/
import Derived.Test.YtfoapolbgpjfaaaGreatDoorPWpp
import Derived.LoopN
set_option linter.unusedSectionVars false
set_option linter.unusedSimpArgs false
set_option linter.unusedVariables false
namespace Go.PW
variable [GF]
open Go.RowKit
def Le (st st':St):Prop:=∀ (F:Ctx) (γ:Nat→Value) (a:Act) (w:World),Inv F γ st a w→∃ γ',Inv F γ' st' a w
theorem Le.refl (st:St):Le st st:=fun _ γ _ _ h=>⟨γ,h⟩
theorem Le.trans {s1 s2 s3:St} (h:Le s1 s2) (k:Le s2 s3):Le s1 s3:=fun F γ a w hI=>let ⟨γ',h'⟩:=h F γ a w hI;k F γ' a w h'
inductive PExit where
 | normal
 | exit (id:Nat)
 | ret
 | pan (r:RV)
def PExit.then (e:PExit) (st:St) (k:St→Prop) (K:PExit→St→Prop):Prop:=match e with
 | .normal=>k st
 | e=>K e st
def PExit.inBlock (id:Nat) (e:PExit) (st:St) (K:PExit→St→Prop):Prop:=match e with
 | .exit j=>if j=id then K .normal st else K (.exit j) st
 | e=>K e st
def rounds (f:St→(PExit→St→Prop)→Prop):Nat→St→(PExit→St→Prop)→Prop
 | 0,_,_=>False
 | n+1,st,K=>f st fun e st'=>e.then st' (fun st'=>rounds f n st' K) K
def b3b (p:PV) (A B:Prop):Prop:=match p with
 | .val (.bool t)=>(t=true→A)∧(t=false→B)
 | _=>False
def P9 (P:Program):PC→St→(PExit→St→Prop)→Prop
 | .skip,st,K=>K .normal st
 | .reg ops,st,K=>X4 P ops st (K .normal) (fun r=>K (.pan r))
 | .draw pre post,st,K=>a4g P pre st fun st'=>X4 P post st' (K .normal) (fun r=>K (.pan r))
 | .any t,st,K=>a4h P t st (K .normal) (fun r=>K (.pan r))
 | .mix t,st,K=>W8 P t [] st (K .normal) (fun r=>K (.pan r))
 | .seq a b,st,K=>P9 P a st fun e st'=>e.then st' (fun st'=>P9 P b st' K) K
 | .cond c a b,st,K=>b3b (ev st c) (P9 P a st K) (P9 P b st K)
 | .block id c,st,K=>P9 P c st fun e st'=>e.inBlock id st' K
 | .loop c,st,K=>∃ n,rounds (P9 P c) n st K
 | .exit id,st,K=>K (.exit id) st
 | .ret,st,K=>K .ret st
 | .ghost c,st,K=>∃ st',Le st st'∧P9 P c st' K
def a0v (P:Program) (n:Nat):Code→PC→Bool
 | code,.ghost c=>a0v P n code c
 | .skip,.skip=>true
 | .region _ ops false,.reg rs=>Q9 P n ops ops.toList rs
 | .region _ ops true,.draw pre post=>Q9 P n ops ops.toList (pre++post) && a7o ops (pre++post) pre.length
 | .region _ ops true,.any t=>b49 P n ops t
 | .region _ ops true,.mix t=>b48 P n ops t
 | .seq x y,.seq a b=>a0v P n x a && a0v P n y b
 | .cond c x y,.cond c' a b=>i7 c' c && a0v P n x a && a0v P n y b
 | .block id x,.block id' a=>id == id' && a0v P n x a
 | .loop x,.loop a=>a0v P n x a
 | .exit id,.exit id'=>id == id'
 | .ret,.ret=>true
 | _,_=>false
def Post (F:Ctx) (K:PExit→St→Prop) (Q:Exit→Act→World→Prop):Prop:=
 ∀ e γ st a w,Inv F γ st a w→K e st→match e with
  | .normal=>Q .normal a w
  | .exit id=>Q (.exit id) a w
  | .ret=>Q .ret a w
  | .pan r=>∀ v,RepR (i8 F.L γ st.mem) w r v→Q (.panic [{ v,recovered:=false }]) a w
theorem Post.then {F:Ctx} {K:PExit→St→Prop} {Q:Exit→Act→World→Prop} (h:Post F K Q) {k:St→Prop} {q:Act→World→Prop} (hk:∀ γ st a w,Inv F γ st a w→k st→q a w) :
 Post F (fun e st'=>e.then st' k K) (Exit.then q Q):=fun e γ st a w hI hh=>by
 cases e with
 | normal=>exact hk γ st a w hI hh
 | exit id=>exact h _ γ st a w hI hh
 | ret=>exact h _ γ st a w hI hh
 | pan r=>exact h _ γ st a w hI hh
theorem Post.inBlock {F:Ctx} {K:PExit→St→Prop} {Q:Exit→Act→World→Prop} (h:Post F K Q) (id:Nat) :
 Post F (fun e st'=>e.inBlock id st' K) (Exit.inBlock id Q):=fun e γ st a w hI hh=>by
 cases e with
 | normal=>exact h _ γ st a w hI hh
 | exit j=>
  simp only [PExit.inBlock,Exit.inBlock] at hh ⊢
  split
  · rename_i e;rw [if_pos e] at hh;exact h _ γ st a w hI hh
  · rename_i e;rw [if_neg e] at hh;exact h _ γ st a w hI hh
 | ret=>exact h _ γ st a w hI hh
 | pan r=>exact h _ γ st a w hI hh
theorem L3 {P:Program} {F:Ctx} (hm:P.follows .mixedOrders=true):∀ (c:PC) (code:Code) {γ:Nat→Value} {st:St} {a:Act} {w:World} {K:PExit→St→Prop} {Q:Exit→Act→World→Prop},
 a0v P F.n code c=true→Inv F γ st a w→P9 P c st K→Post F K Q→code.wp P Q a w
 | .ghost c,code,γ,st,a,w,K,Q,hc,hI,h,hQ=>by
  obtain ⟨st',hle,h⟩:=h
  obtain ⟨γ',hI'⟩:=hle F γ a w hI
  exact L3 hm c code (by unfold a0v at hc;exact hc) hI' h hQ
 | .skip,code,γ,st,a,w,K,Q,hc,hI,h,hQ=>by
  cases code<;>simp [a0v] at hc
  exact wp_skip (hQ .normal γ st a w hI h)
 | .reg rs,code,γ,st,a,w,K,Q,hc,hI,h,hQ=>by
  cases code<;>try (simp [a0v] at hc;done)
  rename_i id ops draw
  cases draw<;>simp [a0v] at hc
  exact b0y hI hc h ⟨fun γ st a w hI hk=>hQ .normal γ st a w hI hk,fun γ st a w r v hI hr hk=>hQ (.pan r) γ st a w hI hk v hr⟩
 | .draw pre post,code,γ,st,a,w,K,Q,hc,hI,h,hQ=>by
  cases code<;>try (simp [a0v] at hc;done)
  rename_i id ops draw
  cases draw<;>simp [a0v] at hc
  exact b46 (rs:=pre++post) hm hI hc.1 hc.2 (by unfold evalD;rw [List.take_left,List.drop_left];exact h) ⟨fun γ st a w hI hk=>hQ .normal γ st a w hI hk,fun γ st a w r v hI hr hk=>hQ (.pan r) γ st a w hI hk v hr⟩
 | .any t,code,γ,st,a,w,K,Q,hc,hI,h,hQ=>by
  cases code<;>try (simp [a0v] at hc;done)
  rename_i id ops draw
  cases draw<;>simp [a0v] at hc
  exact b7m hm hI hc h ⟨fun γ st a w hI hk=>hQ .normal γ st a w hI hk,fun γ st a w r v hI hr hk=>hQ (.pan r) γ st a w hI hk v hr⟩
 | .mix t,code,γ,st,a,w,K,Q,hc,hI,h,hQ=>by
  cases code<;>try (simp [a0v] at hc;done)
  rename_i id ops draw
  cases draw<;>simp [a0v] at hc
  exact b6s (kx:=fun r=>K (.pan r)) hm hI hc h ⟨fun γ st a w hI hk=>hQ .normal γ st a w hI hk,fun γ st a w r v hI hr hk=>hQ (.pan r) γ st a w hI hk v hr⟩
 | .seq x y,code,γ,st,a,w,K,Q,hc,hI,h,hQ=>by
  cases code<;>simp [a0v] at hc
  exact wp_seq (L3 hm x _ hc.1 hI h (hQ.then fun γ st a w hI hk=>L3 hm y _ hc.2 hI hk hQ))
 | .cond c x y,code,γ,st,a,w,K,Q,hc,hI,h,hQ=>by
  cases code<;>simp [a0v] at hc
  obtain ⟨⟨h1,h2⟩,h3⟩:=hc
  have hv:=j5 hI h1
  simp only [P9,b3b] at h
  split at h
  · rename_i t e
    rw [e] at hv
    have hb:=hv.valI
    refine wp_cond_split (t:=t) (by generalize a.eval _=u at hb;cases hb;rfl) (fun ht=>?_) (fun ht=>?_)
    · exact L3 hm x _ h2 hI (h.1 ht) hQ
    · exact L3 hm y _ h3 hI (h.2 ht) hQ
  · exact h.elim
 | .block id x,code,γ,st,a,w,K,Q,hc,hI,h,hQ=>by
  cases code<;>simp [a0v] at hc
  obtain ⟨rfl,hc⟩:=hc
  exact wp_block (L3 hm x _ hc hI h (hQ.inBlock _))
 | .loop x,code,γ,st,a,w,K,Q,hc,hI,h,hQ=>by
  cases code<;>simp [a0v] at hc
  rename_i y
  obtain ⟨n,h⟩:=h
  refine wp_loop_rounds n ?_
  have key:∀ (n:Nat) (γ:Nat→Value) (st:St) (a:Act) (w:World),Inv F γ st a w→rounds (P9 P x) n st K→Code.rounds P y Q n a w:=by
   intro n
   induction n with
   | zero=>intro γ st a w _ h;exact h.elim
   | succ n ih=>intro γ st a w hI h;exact L3 hm x y hc hI h (hQ.then fun γ st a w hI hk=>ih γ st a w hI hk)
  exact key n γ st a w hI h
 | .exit id,code,γ,st,a,w,K,Q,hc,hI,h,hQ=>by
  cases code<;>simp [a0v] at hc
  subst hc
  exact wp_exit (hQ (.exit _) γ st a w hI h)
 | .ret,code,γ,st,a,w,K,Q,hc,hI,h,hQ=>by
  cases code<;>simp [a0v] at hc
  exact wp_ret (hQ .ret γ st a w hI h)
end Go.PW
