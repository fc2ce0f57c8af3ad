/- Monotony, loops by an invariant, other words for the same state, and the law of a function's call. -/
import Derived.Test.YtfoapolbgpjfaaaGreatDoorPWq
set_option linter.unusedSectionVars false
set_option linter.unusedSimpArgs false
set_option linter.unusedVariables false
namespace Go.PW
variable [GF]
open Go.RowKit
theorem a70 {st:St} {op:POp} {K K':PV→Prop} (hK:∀ p,K p→K' p) (h:J6 st op K):J6 st op K':=by
 obtain ⟨r,h1,h2⟩:=(Z8 _ _ _).1 h
 exact (Z8 _ _ _).2 ⟨r,h1,hK r h2⟩
theorem a8x {st:St} {parts:List (Nat×Nat×Opd)} {cs:List PV} {K K':List PV→Prop} (hK:∀ p,K p→K' p) (h:a0o st cs parts K):a0o st cs parts K':=by
 obtain ⟨r,h1,h2⟩:=a0c.1 h
 exact a0c.2 ⟨r,h1,hK r h2⟩
theorem a7y {P:Program} {st:St} {op:POp} {K K':PV→Prop} (hK:∀ p,K p→K' p) (h:V0 P st op K):V0 P st op K':=by
 cases op<;>simp only [V0] at h ⊢
 case build=>exact a8x (fun cs=>hK _) h
 case lit=>split at h<;>first | exact hK _ h | exact h
 case call=>exact a2s hK h
 case callv=>
  split at h
  · exact ⟨h.1,a2s hK h.2⟩
  · exact h
 case xop=>exact ⟨h.1,a0j (fun p _=>hK p) h.2⟩
 all_goals exact a70 hK h
theorem a1g {P:Program} {st:St} {d f:Nat} {ps:List PV} {K K':PV→St→Prop} {kx kx':RV→St→Prop} (hK:∀ p s,K p s→K' p s) (hx:∀ r s,kx r s→kx' r s) (h:a3o P st d f ps K kx):a3o P st d f ps K' kx':=by
 rcases h with h | ⟨ps0,M,M',pin,out,ι,κ,pn,h1,h2,h3,h4,h5,h6,h7,h8,h9⟩
 rotate_left
 · exact .inr ⟨ps0,M,M',pin,out,ι,κ,pn,h1,h2,h3,h4,h5,h6,h7,h8,b6t hK hx h9⟩
 refine .inl ?_
 unfold a4z at *
 split at h
 · exact h
 · obtain ⟨h1,h2,out,bs,h3,h4,h5⟩:=h
   refine ⟨h1,h2,out,bs,h3,h4,?_⟩
   cases out with
   | ret p rows=>exact ⟨h5.1,h5.2.1,hK _ _ h5.2.2⟩
   | pan r=>exact ⟨h5.1,h5.2.1,hx _ _ h5.2.2⟩
theorem a2f {P:Program} {st:St} {d:Nat} {op:POp} {K K':PV→St→Prop} {kx kx':RV→St→Prop} (hK:∀ p s,K p s→K' p s) (hx:∀ r s,kx r s→kx' r s) (h:P6 P st d op K kx):P6 P st d op K' kx':=by
 cases op<;>simp only [P6] at h ⊢
 case alloc=>exact hK _ _ h
 case box=>exact ⟨h.1,h.2.1,hK _ _ h.2.2⟩
 case build=>exact a8x (fun cs=>hK _ _) h
 case lit=>split at h<;>first | exact hK _ _ h | exact h
 case store=>
  refine ⟨h.1,?_⟩
  have h:=h.2
  split at h
  · split at h
    · exact ⟨h.1,h.2.1,hK _ _ h.2.2⟩
    · exact h
  · split at h
    · split at h
      · exact ⟨h.1,h.2.1,h.2.2.1,h.2.2.2.1,hK _ _ h.2.2.2.2⟩
      · exact h
    · exact h
  · exact h
 case app=>
  split at h
  · exact h
  · refine ⟨h.1,?_⟩
    have h:=h.2
    split at h
    · split at h
      · exact ⟨h.1,h.2.1,h.2.2.1,h.2.2.2.1,h.2.2.2.2.1,h.2.2.2.2.2.1,hK _ _ h.2.2.2.2.2.2⟩
      · exact h
    · exact ⟨h.1,h.2.1,hK _ _ h.2.2⟩
    · exact h
 case call=>exact a1g hK hx h
 case callv=>
  split at h
  · exact ⟨h.1,a1g hK hx h.2⟩
  · exact h
 case callr=>
  split at h
  · split at h
    · unfold b3x at h ⊢
      split at h
      · exact h
      · obtain ⟨h0,h1,h2,out,rs',h3,h4,h5⟩:=h
        exact ⟨h0,h1,h2,out,rs',h3,h4,hK _ _ h5⟩
    · exact h
  · exact a1g hK hx h
 case pan=>split at h<;>first | exact hx _ _ h | exact h
 case mks=>
  split at h
  · exact ⟨h.1,h.2.1,h.2.2.1,hK _ _ h.2.2.2⟩
  · exact h
 case isnil=>
  split at h
  · exact hK _ _ h
  · exact hK _ _ h
  · exact hK _ _ h
  · exact ⟨fun e=>hK _ _ (h.1 e),hK _ _ h.2⟩
  · split at h
    · exact ⟨fun e=>hK _ _ (h.1 e),hK _ _ h.2⟩
    · exact h
  · exact h
 case xop=>exact a0j hK h
 all_goals exact a70 (fun p=>hK _ _) h
theorem a03 {P:Program} {K K':St→Prop} {kx kx':RV→St→Prop} (hK:∀ s,K s→K' s) (hx:∀ r s,kx r s→kx' r s):∀ {ops:List POper} {st:St},X4 P ops st K kx→X4 P ops st K' kx'
 | [],st,h=>hK _ h
 | o :: os,st,h=>Q3 h (a2f (fun p s=>a03 hK hx) hx) (a03 hK hx)
theorem a4r {P:Program} {K K':St→Prop} (hK:∀ s,K s→K' s):∀ {ops:List POper} {st:St},a4g P ops st K→a4g P ops st K'
 | [],st,h=>hK _ h
 | o :: os,st,h=>Q3 h (a7y (fun p=>a4r hK)) (a4r hK)
theorem a2p {P:Program} {K K':St→Prop} {kx kx':RV→St→Prop} (hK:∀ s,K s→K' s) (hx:∀ r s,kx r s→kx' r s):∀ {t:POT} {st:St},a4h P t st K kx→a4h P t st K' kx'
 | .done,st,h=>hK _ h
 | .stop,st,h=>trivial
 | .alt _ o t r,st,h=>⟨Q3 h.1 (a2f (fun p s=>a2p hK hx) hx) (a2p hK hx),a2p hK hx h.2⟩
theorem V6 {P:Program} {K K':St→Prop} {kx kx':RV→St→Prop} (hK:∀ s,K s→K' s) (hx:∀ r s,kx r s→kx' r s):∀ {t:POM} {D:List (Nat×POper)} {st:St},W8 P t D st K kx→W8 P t D st K' kx'
 | .done,D,st,h=>hK _ h
 | .early _ o t,D,st,h=>Q3 h (a7y fun p=>V6 hK hx) (V6 hK hx)
 | .step _ o ws t,D,st,h=>Q3 h (a2f (fun p s hh=>⟨hh.1,V6 hK hx hh.2⟩) (fun _ _ h=>hx _ _ h)) (fun hh=>⟨hh.1,V6 hK hx hh.2⟩)
 | .alt _ o ws t r,D,st,h=>⟨Q3 h.1 (a2f (fun p s hh=>⟨hh.1,V6 hK hx hh.2⟩) (fun _ _ h=>hx _ _ h)) (fun hh=>⟨hh.1,V6 hK hx hh.2⟩),V6 hK hx h.2⟩
 | .stop,D,st,h=>trivial
theorem PExit.then_mono {e:PExit} {st:St} {k k':St→Prop} {K K':PExit→St→Prop} (hk:∀ s,k s→k' s) (hK:∀ e s,K e s→K' e s) (h:e.then st k K):e.then st k' K':=by
 cases e<;>first | exact hk _ h | exact hK _ _ h
theorem a6o {f:St→(PExit→St→Prop)→Prop} (hf:∀ st K K',(∀ e s,K e s→K' e s)→f st K→f st K') {K K':PExit→St→Prop} (hK:∀ e s,K e s→K' e s):∀ {n:Nat} {st:St},rounds f n st K→rounds f n st K'
 | 0,st,h=>h
 | n+1,st,h=>hf _ _ _ (fun e s=>PExit.then_mono (fun s=>a6o (f:=f) hf hK) hK) h
theorem K8 {P:Program}:∀ {c:PC} {st:St} {K K':PExit→St→Prop},(∀ e s,K e s→K' e s)→P9 P c st K→P9 P c st K'
 | .skip,st,K,K',hK,h=>hK _ _ h
 | .reg _,st,K,K',hK,h=>a03 (hK _) (fun r=>hK _) h
 | .draw _ _,st,K,K',hK,h=>a4r (fun s=>a03 (hK _) (fun r=>hK _)) h
 | .any _,st,K,K',hK,h=>a2p (hK _) (fun r=>hK _) h
 | .mix _,st,K,K',hK,h=>V6 (hK _) (fun r=>hK _) h
 | .seq a b,st,K,K',hK,h=>K8 (c:=a) (fun e s=>PExit.then_mono (fun s=>K8 (c:=b) hK) hK) h
 | .cond c a b,st,K,K',hK,h=>by
  simp only [P9,b3b] at h ⊢
  split at h
  · exact ⟨fun ht=>K8 hK (h.1 ht),fun ht=>K8 hK (h.2 ht)⟩
  · exact h
 | .block id c,st,K,K',hK,h=>K8 (c:=c) (fun e s hh=>by
  cases e with
  | exit j=>
   simp only [PExit.inBlock] at hh ⊢
   split
   · rename_i e;rw [if_pos e] at hh;exact hK _ _ hh
   · rename_i e;rw [if_neg e] at hh;exact hK _ _ hh
  | _=>exact hK _ _ hh) h
 | .loop c,st,K,K',hK,h=>by
  obtain ⟨n,h⟩:=h
  exact ⟨n,a6o (f:=P9 P c) (fun _ _ _ hK=>K8 (c:=c) hK) hK h⟩
 | .exit id,st,K,K',hK,h=>hK _ _ h
 | .ret,st,K,K',hK,h=>hK _ _ h
 | .ghost c,st,K,K',hK,h=>by
  obtain ⟨s,h1,h2⟩:=h
  exact ⟨s,h1,K8 hK h2⟩
theorem b8i {P:Program} {c:PC} {K:PExit→St→Prop} (I:Nat→St→Prop) {n:Nat} {st:St} (h0:I n st)
 (hr:∀ n st,I n st→P9 P c st fun e st'=>e.then st' (fun st'=>∃ m,m < n∧I m st') K):P9 P (.loop c) st K:=by
 have key:∀ N n st,n < N→I n st→rounds (P9 P c) N st K:=by
  intro N
  induction N with
  | zero=>intro n st hn _;omega
  | succ N ih=>
   intro n st hn hI
   exact K8 (fun e s=>PExit.then_mono (fun s ⟨m,hm,hI'⟩=>ih m s (by omega) hI') (fun _ _=>id)) (hr n st hI)
 exact ⟨n+1,key (n+1) n st (Nat.lt_succ_self n) h0⟩
end Go.PW
