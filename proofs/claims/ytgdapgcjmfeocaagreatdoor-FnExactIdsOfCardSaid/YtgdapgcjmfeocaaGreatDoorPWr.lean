/- Monotony, loops by an invariant, other words for the same state, and the law of a function's call. -/
import Derived.Test.YtgdapgcjmfeocaaGreatDoorPWq
set_option linter.unusedSectionVars false
set_option linter.unusedSimpArgs false
set_option linter.unusedVariables false
namespace Go.PW
variable [GF]
open Go.RowKit
theorem Gk {st:St} {op:POp} {K K':PV→Prop} (hK:∀ p,K p→K' p) (h:oi st op K):oi st op K':=by
 obtain ⟨r,h1,h2⟩:=(Dn _ _ _).1 h
 exact (Dn _ _ _).2 ⟨r,h1,hK r h2⟩
theorem Ht {st:St} {parts:List (Nat×Nat×Opd)} {cs:List PV} {K K':List PV→Prop} (hK:∀ p,K p→K' p) (h:wq st cs parts K):wq st cs parts K':=by
 obtain ⟨r,h1,h2⟩:=x8.1 h
 exact x8.2 ⟨r,h1,hK r h2⟩
theorem Pp {P:Program} {st:St} {op:POp} {K K':PV→Prop} (hK:∀ p,K p→K' p) (h:ve P st op K):ve P st op K':=by
 cases op<;>simp only [ve] at h ⊢
 case build=>exact Ht (fun cs=>hK _) h
 case lit=>split at h<;>first | exact hK _ h | exact h
 case call=>exact H5 hK h
 case callv=>
  split at h
  · exact ⟨h.1,H5 hK h.2⟩
  · exact h
 case xop=>exact ⟨h.1,w6 (fun p _=>hK p) h.2⟩
 all_goals exact Gk hK h
theorem wu {P:Program} {st:St} {d f:Nat} {ps:List PV} {K K':PV→St→Prop} {kx kx':RV→St→Prop} (hK:∀ p s,K p s→K' p s) (hx:∀ r s,kx r s→kx' r s) (h:Df P st d f ps K kx):Df P st d f ps K' kx':=by
 rcases h with h | ⟨ps0,M,M',pin,out,ι,κ,h1,h2,h3,h4,h5,h6,h7,h8,h9⟩
 rotate_left
 · exact .inr ⟨ps0,M,M',pin,out,ι,κ,h1,h2,h3,h4,h5,h6,h7,h8,hK _ _ h9⟩
 refine .inl ?_
 unfold Ch at *
 split at h
 · exact h
 · obtain ⟨h1,h2,out,bs,h3,h4,h5⟩:=h
   refine ⟨h1,h2,out,bs,h3,h4,?_⟩
   cases out with
   | ret p rows=>exact ⟨h5.1,h5.2.1,hK _ _ h5.2.2⟩
   | pan r=>exact ⟨h5.1,h5.2.1,hx _ _ h5.2.2⟩
theorem Gl {P:Program} {st:St} {d:Nat} {op:POp} {K K':PV→St→Prop} {kx kx':RV→St→Prop} (hK:∀ p s,K p s→K' p s) (hx:∀ r s,kx r s→kx' r s) (h:rd P st d op K kx):rd P st d op K' kx':=by
 cases op<;>simp only [rd] at h ⊢
 case alloc=>exact hK _ _ h
 case box=>exact ⟨h.1,h.2.1,hK _ _ h.2.2⟩
 case build=>exact Ht (fun cs=>hK _ _) h
 case lit=>split at h<;>first | exact hK _ _ h | exact h
 case store=>
  refine ⟨h.1,?_⟩
  have h:=h.2
  split at h
  · split at h
    · exact ⟨h.1,h.2.1,hK _ _ h.2.2⟩
    · exact h
  · split at h
    · split at h
      · exact ⟨h.1,h.2.1,h.2.2.1,h.2.2.2.1,hK _ _ h.2.2.2.2⟩
      · exact h
    · exact h
  · exact h
 case app=>
  split at h
  · exact h
  · refine ⟨h.1,?_⟩
    have h:=h.2
    split at h
    · split at h
      · exact ⟨h.1,h.2.1,h.2.2.1,h.2.2.2.1,h.2.2.2.2.1,h.2.2.2.2.2.1,hK _ _ h.2.2.2.2.2.2⟩
      · exact h
    · exact ⟨h.1,h.2.1,hK _ _ h.2.2⟩
    · exact h
 case call=>exact wu hK hx h
 case callv=>
  split at h
  · exact ⟨h.1,wu hK hx h.2⟩
  · exact h
 case callr=>
  split at h
  · split at h
    · unfold Tc at h ⊢
      split at h
      · exact h
      · obtain ⟨h0,h1,h2,out,rs',h3,h4,h5⟩:=h
        exact ⟨h0,h1,h2,out,rs',h3,h4,hK _ _ h5⟩
    · exact h
  · exact wu hK hx h
 case pan=>split at h<;>first | exact hx _ _ h | exact h
 case mks=>
  split at h
  · exact ⟨h.1,h.2.1,h.2.2.1,hK _ _ h.2.2.2⟩
  · exact h
 case isnil=>
  split at h
  · exact hK _ _ h
  · exact hK _ _ h
  · exact hK _ _ h
  · exact ⟨fun e=>hK _ _ (h.1 e),hK _ _ h.2⟩
  · split at h
    · exact ⟨fun e=>hK _ _ (h.1 e),hK _ _ h.2⟩
    · exact h
  · exact h
 case xop=>exact w6 hK h
 all_goals exact Gk (fun p=>hK _ _) h
theorem vx {P:Program} {K K':St→Prop} {kx kx':RV→St→Prop} (hK:∀ s,K s→K' s) (hx:∀ r s,kx r s→kx' r s):∀ {ops:List POper} {st:St},tj P ops st K kx→tj P ops st K' kx'
 | [],st,h=>hK _ h
 | o :: os,st,h=>xf h (Gl (fun p s=>vx hK hx) hx) (vx hK hx)
theorem B8 {P:Program} {K K':St→Prop} (hK:∀ s,K s→K' s):∀ {ops:List POper} {st:St},Bl P ops st K→Bl P ops st K'
 | [],st,h=>hK _ h
 | o :: os,st,h=>xf h (Pp (fun p=>B8 hK)) (B8 hK)
theorem yq {P:Program} {K K':St→Prop} {kx kx':RV→St→Prop} (hK:∀ s,K s→K' s) (hx:∀ r s,kx r s→kx' r s):∀ {t:POT} {st:St},Bm P t st K kx→Bm P t st K' kx'
 | .done,st,h=>hK _ h
 | .stop,st,h=>trivial
 | .alt _ o t r,st,h=>⟨xf h.1 (Gl (fun p s=>yq hK hx) hx) (yq hK hx),yq hK hx h.2⟩
theorem PExit.then_mono {e:PExit} {st:St} {k k':St→Prop} {K K':PExit→St→Prop} (hk:∀ s,k s→k' s) (hK:∀ e s,K e s→K' e s) (h:e.then st k K):e.then st k' K':=by
 cases e<;>first | exact hk _ h | exact hK _ _ h
theorem Er {f:St→(PExit→St→Prop)→Prop} (hf:∀ st K K',(∀ e s,K e s→K' e s)→f st K→f st K') {K K':PExit→St→Prop} (hK:∀ e s,K e s→K' e s):∀ {n:Nat} {st:St},rounds f n st K→rounds f n st K'
 | 0,st,h=>h
 | n+1,st,h=>hf _ _ _ (fun e s=>PExit.then_mono (fun s=>Er (f:=f) hf hK) hK) h
theorem n8 {P:Program}:∀ {c:PC} {st:St} {K K':PExit→St→Prop},(∀ e s,K e s→K' e s)→qd P c st K→qd P c st K'
 | .skip,st,K,K',hK,h=>hK _ _ h
 | .reg _,st,K,K',hK,h=>vx (hK _) (fun r=>hK _) h
 | .draw _ _,st,K,K',hK,h=>B8 (fun s=>vx (hK _) (fun r=>hK _)) h
 | .any _,st,K,K',hK,h=>yq (hK _) (fun r=>hK _) h
 | .seq a b,st,K,K',hK,h=>n8 (c:=a) (fun e s=>PExit.then_mono (fun s=>n8 (c:=b) hK) hK) h
 | .cond c a b,st,K,K',hK,h=>by
  simp only [qd,Ow] at h ⊢
  split at h
  · exact ⟨fun ht=>n8 hK (h.1 ht),fun ht=>n8 hK (h.2 ht)⟩
  · exact h
 | .block id c,st,K,K',hK,h=>n8 (c:=c) (fun e s hh=>by
  cases e with
  | exit j=>
   simp only [PExit.inBlock] at hh ⊢
   split
   · rename_i e;rw [if_pos e] at hh;exact hK _ _ hh
   · rename_i e;rw [if_neg e] at hh;exact hK _ _ hh
  | _=>exact hK _ _ hh) h
 | .loop c,st,K,K',hK,h=>by
  obtain ⟨n,h⟩:=h
  exact ⟨n,Er (f:=qd P c) (fun _ _ _ hK=>n8 (c:=c) hK) hK h⟩
 | .exit id,st,K,K',hK,h=>hK _ _ h
 | .ret,st,K,K',hK,h=>hK _ _ h
 | .ghost c,st,K,K',hK,h=>by
  obtain ⟨s,h1,h2⟩:=h
  exact ⟨s,h1,n8 hK h2⟩
theorem Wm {P:Program} {c:PC} {K:PExit→St→Prop} (I:Nat→St→Prop) {n:Nat} {st:St} (h0:I n st)
 (hr:∀ n st,I n st→qd P c st fun e st'=>e.then st' (fun st'=>∃ m,m < n∧I m st') K):qd P (.loop c) st K:=by
 have key:∀ N n st,n < N→I n st→rounds (qd P c) N st K:=by
  intro N
  induction N with
  | zero=>intro n st hn _;omega
  | succ N ih=>
   intro n st hn hI
   exact n8 (fun e s=>PExit.then_mono (fun s ⟨m,hm,hI'⟩=>ih m s (by omega) hI') (fun _ _=>id)) (hr n st hI)
 exact ⟨n+1,key (n+1) n st (Nat.lt_succ_self n) h0⟩
end Go.PW
