/- States with deep objects: weaker words for them, the end of a function that makes them. -/
import Derived.Test.YtgdapgcjmfeocaaGreatDoorPWad
set_option linter.unusedSectionVars false
set_option linter.unusedSimpArgs false
set_option linter.unusedVariables false
set_option maxRecDepth 100000
namespace Go.PW
variable [GF]
open Go.RowKit
inductive MW:MObj→MObj→Prop
 | refl (m:MObj):MW m m
 | dead (m:MObj):MW m .dead
 | prow (E sz n:Nat) (c c':Nat→Nat→PV) (h:∀ j k,j < n→k < sz→Wk (c j k) (c' j k)):MW (.prow E sz n c) (.prow E sz n c')
 | rowp (E sz n:Nat) (xs:List RV) (c:Nat→Nat→PV) (hn:xs.length=n) (h:∀ j k,j < n→k < sz→Wk (.val ((xs.getD j .nilptr).cells.getD k .nilptr)) (c j k)):MW (.row E sz xs) (.prow E sz n c)
theorem MW.of {a b:MObj} (h:a=b):MW a b:=h ▸ .refl a
theorem Le.weak {st st':St} (hm:∀ i,MW (st.mem i) (st'.mem i)) (he:∀ x,Wk (st.env x) (st'.env x)):Le st st':=fun F γ a w hI=>by
 have hlv:∀ id,(st'.mem id).live=true→(st.mem id).live=true:=fun id h=>by
  have:=hm id
  generalize st.mem id=x at *
  generalize st'.mem id=y at *
  cases this with
  | refl=>exact h
  | dead=>cases h
  | prow=>rfl
  | rowp=>rfl
 have hsub:∀ b,l7 F.L γ st'.mem b→l7 F.L γ st.mem b:=fun b hb=>by
  rcases hb with h | ⟨id,h1,h2⟩
  · exact .inl h
  · exact .inr ⟨id,hlv id h1,h2⟩
 have hk:Keeps (l7 F.L γ st.mem) w (l7 F.L γ st'.mem) w:=fun b o v hb hc=>⟨fun h=>hb (hsub b h),hc⟩
 refine ⟨γ,hI.sz,hI.df,fun x=>((he x).rep (hI.env x)).keep hk,MemInv.of_obj (fun id=>?_) (fun id id' b h1 h2 h3 h4=>hI.mem.inj id id' b (hlv id h1) (hlv id' h2) h3 h4),hI.fr,hI.gl.keep hk,fun k b cs hb hm'=>?_,fun v E sz xs hv hm'=>?_,fun i v hv hl'=>hI.pinn i v hv (hlv i hl')⟩
 · have ho:=hI.mem.obj id
   have hw:=hm id
   have keep:∀ m,ObjOK F id (l7 F.L γ st.mem) γ w (γ id) m→ObjOK F id (l7 F.L γ st'.mem) γ w (γ id) m:=fun m h=>by
    have:=ObjOK.kept (γ':=γ) (fun _=>false) (fun _ _=>rfl) hk (fun _ _=>rfl) h
    rwa [MObj.kill_none] at this
   generalize st.mem id=x at *
   generalize st'.mem id=y at *
   cases hw with
   | refl=>exact keep _ ho
   | dead=>trivial
   | prow E sz n c c' h=>
    obtain ⟨us,h1,h2,h3⟩:=keep _ ho
    exact ⟨us,h1,h2,fun j k hj hk'=>⟨(h j k hj hk').rep (h3 j k hj hk').1,(h3 j k hj hk').2⟩⟩
   | rowp E sz n xs c hn h=>
    obtain ⟨us,h1,h2,h3,h4⟩:=keep _ ho
    subst hn
    refine ⟨us,h1,h2,fun j k hj hk'=>⟨(h j k hj hk').rep (.val _ _ (h3.2 j k hj hk')),?_⟩⟩
    have hl:=h1.1
    have hlt:j*sz+k < us.length:=by
     rw [hl]
     calc j*sz+k < j*sz+sz:=by omega
      _=(j+1)*sz:=by rw [Nat.add_mul,Nat.one_mul]
      _≤xs.length*sz:=Nat.mul_le_mul_right _ hj
    exact h4 _ (Y0 hlt)
 · have:=hm (900+k)
   rw [hm'] at this
   generalize hx:st.mem (900+k)=x at this
   cases this with
   | refl=>exact hI.pin k b cs hb hx
 · have:=hm 900
   rw [hm'] at this
   generalize hx:st.mem 900=x at this
   cases this with
   | refl=>exact hI.pinr v E sz xs hv hx
def dyn (F:Nat→Nat→MObj) (x:Nat):MObj:=if isD x then F (dk x) (dj x) else .dead
theorem W4 {F:Nat→Nat→MObj} {k j:Nat} (hk:k < 16):dyn F (DN k j)=F k j:=by unfold dyn;rw [if_pos a8r,DN_dk hk,DN_dj hk]
theorem b3d {F:Nat→Nat→MObj} {n:Nat} (h:n < 1000000):dyn F n=.dead:=by unfold dyn;rw [a79 h];rfl
def b36:List (Nat×MObj)→(Nat→Nat→MObj)→Nat→MObj
 | [],F,x=>dyn F x
 | (k,p) :: l,F,x=>if x=k then p else b36 l F x
theorem G7 (F:Nat→Nat→MObj) (x:Nat):b36 [] F x=dyn F x:=by rfl
theorem x4 (k:Nat) (p:MObj) (l:List (Nat×MObj)) (F:Nat→Nat→MObj) (x:Nat):b36 ((k,p) :: l) F x=if x=k then p else b36 l F x:=by rfl
theorem Le.mkDN {st:St} (le:List (Nat×PV)) (lm:List (Nat×MObj)) (F:Nat→Nat→MObj) (h1:∀ kp∈le,st.env kp.1=kp.2) (h2:∀ kp∈lm,MW (st.mem kp.1) kp.2) (h3:∀ k j,k < 16→MW (st.mem (DN k j)) (F k j)):Le st ⟨l8 le,b36 lm F⟩:=by
 refine Le.weak (fun i=>?_) (fun x=>?_)
 · show MW (st.mem i) (b36 lm F i)
   induction lm with
   | nil=>
    simp only [b36,dyn]
    by_cases hi:isD i=true
    · rw [if_pos hi]
      have:=h3 (dk i) (dj i) (Nat.mod_lt _ (by omega))
      rwa [← DN_of hi] at this
    · rw [if_neg hi];exact .dead _
   | cons kp lm ih=>
    obtain ⟨k,o⟩:=kp
    simp only [b36]
    split
    · rename_i e;subst e;exact h2 (i,o) (by simp)
    · exact ih fun kp hkp=>h2 kp (by simp [hkp])
 · show Wk (st.env x) (l8 le x)
   induction le with
   | nil=>exact .undef _
   | cons kp le ih=>
    obtain ⟨k,p⟩:=kp
    simp only [l8]
    split
    · rename_i e;subst e;rw [h1 (x,p) (by simp)];exact .refl p
    · exact ih fun kp hkp=>h1 kp (by simp [hkp])
end Go.PW
