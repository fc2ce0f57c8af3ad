/- States with deep objects: weaker words for them, the end of a function that makes them. -/
import Derived.Test.YtfoapolbgpjfaaaGreatDoorPWad
set_option linter.unusedSectionVars false
set_option linter.unusedSimpArgs false
set_option linter.unusedVariables false
set_option maxRecDepth 100000
namespace Go.PW
variable [GF]
open Go.RowKit
inductive MW:MObj→MObj→Prop
 | refl (m:MObj):MW m m
 | dead (m:MObj):MW m .dead
 | prow (E sz n:Nat) (c c':Nat→Nat→PV) (h:∀ j k,j < n→k < sz→Wk (c j k) (c' j k)):MW (.prow E sz n c) (.prow E sz n c')
 | rowp (E sz n:Nat) (xs:List RV) (c:Nat→Nat→PV) (hn:xs.length=n) (h:∀ j k,j < n→k < sz→Wk (.val ((xs.getD j .nilptr).cells.getD k .nilptr)) (c j k)):MW (.row E sz xs) (.prow E sz n c)
theorem MW.of {a b:MObj} (h:a=b):MW a b:=h ▸ .refl a
theorem Le.weak {st st':St} (hm:∀ i,MW (st.mem i) (st'.mem i)) (he:∀ x,Wk (st.env x) (st'.env x)):Le st st':=fun F γ a w hI=>by
 have hlv:∀ id,(st'.mem id).live=true→(st.mem id).live=true:=fun id h=>by
  have:=hm id
  generalize st.mem id=x at *
  generalize st'.mem id=y at *
  cases this with
  | refl=>exact h
  | dead=>cases h
  | prow=>rfl
  | rowp=>rfl
 have hsub:∀ b,G4 F.L γ st'.mem b→G4 F.L γ st.mem b:=fun b hb=>by
  rcases hb with h | ⟨id,h1,h2⟩
  · exact .inl h
  · exact .inr ⟨id,hlv id h1,h2⟩
 have hk:Keeps (G4 F.L γ st.mem) w (G4 F.L γ st'.mem) w:=fun b o v hb hc=>⟨fun h=>hb (hsub b h),hc⟩
 refine ⟨γ,hI.sz,hI.df,fun x=>((he x).rep (hI.env x)).keep hk,MemInv.of_obj (fun id=>?_) (fun id id' b h1 h2 h3 h4=>hI.mem.inj id id' b (hlv id h1) (hlv id' h2) h3 h4),hI.fr,hI.gl.keep hk,fun k b cs hb hm'=>?_,fun v E sz xs hv hm'=>?_,fun i v hv hl'=>hI.pinn i v hv (hlv i hl')⟩
 · have ho:=hI.mem.obj id
   have hw:=hm id
   have keep:∀ m,ObjOK F id (G4 F.L γ st.mem) γ w (γ id) m→ObjOK F id (G4 F.L γ st'.mem) γ w (γ id) m:=fun m h=>by
    have:=ObjOK.kept (γ':=γ) (fun _=>false) (fun _ _=>rfl) hk (fun _ _=>rfl) h
    rwa [MObj.kill_none] at this
   generalize st.mem id=x at *
   generalize st'.mem id=y at *
   cases hw with
   | refl=>exact keep _ ho
   | dead=>trivial
   | prow E sz n c c' h=>
    obtain ⟨us,h1,h2,h3⟩:=keep _ ho
    exact ⟨us,h1,h2,fun j k hj hk'=>⟨(h j k hj hk').rep (h3 j k hj hk').1,(h3 j k hj hk').2⟩⟩
   | rowp E sz n xs c hn h=>
    obtain ⟨us,h1,h2,h3,h4⟩:=keep _ ho
    subst hn
    refine ⟨us,h1,h2,fun j k hj hk'=>⟨(h j k hj hk').rep (.val _ _ (h3.2 j k hj hk')),?_⟩⟩
    have hl:=h1.1
    have hlt:j*sz+k < us.length:=by
     rw [hl]
     calc j*sz+k < j*sz+sz:=by omega
      _=(j+1)*sz:=by rw [Nat.add_mul,Nat.one_mul]
      _≤xs.length*sz:=Nat.mul_le_mul_right _ hj
    exact h4 _ (W1 hlt)
 · have:=hm (900+k)
   rw [hm'] at this
   generalize hx:st.mem (900+k)=x at this
   cases this with
   | refl=>exact hI.pin k b cs hb hx
 · have:=hm 900
   rw [hm'] at this
   generalize hx:st.mem 900=x at this
   cases this with
   | refl=>exact hI.pinr v E sz xs hv hx
def dyn (F:Nat→Nat→MObj) (x:Nat):MObj:=if isD x then F (dk x) (dj x) else .dead
theorem a2a {F:Nat→Nat→MObj} {k j:Nat} (hk:k < 16):dyn F (DN k j)=F k j:=by unfold dyn;rw [if_pos a5q,DN_dk hk,DN_dj hk]
theorem b1z {F:Nat→Nat→MObj} {n:Nat} (h:n < 1000000):dyn F n=.dead:=by unfold dyn;rw [a62 h];rfl
def b2s:List (Nat×MObj)→(Nat→Nat→MObj)→Nat→MObj
 | [],F,x=>dyn F x
 | (k,p) :: l,F,x=>if x=k then p else b2s l F x
theorem V6 (F:Nat→Nat→MObj) (x:Nat):b2s [] F x=dyn F x:=by rfl
theorem T4 (k:Nat) (p:MObj) (l:List (Nat×MObj)) (F:Nat→Nat→MObj) (x:Nat):b2s ((k,p) :: l) F x=if x=k then p else b2s l F x:=by rfl
theorem Le.mkDN {st:St} (le:List (Nat×PV)) (lm:List (Nat×MObj)) (F:Nat→Nat→MObj) (h1:∀ kp∈le,st.env kp.1=kp.2) (h2:∀ kp∈lm,MW (st.mem kp.1) kp.2) (h3:∀ k j,k < 16→MW (st.mem (DN k j)) (F k j)):Le st ⟨P9 le,b2s lm F⟩:=by
 refine Le.weak (fun i=>?_) (fun x=>?_)
 · show MW (st.mem i) (b2s lm F i)
   induction lm with
   | nil=>
    simp only [b2s,dyn]
    by_cases hi:isD i=true
    · rw [if_pos hi]
      have:=h3 (dk i) (dj i) (Nat.mod_lt _ (by omega))
      rwa [← b77 hi] at this
    · rw [if_neg hi];exact .dead _
   | cons kp lm ih=>
    obtain ⟨k,o⟩:=kp
    simp only [b2s]
    split
    · rename_i e;subst e;exact h2 (i,o) (by simp)
    · exact ih fun kp hkp=>h2 kp (by simp [hkp])
 · show Wk (st.env x) (P9 le x)
   induction le with
   | nil=>exact .undef _
   | cons kp le ih=>
    obtain ⟨k,p⟩:=kp
    simp only [P9]
    split
    · rename_i e;subst e;rw [h1 (x,p) (by simp)];exact .refl p
    · exact ih fun kp hkp=>h1 kp (by simp [hkp])
def ioL:List (Nat×Nat×MObj)→Nat→Nat
 | [],i=>i
 | (n,s,_) :: l,i=>if i=n then s else ioL l i
def a42:List (Nat×Nat×MObj)→(Nat→Nat→MObj)→Nat→MObj
 | [],F,x=>dyn F x
 | (n,_,o) :: l,F,x=>if x=n then o else a42 l F x
theorem ioL_off {l:List (Nat×Nat×MObj)} {i:Nat} (h:∀ e∈l,i≠e.1):ioL l i=i:=by
 induction l with
 | nil=>rfl
 | cons e l ih=>obtain ⟨n,s,o⟩:=e;simp only [ioL];rw [if_neg (h (n,s,o) (by simp)),ih fun e he=>h e (by simp [he])]
theorem a2j (l:List (Nat×Nat×MObj)) (i:Nat):(∃ e∈l,i=e.1∧ioL l i=e.2.1∧∀ F,a42 l F i=e.2.2)∨((∀ e∈l,i≠e.1)∧ioL l i=i∧∀ F,a42 l F i=dyn F i):=by
 induction l with
 | nil=>exact .inr ⟨by simp,rfl,fun _=>rfl⟩
 | cons e l ih=>
  obtain ⟨n,s,o⟩:=e
  by_cases h:i=n
  · exact .inl ⟨(n,s,o),by simp,h,by simp [ioL,h],fun F=>by simp [a42,h]⟩
  · rcases ih with ⟨e,he,h1,h2,h3⟩ | ⟨h1,h2,h3⟩
    · exact .inl ⟨e,by simp [he],h1,by simp [ioL,h,h2],fun F=>by simp [a42,h,h3]⟩
    · refine .inr ⟨fun e he=>?_,by simp [ioL,h,h2],fun F=>by simp [a42,h,h3]⟩
      rcases List.mem_cons.1 he with rfl | he
      · exact h
      · exact h1 e he
theorem finM_L {res:List Rs} {st:St} {out:PV} (l:List (Nat×Nat×MObj)) (F:Nat→Nat→MObj) (hr:P7 res st=some (out.ren (ioL l)))
 (hs:∀ e∈l,okId e.2.1=true∧e.2.1 < 1000000∧st.mem e.2.1=e.2.2.ren (ioL l)) (hd:(l.map (·.2.1)).Nodup) (hnd:∀ e∈l,isD e.1=true)
 (hF:∀ k j,k < 16→(F k j).live=true→(∀ e∈l,DN k j≠e.1)→st.mem (DN k j)=F k j∧(F k j).ren (ioL l)=F k j) :
 ∃ st',Le st st'∧∃ ι:Nat→Nat,P7 res st'=some (out.ren ι)∧(∀ i j,(a42 l F i).live=true→(a42 l F j).live=true→ι i=ι j→i=j)∧(∀ j,(a42 l F j).live=true→st'.mem (ι j)=(a42 l F j).ren ι)∧(∀ j,(a42 l F j).live=true→ι j=j∨okId (ι j)=true)∧(∀ j,(fun _:Nat=>false) j=true→ι j=j∧(a42 l F j).live=true):=by
 have key:∀ i,(a42 l F i).live=true→isD i=true:=fun i hi=>by
  rcases a2j l i with ⟨e,he,h1,h2,h3⟩ | ⟨h1,h2,h3⟩
  · rw [h1];exact hnd e he
  · rw [h3] at hi
    unfold dyn at hi
    by_cases hD:isD i=true
    · exact hD
    · rw [if_neg hD] at hi;cases hi
 have uniq:∀ (l:List (Nat×Nat×MObj)),(l.map (·.2.1)).Nodup→∀ e∈l,∀ e'∈l,e.2.1=e'.2.1→e=e':=by
  intro l
  induction l with
  | nil=>intro _ e he;cases he
  | cons a l ih=>
   intro hd e he e' he' h
   simp only [List.map_cons,List.nodup_cons] at hd
   rcases List.mem_cons.1 he with rfl | he1<;>rcases List.mem_cons.1 he' with rfl | he2
   · rfl
   · exact absurd (List.mem_map_of_mem (f:=(·.2.1)) he2) (by rw [← h];exact hd.1)
   · exact absurd (List.mem_map_of_mem (f:=(·.2.1)) he1) (by rw [h];exact hd.1)
   · exact ih hd.2 e he1 e' he2 h
 refine ⟨st,Le.forget rfl (fun x=>.refl _),ioL l,hr,fun i j h1 h2 h=>?_,fun j hj=>?_,fun j hj=>?_,fun j hj=>by cases hj⟩
 · rcases a2j l i with ⟨e,he,i1,i2,i3⟩ | ⟨i1,i2,i3⟩<;>rcases a2j l j with ⟨e',he',j1,j2,j3⟩ | ⟨j1,j2,j3⟩
   · rw [i2,j2] at h
     rw [i1,j1,uniq l hd e he e' he' h]
   · rw [i2,j2] at h
     have:=key j h2
     have hlt:=(hs e he).2.1
     rw [h] at hlt
     simp [isD] at this;omega
   · rw [i2,j2] at h
     have:=key i h1
     have hlt:=(hs e' he').2.1
     rw [← h] at hlt
     simp [isD] at this;omega
   · rw [i2,j2] at h;exact h
 · rcases a2j l j with ⟨e,he,i1,i2,i3⟩ | ⟨i1,i2,i3⟩
   · rw [i2,i3];exact (hs e he).2.2
   · have hD:=key j hj
     rw [i3] at hj ⊢
     rw [i2]
     have e:dyn F j=F (dk j) (dj j):=by unfold dyn;rw [if_pos hD]
     rw [e] at hj ⊢
     have:=hF (dk j) (dj j) (Nat.mod_lt _ (by omega)) hj (fun e he=>by rw [← b77 hD];exact i1 e he)
     rw [← b77 hD] at this
     rw [this.1,this.2]
 · rcases a2j l j with ⟨e,he,i1,i2,i3⟩ | ⟨i1,i2,i3⟩
   · rw [i2];exact .inr (hs e he).1
   · exact .inl i2
end Go.PW
