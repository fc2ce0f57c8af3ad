/- Calls that make, or use up, deep objects under names told by a formula. -/
import Derived.Test.YtfoapolbgpjfaaaGreatDoorPWae
set_option linter.unusedSectionVars false
set_option linter.unusedSimpArgs false
set_option linter.unusedVariables false
set_option maxRecDepth 100000
namespace Go.PW
variable [GF]
open Go.RowKit
def TD (T:Nat→Nat→Bool) (x:Nat):Bool:=isD x && T (dk x) (dj x)
theorem a4q {T:Nat→Nat→Bool} {k j:Nat} (hk:k < 16):TD T (DN k j)=T k j:=by unfold TD;rw [a7m,DN_dk hk,DN_dj hk];rfl
theorem a9w {T:Nat→Nat→Bool} {n:Nat} (h:n < 1000000):TD T n=false:=by unfold TD;rw [a67 h];rfl
theorem TD_D {T:Nat→Nat→Bool} {x:Nat} (h:TD T x=true):isD x=true:=by unfold TD at h;simp only [Bool.and_eq_true] at h;exact h.1
theorem b5j {x:Nat} (h:isD x=true):∃ k j,k < 16∧x=DN k j:=⟨dk x,dj x,Nat.mod_lt _ (by omega),DN_of h⟩
theorem a0m {T r}:(PV.val r).onT T:=fun _ _=>rfl
theorem a29 {T:Nat→Bool} {i:Nat} (h:T i=true):(PV.own i).onT T:=fun ι hι=>by simp only [PV.ren];rw [hι i h]
theorem b6d {T:Nat→Bool} {cs:List PV} (h:∀ p∈cs,p.onT T):(PV.agg cs).onT T:=fun ι hι=>by
 simp only [PV.ren,PV.renL_map]
 congr 1
 conv=>rhs;rw [← List.map_id cs]
 exact List.map_congr_left fun p hp=>h p hp ι hι
def nK (T:Nat→Nat→Bool):Nat→Bool:=a6e (TD T) (TD T)
theorem b6i {T:Nat→Nat→Bool} {n:Nat} (h:n < 1000000):nK T n=false:=by unfold nK a6e;rw [a9w h,c01 h];rfl
theorem b6j {T:Nat→Nat→Bool} {k j:Nat} (hk:k < 16):nK T (DN k j)=T k j:=by unfold nK a6e;rw [a4q hk,c02];simp
def nM (T:Nat→Nat→Bool) (G:Nat→Nat→MObj) (m:Nat→MObj) (x:Nat):MObj:=if TD T x then dyn G x else if jT (TD T) x then .dead else (m x).kill (nK T)
theorem b6g {T:Nat→Nat→Bool} {G:Nat→Nat→MObj} {m:Nat→MObj} {n:Nat} (h:n < 1000000):nM T G m n=(m n).kill (nK T):=by unfold nM;rw [a9w h,c01 h];rfl
theorem b6h {T:Nat→Nat→Bool} {G:Nat→Nat→MObj} {m:Nat→MObj} {k j:Nat} (hk:k < 16):nM T G m (DN k j)=if T k j then G k j else (m (DN k j)).kill (nK T):=by
 unfold nM
 rw [a4q hk,a13 hk]
 by_cases h:T k j=true
 · rw [if_pos h,if_pos h]
 · rw [if_neg h,if_neg h,c02];rfl
theorem c0r {P:Program} {f:Nat} {r:RV} {E sz:Nat} {xs:List RV} (h:f9 P f [.val r] (.ret (.own 0) [⟨E,sz,xs⟩]) []) (hfl:∀ x∈xs,x.flat=true) (k j:Nat) (hk:k < 16) :
 S0 P f [.val r] (fun _=>.dead) (fun _=>false) (.own (DN k j)) (dyn fun k' j'=>if k'=k∧j'=j then .row E sz xs else .dead):=by
 have:=b3d (ps:=[.val r]) (rs:=[r]) (M:=fun _=>.dead) h rfl (fun i hi=>by
  have:i=0:=by simp at hi;exact hi
  subst this;exact .val r) rfl rfl (fun r' hr' x hx=>by rw [List.mem_singleton.1 hr'] at hx;exact hfl x hx) (DN k j) (fun _ _=>rfl) (fun _=>rfl) (fun _=>false) (fun _ h=>by cases h)
 have e:S5 (fun _=>MObj.dead) (DN k j) [⟨E,sz,xs⟩]=dyn fun k' j'=>if k'=k∧j'=j then .row E sz xs else .dead:=by
  funext x
  simp only [S5,upd]
  by_cases hx:x=DN k j
  · rw [if_pos hx,hx,a13 hk,if_pos ⟨rfl,rfl⟩]
  · rw [if_neg hx]
    unfold dyn
    by_cases hD:isD x=true
    · rw [if_pos hD]
      show MObj.dead=if dk x=k∧dj x=j then MObj.row E sz xs else MObj.dead
      rw [if_neg]
      rintro ⟨h1,h2⟩
      exact hx (by rw [DN_of hD,h1,h2])
    · rw [if_neg hD]
 rw [e] at this
 exact this
theorem b3y {P:Program} {st:St} {Ke:Kx (PV→St→Prop)} {kx:Kx (RV→St→Prop)} {d f:Nat} {ps:List PV} {rs:List RV} {out:PV} {G:Nat→Nat→MObj} (T:Nat→Nat→Bool) (hps:ps=rs.map .val)
 (h:S0 P f (rs.map .val) (fun _=>.dead) (fun _=>false) out (dyn G)) (hG:∀ k j,k < 16→(G k j).live=true→T k j=true∧(G k j).onT (TD T)∧∀ cs,G k j≠.box cs) (hout:out.onT (TD T))
 (hK:Ke.k out ⟨fun x=>(st.env x).kill (nK T),nM T G st.mem⟩):KC P st d f ps (Ke:=Ke) (kx:=kx):=by
 have hpin:(fun i=>TD T i && !TD T i)=fun _=>false:=by funext i;simp
 refine b5c (TD T) (TD T) (fun _=>.dead) (dyn G) (fun x hx=>?_) (fun x hx=>hx) (fun p hp=>?_) (fun i hi=>by cases hi) (fun i hi=>?_) hout (fun i h1 _=>by cases h1) (by rw [hpin,hps];exact h) hK
 · have:=TD_D hx
   exact ⟨c44 this,.inr (by simp [isD] at this;omega)⟩
 · rw [hps] at hp
   obtain ⟨r,_,rfl⟩:=List.mem_map.1 hp
   exact a0m
 · have hD:isD i=true:=by
    unfold dyn at hi
    by_cases hD:isD i=true
    · exact hD
    · rw [if_neg hD] at hi;cases hi
   obtain ⟨k,j,hk,rfl⟩:=b5j hD
   rw [a13 hk] at hi ⊢
   rw [a4q hk]
   exact hG k j hk hi
theorem callU {P:Program} {st:St} {Ke:Kx (PV→St→Prop)} {kx:Kx (RV→St→Prop)} {d f:Nat} {ps:List PV} {r:RV} {G:Nat→Nat→MObj} (T:Nat→Nat→Bool)
 (h:S0 P f ps (dyn G) (fun _=>false) (.val r) (fun _=>.dead)) (hps:∀ p∈ps,p.onT (TD T)) (hG:∀ k j,k < 16→(G k j).live=true→T k j=true∧st.mem (DN k j)=G k j∧(G k j).onT (TD T))
 (hK:Ke.k (.val r) ⟨fun x=>(st.env x).kill (nK T),nM T (fun _ _=>.dead) st.mem⟩):KC P st d f ps (Ke:=Ke) (kx:=kx):=by
 have hpin:(fun i=>TD T i && !TD T i)=fun _=>false:=by funext i;simp
 refine b5c (TD T) (TD T) (dyn G) (fun _=>.dead) (fun x hx=>?_) (fun x hx=>hx) hps (fun i hi=>?_) (fun i hi=>by cases hi) a0m (fun i _ h2=>by cases h2) (by rw [hpin];exact h) ?_
 · have:=TD_D hx
   exact ⟨c44 this,.inr (by simp [isD] at this;omega)⟩
 · have hD:isD i=true:=by
    unfold dyn at hi
    by_cases hD:isD i=true
    · exact hD
    · rw [if_neg hD] at hi;cases hi
   obtain ⟨k,j,hk,rfl⟩:=b5j hD
   rw [a13 hk] at hi ⊢
   rw [a4q hk]
   exact hG k j hk hi
 · have e:(fun x=>if TD T x=true then MObj.dead else if jT (TD T) x=true then .dead else (st.mem x).kill (a6e (TD T) (TD T)))=nM T (fun _ _=>.dead) st.mem:=by
    funext x
    unfold nM
    by_cases h:TD T x=true
    · rw [if_pos h,if_pos h];unfold dyn;rw [ite_self]
    · rw [if_neg h,if_neg h];rfl
   rw [e];exact hK
theorem c5f {res:List Rs} {st:St} {out:PV} (F:Nat→Nat→MObj) (hr:P2 res st=some out) (hF:∀ k j,k < 16→(F k j).live=true→st.mem (DN k j)=F k j) (hout:out.onT isD) (hFo:∀ k j,k < 16→(F k j).onT isD) :
 ∃ st',Le st st'∧∃ ι:Nat→Nat,P2 res st'=some (out.ren ι)∧(∀ i j,(dyn F i).live=true→(dyn F j).live=true→ι i=ι j→i=j)∧(∀ j,(dyn F j).live=true→st'.mem (ι j)=(dyn F j).ren ι)∧(∀ j,(dyn F j).live=true→ι j=j∨okId (ι j)=true)∧(∀ j,(fun _:Nat=>false) j=true→ι j=j∧(dyn F j).live=true):=by
 refine ⟨st,Le.forget rfl (fun x=>.refl _),fun i=>i,?_,fun i j _ _ h=>h,fun j hj=>?_,fun j _=>.inl rfl,fun j hj=>by cases hj⟩
 · rw [hr,hout _ fun _ _=>rfl]
 · have hD:isD j=true:=by
    unfold dyn at hj
    by_cases hD:isD j=true
    · exact hD
    · rw [if_neg hD] at hj;cases hj
   obtain ⟨k,i,hk,rfl⟩:=b5j hD
   rw [a13 hk] at hj ⊢
   rw [hF k i hk hj,(hFo k i hk).1 _ fun _ _=>rfl]
theorem c5e {res:List Rs} {st:St} {r:RV} (hr:P2 res st=some (.val r)) :
 ∃ st',Le st st'∧∃ ι:Nat→Nat,P2 res st'=some ((PV.val r).ren ι)∧(∀ i j,((fun _:Nat=>MObj.dead) i).live=true→((fun _:Nat=>MObj.dead) j).live=true→ι i=ι j→i=j)∧(∀ j,((fun _:Nat=>MObj.dead) j).live=true→st'.mem (ι j)=((fun _:Nat=>MObj.dead) j).ren ι)∧(∀ j,((fun _:Nat=>MObj.dead) j).live=true→ι j=j∨okId (ι j)=true)∧(∀ j,(fun _:Nat=>false) j=true→ι j=j∧((fun _:Nat=>MObj.dead) j).live=true):=
 ⟨st,Le.forget rfl (fun x=>.refl _),fun i=>i,hr,fun i j h=>by (cases h),fun j h=>by (cases h),fun j h=>by (cases h),fun j h=>by (cases h)⟩
theorem b7i {F:Nat→Nat→MObj} {i:Nat} (h:(dyn F i).live=true):okId i=false:=by
 unfold dyn at h
 by_cases hD:isD i=true
 · simp only [isD,Bool.and_eq_true,decide_eq_true_eq] at hD
   unfold okId
   rw [decide_eq_false (by omega),decide_eq_false (show ¬ i < 1000000 by omega)];simp
 · rw [if_neg hD] at h;cases h
end Go.PW
