/- Calls that make, or use up, deep objects under names told by a formula. -/
import Derived.Test.YtfoapolbgpjfaaaGreatDoorPWae
set_option linter.unusedSectionVars false
set_option linter.unusedSimpArgs false
set_option linter.unusedVariables false
set_option maxRecDepth 100000
namespace Go.PW
variable [GF]
open Go.RowKit
def TD (T:Nat→Nat→Bool) (x:Nat):Bool:=isD x && T (dk x) (dj x)
theorem a4s {T:Nat→Nat→Bool} {k j:Nat} (hk:k < 16):TD T (DN k j)=T k j:=by unfold TD;rw [a5q,DN_dk hk,DN_dj hk];rfl
theorem a9z {T:Nat→Nat→Bool} {n:Nat} (h:n < 1000000):TD T n=false:=by unfold TD;rw [a62 h];rfl
theorem TD_D {T:Nat→Nat→Bool} {x:Nat} (h:TD T x=true):isD x=true:=by unfold TD at h;simp only [Bool.and_eq_true] at h;exact h.1
theorem b2j {x:Nat} (h:isD x=true):∃ k j,k < 16∧x=DN k j:=⟨dk x,dj x,Nat.mod_lt _ (by omega),b77 h⟩
theorem a1q {T r}:(PV.val r).onT T:=fun _ _=>rfl
theorem a5x {T:Nat→Bool} {i:Nat} (h:T i=true):(PV.own i).onT T:=fun ι hι=>by simp only [PV.ren];rw [hι i h]
theorem c35 {T:Nat→Bool} {cs:List PV} (h:∀ p∈cs,p.onT T):(PV.agg cs).onT T:=fun ι hι=>by
 simp only [PV.ren,PV.renL_map]
 congr 1
 conv=>rhs;rw [← List.map_id cs]
 exact List.map_congr_left fun p hp=>h p hp ι hι
def nK (T:Nat→Nat→Bool):Nat→Bool:=a6d (TD T) (TD T)
theorem b6o {T:Nat→Nat→Bool} {n:Nat} (h:n < 1000000):nK T n=false:=by unfold nK a6d;rw [a9z h,c03 h];rfl
theorem b6p {T:Nat→Nat→Bool} {k j:Nat} (hk:k < 16):nK T (DN k j)=T k j:=by unfold nK a6d;rw [a4s hk,c04];simp
def nM (T:Nat→Nat→Bool) (G:Nat→Nat→MObj) (m:Nat→MObj) (x:Nat):MObj:=if TD T x then dyn G x else if jT (TD T) x then .dead else (m x).kill (nK T)
theorem b6m {T:Nat→Nat→Bool} {G:Nat→Nat→MObj} {m:Nat→MObj} {n:Nat} (h:n < 1000000):nM T G m n=(m n).kill (nK T):=by unfold nM;rw [a9z h,c03 h];rfl
theorem b6n {T:Nat→Nat→Bool} {G:Nat→Nat→MObj} {m:Nat→MObj} {k j:Nat} (hk:k < 16):nM T G m (DN k j)=if T k j then G k j else (m (DN k j)).kill (nK T):=by
 unfold nM
 rw [a4s hk,a2a hk]
 by_cases h:T k j=true
 · rw [if_pos h,if_pos h]
 · rw [if_neg h,if_neg h,c04];rfl
theorem mem_new {P:Program} {f:Nat} {r:RV} {E sz:Nat} {xs:List RV} (h:i7 P f [.val r] (.ret (.own 0) [⟨E,sz,xs⟩]) []) (hfl:∀ x∈xs,x.flat=true) (k j:Nat) (hk:k < 16) :
 U2 P f [.val r] (fun _=>.dead) (fun _=>false) (.own (DN k j)) (dyn fun k' j'=>if k'=k∧j'=j then .row E sz xs else .dead):=by
 have:=b3g (ps:=[.val r]) (rs:=[r]) (M:=fun _=>.dead) h rfl (fun i hi=>by
  have:i=0:=by simp at hi;exact hi
  subst this;exact .val r) rfl rfl (fun r' hr' x hx=>by rw [List.mem_singleton.1 hr'] at hx;exact hfl x hx) (DN k j) (fun _ _=>rfl) (fun _=>rfl) (fun _=>false) (fun _ h=>by cases h)
 have e:S6 (fun _=>MObj.dead) (DN k j) [⟨E,sz,xs⟩]=dyn fun k' j'=>if k'=k∧j'=j then .row E sz xs else .dead:=by
  funext x
  simp only [S6,upd]
  by_cases hx:x=DN k j
  · rw [if_pos hx,hx,a2a hk,if_pos ⟨rfl,rfl⟩]
  · rw [if_neg hx]
    unfold dyn
    by_cases hD:isD x=true
    · rw [if_pos hD]
      show MObj.dead=if dk x=k∧dj x=j then MObj.row E sz xs else MObj.dead
      rw [if_neg]
      rintro ⟨h1,h2⟩
      exact hx (by rw [b77 hD,h1,h2])
    · rw [if_neg hD]
 rw [e] at this
 exact this
theorem c5l {P:Program} {st:St} {Ke:Kx (PV→St→Prop)} {kx:Kx (RV→St→Prop)} {d f:Nat} {ps:List PV} {rs:List RV} {out:PV} {G:Nat→Nat→MObj} (T:Nat→Nat→Bool) (hps:ps=rs.map .val)
 (h:U2 P f (rs.map .val) (fun _=>.dead) (fun _=>false) out (dyn G)) (hG:∀ k j,k < 16→(G k j).live=true→T k j=true∧(G k j).onT (TD T)∧∀ cs,G k j≠.box cs) (hout:out.onT (TD T))
 (hK:Ke.k out ⟨fun x=>(st.env x).kill (nK T),nM T G st.mem⟩):KC P st d f ps (Ke:=Ke) (kx:=kx):=by
 have hpin:(fun i=>TD T i && !TD T i)=fun _=>false:=by funext i;simp
 refine b5m (TD T) (TD T) (fun _=>.dead) (dyn G) (fun x hx=>?_) (fun x hx=>hx) (fun p hp=>?_) (fun i hi=>by cases hi) (fun i hi=>?_) hout (fun i h1 _=>by cases h1) (by rw [hpin,hps];exact h) hK
 · have:=TD_D hx
   exact ⟨c4y this,.inr (by simp [isD] at this;omega)⟩
 · rw [hps] at hp
   obtain ⟨r,_,rfl⟩:=List.mem_map.1 hp
   exact a1q
 · have hD:isD i=true:=by
    unfold dyn at hi
    by_cases hD:isD i=true
    · exact hD
    · rw [if_neg hD] at hi;cases hi
   obtain ⟨k,j,hk,rfl⟩:=b2j hD
   rw [a2a hk] at hi ⊢
   rw [a4s hk]
   exact hG k j hk hi
theorem callU {P:Program} {st:St} {Ke:Kx (PV→St→Prop)} {kx:Kx (RV→St→Prop)} {d f:Nat} {ps:List PV} {r:RV} {G:Nat→Nat→MObj} (T:Nat→Nat→Bool)
 (h:U2 P f ps (dyn G) (fun _=>false) (.val r) (fun _=>.dead)) (hps:∀ p∈ps,p.onT (TD T)) (hG:∀ k j,k < 16→(G k j).live=true→T k j=true∧st.mem (DN k j)=G k j∧(G k j).onT (TD T))
 (hK:Ke.k (.val r) ⟨fun x=>(st.env x).kill (nK T),nM T (fun _ _=>.dead) st.mem⟩):KC P st d f ps (Ke:=Ke) (kx:=kx):=by
 have hpin:(fun i=>TD T i && !TD T i)=fun _=>false:=by funext i;simp
 refine b5m (TD T) (TD T) (dyn G) (fun _=>.dead) (fun x hx=>?_) (fun x hx=>hx) hps (fun i hi=>?_) (fun i hi=>by cases hi) a1q (fun i _ h2=>by cases h2) (by rw [hpin];exact h) ?_
 · have:=TD_D hx
   exact ⟨c4y this,.inr (by simp [isD] at this;omega)⟩
 · have hD:isD i=true:=by
    unfold dyn at hi
    by_cases hD:isD i=true
    · exact hD
    · rw [if_neg hD] at hi;cases hi
   obtain ⟨k,j,hk,rfl⟩:=b2j hD
   rw [a2a hk] at hi ⊢
   rw [a4s hk]
   exact hG k j hk hi
 · have e:(fun x=>if TD T x=true then MObj.dead else if jT (TD T) x=true then .dead else (st.mem x).kill (a6d (TD T) (TD T)))=nM T (fun _ _=>.dead) st.mem:=by
    funext x
    unfold nM
    by_cases h:TD T x=true
    · rw [if_pos h,if_pos h];unfold dyn;rw [ite_self]
    · rw [if_neg h,if_neg h];rfl
   rw [e];exact hK
theorem finM_D {res:List Rs} {st:St} {out:PV} (F:Nat→Nat→MObj) (hr:P7 res st=some out) (hF:∀ k j,k < 16→(F k j).live=true→st.mem (DN k j)=F k j) (hout:out.onT isD) (hFo:∀ k j,k < 16→(F k j).onT isD) :
 ∃ st',Le st st'∧∃ ι:Nat→Nat,P7 res st'=some (out.ren ι)∧(∀ i j,(dyn F i).live=true→(dyn F j).live=true→ι i=ι j→i=j)∧(∀ j,(dyn F j).live=true→st'.mem (ι j)=(dyn F j).ren ι)∧(∀ j,(dyn F j).live=true→ι j=j∨okId (ι j)=true)∧(∀ j,(fun _:Nat=>false) j=true→ι j=j∧(dyn F j).live=true):=by
 refine ⟨st,Le.forget rfl (fun x=>.refl _),fun i=>i,?_,fun i j _ _ h=>h,fun j hj=>?_,fun j _=>.inl rfl,fun j hj=>by cases hj⟩
 · rw [hr,hout _ fun _ _=>rfl]
 · have hD:isD j=true:=by
    unfold dyn at hj
    by_cases hD:isD j=true
    · exact hD
    · rw [if_neg hD] at hj;cases hj
   obtain ⟨k,i,hk,rfl⟩:=b2j hD
   rw [a2a hk] at hj ⊢
   rw [hF k i hk hj,(hFo k i hk).1 _ fun _ _=>rfl]
theorem finM_U {res:List Rs} {st:St} {r:RV} (hr:P7 res st=some (.val r)) :
 ∃ st',Le st st'∧∃ ι:Nat→Nat,P7 res st'=some ((PV.val r).ren ι)∧(∀ i j,((fun _:Nat=>MObj.dead) i).live=true→((fun _:Nat=>MObj.dead) j).live=true→ι i=ι j→i=j)∧(∀ j,((fun _:Nat=>MObj.dead) j).live=true→st'.mem (ι j)=((fun _:Nat=>MObj.dead) j).ren ι)∧(∀ j,((fun _:Nat=>MObj.dead) j).live=true→ι j=j∨okId (ι j)=true)∧(∀ j,(fun _:Nat=>false) j=true→ι j=j∧((fun _:Nat=>MObj.dead) j).live=true):=
 ⟨st,Le.forget rfl (fun x=>.refl _),fun i=>i,hr,fun i j h=>by (cases h),fun j h=>by (cases h),fun j h=>by (cases h),fun j h=>by (cases h)⟩
theorem c5a {F:Nat→Nat→MObj} {i:Nat} (h:(dyn F i).live=true):okId i=false:=by
 unfold dyn at h
 by_cases hD:isD i=true
 · simp only [isD,Bool.and_eq_true,decide_eq_true_eq] at hD
   unfold okId
   rw [decide_eq_false (by omega),decide_eq_false (show ¬ i < 1000000 by omega)];simp
 · rw [if_neg hD] at h;cases h
theorem finM_G {res:List Rs} {st:St} {out:PV} {G:Nat→Nat→MObj} (l:List (Nat×Nat×MObj)) (F:Nat→Nat→MObj) (hM:∀ k j,k < 16→a42 l F (DN k j)=G k j) (hr:P7 res st=some (out.ren (ioL l)))
 (hs:∀ e∈l,okId e.2.1=true∧e.2.1 < 1000000∧st.mem e.2.1=e.2.2.ren (ioL l)) (hd:(l.map (·.2.1)).Nodup) (hnd:∀ e∈l,isD e.1=true)
 (hF:∀ k j,k < 16→(F k j).live=true→(∀ e∈l,DN k j≠e.1)→st.mem (DN k j)=F k j∧(F k j).ren (ioL l)=F k j) :
 ∃ st',Le st st'∧∃ ι:Nat→Nat,P7 res st'=some (out.ren ι)∧(∀ i j,(dyn G i).live=true→(dyn G j).live=true→ι i=ι j→i=j)∧(∀ j,(dyn G j).live=true→st'.mem (ι j)=(dyn G j).ren ι)∧(∀ j,(dyn G j).live=true→ι j=j∨okId (ι j)=true)∧(∀ j,(fun _:Nat=>false) j=true→ι j=j∧(dyn G j).live=true):=by
 have e:a42 l F=dyn G:=by
  funext x
  by_cases hD:isD x=true
  · obtain ⟨k,j,hk,rfl⟩:=b2j hD
    rw [hM k j hk,a2a hk]
  · have:a42 l F x=dyn F x:=by
     rcases a2j l x with ⟨e,he,h1,_,_⟩ | ⟨_,_,h3⟩
     · exact absurd (h1 ▸ hnd e he) hD
     · exact h3 F
    rw [this];unfold dyn;rw [if_neg hD,if_neg hD]
 rw [← e]
 exact finM_L l F hr hs hd hnd hF
end Go.PW
