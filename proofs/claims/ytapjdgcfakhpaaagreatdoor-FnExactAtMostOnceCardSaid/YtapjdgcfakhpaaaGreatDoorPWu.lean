/- Other words for a state: what is forgotten, what is frozen, what is taken for a row. -/
import Derived.Test.YtapjdgcfakhpaaaGreatDoorPWt
set_option linter.unusedSectionVars false
set_option linter.unusedSimpArgs false
set_option linter.unusedVariables false
namespace Go.PW
variable [GF]
open Go.RowKit
inductive Wk:PV→PV→Prop
 | refl (p:PV):Wk p p
 | undef (p:PV):Wk p .undef
 | emp (z s:Nat):Wk (.emp z) (.val (.list s []))
 | emp' (z s:Nat):Wk (.emp z) (.emp s)
theorem Wk.rep {γ:Nat→Value} {L:Nat→Prop} {w:World} {p q:PV} {v:Value} (h:Wk p q) (hp:RepP γ L w p v):RepP γ L w q v:=by
 cases h with
 | refl=>exact hp
 | undef=>exact .undef v
 | emp z s=>rw [hp.empI];exact .val _ _ (.list0 _ _ _)
 | emp' z s=>rw [hp.empI];exact .emp s
theorem Le.drop {st st':St} (hm:∀ i,st'.mem i=st.mem i∨st'.mem i=.dead) (he:∀ x,Wk (st.env x) (st'.env x)):Le st st':=fun F γ a w hI=>by
 have hsub:∀ b,x3 F.L γ st'.mem b→x3 F.L γ st.mem b:=fun b hb=>by
  rcases hb with h | ⟨id,h1,h2⟩
  · exact .inl h
  · rcases hm id with h | h
    · exact .inr ⟨id,by rw [← h];exact h1,h2⟩
    · rw [h] at h1;cases h1
 have hk:Keeps (x3 F.L γ st.mem) w (x3 F.L γ st'.mem) w:=fun b o v hb hc=>⟨fun h=>hb (hsub b h),hc⟩
 have hl:∀ id,(st'.mem id).live=true→st'.mem id=st.mem id:=fun id h=>by
  rcases hm id with h' | h'
  · exact h'
  · rw [h'] at h;cases h
 refine ⟨γ,hI.sz,hI.df,fun x=>((he x).rep (hI.env x)).keep hk,⟨fun id cs hid=>?_,fun id E sz xs hid=>?_,fun id E sz n c hid=>?_,fun id s clk m hid=>?_,fun id id' b h1 h2 h3 h4=>?_⟩,hI.fr,hI.gl.keep hk,fun k b cs hb hm'=>?_,fun v E sz xs hv hm'=>?_,fun i v hv hl'=>hI.pinn i v hv (by rw [← hl i hl'];exact hl')⟩
 · obtain ⟨b,arr,T,h1,h2,h3,h4,h5⟩:=hI.mem.box id cs (by rw [← hl id (by rw [hid];rfl)];exact hid)
   exact ⟨b,arr,T,h1,h2,h3,h4,fun j hj=>⟨(h5 j hj).1.keep hk,(h5 j hj).2⟩⟩
 · obtain ⟨vs,h1,h2,h3,h4⟩:=hI.mem.row id E sz xs (by rw [← hl id (by rw [hid];rfl)];exact hid)
   exact ⟨vs,h1,h2,⟨h3.1,fun i k hi hk'=>(h3.2 i k hi hk').mono hk⟩,h4⟩
 · obtain ⟨vs,h1,h2,h3⟩:=hI.mem.prow id E sz n c (by rw [← hl id (by rw [hid];rfl)];exact hid)
   exact ⟨vs,h1,h2,fun j k hj hk'=>⟨(h3 j k hj hk').1.keep hk,(h3 j k hj hk').2⟩⟩
 · obtain ⟨b,es,h1,h2,h3,h4⟩:=hI.mem.map id s clk m (by rw [← hl id (by rw [hid];rfl)];exact hid)
   exact ⟨b,es,h1,h2,h3,h4.keep hk⟩
 · exact hI.mem.inj id id' b (by rw [← hl id h1];exact h1) (by rw [← hl id' h2];exact h2) h3 h4
 · exact hI.pin k b cs hb (by rw [← hl _ (by rw [hm'];rfl)];exact hm')
 · exact hI.pinr v E sz xs hv (by rw [← hl _ (by rw [hm'];rfl)];exact hm')
mutual
def PV.frz (φ:Nat→Option RV):PV→PV
 | .own i=>match φ i with
  | some r=>.val r
  | none=>.own i
 | .elt i j s o=>match φ i with
  | some _=>.undef
  | none=>.elt i j s o
 | .agg cs=>J4 (PV.frzL φ cs)
 | .tup cs=>.tup (PV.frzL φ cs)
 | .fn f cs=>.fn f (PV.frzL φ cs)
 | .ptr i o=>.ptr i o
 | .undef=>.undef
 | .skip=>.skip
 | .val r=>.val r
 | .emp s=>.emp s
 | .at cs=>.at cs
def PV.frzL (φ:Nat→Option RV):List PV→List PV
 | []=>[]
 | p :: ps=>p.frz φ :: PV.frzL φ ps
end
theorem PV.frzL_map (φ:Nat→Option RV) (ps:List PV):PV.frzL φ ps=ps.map (PV.frz φ):=by
 induction ps with
 | nil=>rfl
 | cons p ps ih=>simp [PV.frzL,ih]
theorem PV.frzL_length (φ:Nat→Option RV) (ps:List PV):(PV.frzL φ ps).length=ps.length:=by simp [PV.frzL_map]
theorem PV.frzL_getD (φ:Nat→Option RV) (ps:List PV) (i:Nat) (h:i < ps.length):(PV.frzL φ ps).getD i .undef=(ps.getD i .undef).frz φ:=by
 simp [PV.frzL_map,List.getD_eq_getElem?_getD,List.getElem?_map,List.getElem?_eq_getElem h]
theorem RepP.frz {γ:Nat→Value} {L L':Nat→Prop} {w:World} {φ:Nat→Option RV} (hk:Keeps L w L' w) (hφ:∀ i r,φ i=some r→RepR L' w r (γ i)) {p:PV} {v:Value} (h:RepP γ L w p v):RepP γ L' w (p.frz φ) v:=by
 induction h with
 | undef v=>exact .undef v
 | skip=>exact .skip
 | val r v h=>exact .val r v (h.mono hk)
 | emp s=>exact .emp s
 | own id v h=>
  simp only [PV.frz]
  cases e:φ id with
  | some r=>rw [h];exact .val _ _ (hφ id r e)
  | none=>exact .own id v h
 | ptr id off b h=>exact .ptr id off b h
 | elt id j sz off b n c h=>
  simp only [PV.frz]
  cases e:φ id with
  | some r=>exact .undef _
  | none=>exact .elt id j sz off b n c h
 | «at» cells b o f hb h0 hc h=>
  have hpos:=List.length_pos_iff.2 h0
  exact .at cells b o f (hk b _ _ hb (hc 0 hpos)).1 h0 hc (fun j hj=>(h j hj).mono hk)
 | agg cs vs hs _ ih=>
  simp only [PV.frz]
  exact a42 (by rw [PV.frzL_length];exact hs) (fun i hi=>by rw [PV.frzL_length] at hi;rw [PV.frzL_getD _ _ _ hi];exact ih i hi)
 | tup cs vs hs _ ih=>exact .tup _ vs (by rw [PV.frzL_length];exact hs) (fun i hi=>by rw [PV.frzL_length] at hi;rw [PV.frzL_getD _ _ _ hi];exact ih i hi)
 | fn f cs vs hs _ ih=>exact .fn f _ vs (by rw [PV.frzL_length];exact hs) (fun i hi=>by rw [PV.frzL_length] at hi;rw [PV.frzL_getD _ _ _ hi];exact ih i hi)
def a00 (st:St) (sel:Nat→Bool) (i:Nat):Option RV:=match st.mem i with
 | .row _ sz xs=>if sel i && okId i then some (.list sz xs) else none
 | _=>none
def St.freeze (st:St) (sel:Nat→Bool):St where
 env:=fun x=>(st.env x).frz (a00 st sel)
 mem:=fun i=>match st.mem i with
  | .row E sz xs=>if sel i && okId i then .dead else .row E sz xs
  | .box cs=>.box (PV.frzL (a00 st sel) cs)
  | .prow E sz n c=>.prow E sz n fun j k=>(c j k).frz (a00 st sel)
  | .map s clk m=>.map s clk fun k=>(m k).map fun p=>(p.1.frz (a00 st sel),p.2)
  | .dead=>.dead
theorem c5w {F:Ctx} {γ:Nat→Value} {st:St} {w:World} {L':Nat→Prop} (hM:MemInv F γ st.mem w) {id E sz:Nat} {xs:List RV} (h:st.mem id=.row E sz xs) (hk:Keeps (x3 F.L γ st.mem) w L' w) (hn:∀ b,Value.blk (γ id)=some b→¬ L' b) :
 RepR L' w (.list sz xs) (γ id):=by
 obtain ⟨vs,h1,h2,h3,h4⟩:=hM.row id E sz xs h
 rcases h1.2 with ⟨hv,h0⟩ | ⟨g,cap,cur,hv,hg,hh,hc,hmax,hcl,htk⟩
 · have:xs=[]:=List.eq_nil_of_length_eq_zero (by simpa using h0)
   subst this
   rw [hv];exact .list0 _ _ _
 · rw [hv]
   by_cases hx:xs=[]
   · subst hx;exact .list0 _ _ _
   · have hvl:=h1.1
     refine .list sz xs g 0 cap (fun j=>vs.getD j undef) hx h2 hc (hn g (by rw [hv];rfl)) (fun j hj=>?_) h3.1 (fun i k hi hk'=>(h3.2 i k hi hk').mono hk)
     rw [Nat.zero_add]
     have hj':j < vs.length:=by omega
     have e:vs[j]?=cur[j]?:=by
      rw [← htk,List.getElem?_take,if_pos (by omega)];simp
     simp only [World.cell?,hh]
     rw [List.getD_eq_getElem?_getD,List.getElem?_eq_getElem hj'] at *
     rw [← e];rfl
theorem Le.freeze (st:St) (sel:Nat→Bool):Le st (st.freeze sel):=fun F γ a w hI=>by
 have hl:∀ id,((st.freeze sel).mem id).live=true→(st.mem id).live=true∧(∀ E sz xs,st.mem id=.row E sz xs→(sel id && okId id)=false):=fun id h=>by
  simp only [St.freeze] at h
  split at h
  · rename_i E sz xs e
    split at h
    · cases h
    · rename_i hs
      exact ⟨by rw [e];rfl,fun _ _ _ _=>by simpa using hs⟩
  · rename_i cs e;exact ⟨by rw [e];rfl,fun E sz xs h'=>by rw [e] at h';cases h'⟩
  · rename_i E sz n c e;exact ⟨by rw [e];rfl,fun E sz xs h'=>by rw [e] at h';cases h'⟩
  · rename_i s clk m e;exact ⟨by rw [e];rfl,fun E sz xs h'=>by rw [e] at h';cases h'⟩
  · cases h
 have hsub:∀ b,x3 F.L γ (st.freeze sel).mem b→x3 F.L γ st.mem b:=fun b hb=>by
  rcases hb with h | ⟨id,h1,h2⟩
  · exact .inl h
  · exact .inr ⟨id,(hl id h1).1,h2⟩
 have hk:Keeps (x3 F.L γ st.mem) w (x3 F.L γ (st.freeze sel).mem) w:=fun b o v hb hc=>⟨fun h=>hb (hsub b h),hc⟩
 have hφ:∀ i r,a00 st sel i=some r→RepR (x3 F.L γ (st.freeze sel).mem) w r (γ i):=fun i r h=>by
  unfold a00 at h
  split at h
  · rename_i E sz xs e
    split at h
    · rename_i hs
      cases h
      refine c5w hI.mem e hk fun b hb hlive=>?_
      rcases hlive with h | ⟨id,h1,h2⟩
      · obtain ⟨vs,g1,_⟩:=hI.mem.row i E sz xs e
        rcases g1.2 with ⟨hv,_⟩ | ⟨g,cap,cur,hv,hg,_⟩
        · rw [hv] at hb;simp [Value.blk] at hb
        · rw [hv] at hb;simp [Value.blk] at hb;subst hb
          have h1:=hI.fr.hL _ h
          have h2:okId i=true:=by simp at hs;exact hs.2
          have h3:=hg.own (.inl (by rintro rfl;simp [okId] at h2)) (by
           cases ho:F.po i with
           | none=>rfl
           | some b=>have:=hI.fr.hpo i b ho;rw [h2] at this;cases this)
          omega
      · obtain ⟨k1,k2⟩:=hl id h1
        obtain rfl:=hI.mem.inj id i b k1 (by rw [e];rfl) h2 hb
        rw [k2 E sz xs e] at hs;cases hs
    · cases h
  · cases h
 refine ⟨γ,hI.sz,hI.df,fun x=>(hI.env x).frz hk hφ,⟨fun id cs hid=>?_,fun id E sz xs hid=>?_,fun id E sz n c hid=>?_,fun id s clk m hid=>?_,fun id id' b h1 h2 h3 h4=>hI.mem.inj id id' b (hl id h1).1 (hl id' h2).1 h3 h4⟩,hI.fr,hI.gl.keep hk,fun k b cs hb hm'=>?_,fun v E sz xs hv hm'=>?_,fun i v hv hl'=>hI.pinn i v hv (hl i hl').1⟩
 · simp only [St.freeze] at hid
   split at hid
   · split at hid<;>cases hid
   · rename_i cs' e
     cases hid
     obtain ⟨b,arr,T,h1,h2,h3,h4,h5⟩:=hI.mem.box id cs' e
     refine ⟨b,arr,T,h1,h2,by rw [PV.frzL_length];exact h3,h4,fun j hj=>?_⟩
     rw [PV.frzL_length] at hj
     rw [PV.frzL_getD _ _ _ hj]
     exact ⟨(h5 j hj).1.frz hk hφ,(h5 j hj).2⟩
   all_goals cases hid
 · simp only [St.freeze] at hid
   split at hid
   · rename_i E' sz' xs' e
     split at hid
     · cases hid
     · cases hid
       obtain ⟨vs,h1,h2,h3,h4⟩:=hI.mem.row id _ _ _ e
       exact ⟨vs,h1,h2,⟨h3.1,fun i k hi hk'=>(h3.2 i k hi hk').mono hk⟩,h4⟩
   all_goals cases hid
 · simp only [St.freeze] at hid
   split at hid
   · split at hid<;>cases hid
   · cases hid
   · rename_i E' sz' n' c' e
     cases hid
     obtain ⟨vs,h1,h2,h3⟩:=hI.mem.prow id _ _ _ _ e
     exact ⟨vs,h1,h2,fun j k hj hk'=>⟨(h3 j k hj hk').1.frz hk hφ,(h3 j k hj hk').2⟩⟩
   all_goals cases hid
 · simp only [St.freeze] at hid
   split at hid
   · split at hid<;>cases hid
   · cases hid
   · cases hid
   · rename_i s' clk' m' e
     cases hid
     obtain ⟨b,es,h1,h2,h3,h4⟩:=hI.mem.map id _ _ _ e
     refine ⟨b,es,h1,h2,h3,⟨h4.key,h4.one,fun e he k hek=>?_,fun k hn=>by rw [h4.out k hn];rfl,h4.lt,h4.born⟩⟩
     obtain ⟨p,g1,g2,g3⟩:=h4.val e he k hek
     exact ⟨_,by rw [g1];rfl,g2.frz hk hφ,g3⟩
   · cases hid
 · simp only [St.freeze] at hm'
   split at hm'
   · split at hm'<;>cases hm'
   · rename_i cs' e;exact hI.pin k b cs' hb e
   all_goals cases hm'
 · simp only [St.freeze] at hm'
   split at hm'
   · rename_i E' sz' xs' e;exact hI.pinr v E' sz' xs' hv e
   all_goals cases hm'
inductive Ad (d:Nat):PV→PV→Prop
 | kill (p:PV):Ad d p (p.kill (· == d))
 | emp (z:Nat):Ad d (.emp z) (.own d)
theorem loop_le {P:Program} {c:PC} {K:PExit→St→Prop} {X:Type} (S:X→St) (I:X→Prop) (μ:X→Nat) {st:St} (x0:X) (h0:Le st (S x0)) (hi:I x0)
 (hr:∀ x,I x→a0k P c (S x) fun e st'=>e.then st' (fun st'=>∃ x',I x'∧μ x' < μ x∧Le st' (S x')) K):a0k P (.loop (.ghost c)) st K:=
 c6f (fun n st=>∃ x,I x∧μ x=n∧Le st (S x)) ⟨x0,hi,rfl,h0⟩ fun n st ⟨x,h1,h2,h3⟩=>
  ⟨S x,h3,V0 (fun e s hh=>PExit.then_mono (fun s ⟨x',k1,k2,k3⟩=>⟨μ x',by omega,x',k1,rfl,k3⟩) (fun _ _=>id) hh) (hr x h1)⟩
end Go.PW
