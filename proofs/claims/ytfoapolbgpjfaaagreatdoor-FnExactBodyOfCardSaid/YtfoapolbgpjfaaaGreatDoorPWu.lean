/- Other words for a state: what is forgotten, what is frozen, what is taken for a row. -/
import Derived.Test.YtfoapolbgpjfaaaGreatDoorPWt
set_option linter.unusedSectionVars false
set_option linter.unusedSimpArgs false
set_option linter.unusedVariables false
namespace Go.PW
variable [GF]
open Go.RowKit
inductive Wk:PV→PV→Prop
 | refl (p:PV):Wk p p
 | undef (p:PV):Wk p .undef
 | emp (z s:Nat):Wk (.emp z) (.val (.list s []))
 | emp' (z s:Nat):Wk (.emp z) (.emp s)
theorem Wk.rep {γ:Nat→Value} {L:Nat→Prop} {w:World} {p q:PV} {v:Value} (h:Wk p q) (hp:RepP γ L w p v):RepP γ L w q v:=by
 cases h with
 | refl=>exact hp
 | undef=>exact .undef v
 | emp z s=>rw [hp.empI];exact .val _ _ (.list0 _ _ _)
 | emp' z s=>rw [hp.empI];exact .emp s
theorem Le.drop {st st':St} (hm:∀ i,st'.mem i=st.mem i∨st'.mem i=.dead) (he:∀ x,Wk (st.env x) (st'.env x)):Le st st':=fun F γ a w hI=>by
 have hsub:∀ b,i8 F.L γ st'.mem b→i8 F.L γ st.mem b:=fun b hb=>by
  rcases hb with h | ⟨id,h1,h2⟩
  · exact .inl h
  · rcases hm id with h | h
    · exact .inr ⟨id,by rw [← h];exact h1,h2⟩
    · rw [h] at h1;cases h1
 have hk:Keeps (i8 F.L γ st.mem) w (i8 F.L γ st'.mem) w:=fun b o v hb hc=>⟨fun h=>hb (hsub b h),hc⟩
 have hl:∀ id,(st'.mem id).live=true→st'.mem id=st.mem id:=fun id h=>by
  rcases hm id with h' | h'
  · exact h'
  · rw [h'] at h;cases h
 refine ⟨γ,hI.sz,hI.df,fun x=>((he x).rep (hI.env x)).keep hk,⟨fun id cs hid=>?_,fun id E sz xs hid=>?_,fun id E sz n c hid=>?_,fun id s clk m hid=>?_,fun id id' b h1 h2 h3 h4=>?_⟩,hI.fr,hI.gl.keep hk,fun k b cs hb hm'=>?_,fun v E sz xs hv hm'=>?_,fun i v hv hl'=>hI.pinn i v hv (by rw [← hl i hl'];exact hl')⟩
 · obtain ⟨b,arr,T,h1,h2,h3,h4,h5⟩:=hI.mem.box id cs (by rw [← hl id (by rw [hid];rfl)];exact hid)
   exact ⟨b,arr,T,h1,h2,h3,h4,fun j hj=>⟨(h5 j hj).1.keep hk,(h5 j hj).2⟩⟩
 · obtain ⟨vs,h1,h2,h3,h4⟩:=hI.mem.row id E sz xs (by rw [← hl id (by rw [hid];rfl)];exact hid)
   exact ⟨vs,h1,h2,⟨h3.1,fun i k hi hk'=>(h3.2 i k hi hk').mono hk⟩,h4⟩
 · obtain ⟨vs,h1,h2,h3⟩:=hI.mem.prow id E sz n c (by rw [← hl id (by rw [hid];rfl)];exact hid)
   exact ⟨vs,h1,h2,fun j k hj hk'=>⟨(h3 j k hj hk').1.keep hk,(h3 j k hj hk').2⟩⟩
 · obtain ⟨b,es,h1,h2,h3,h4⟩:=hI.mem.map id s clk m (by rw [← hl id (by rw [hid];rfl)];exact hid)
   exact ⟨b,es,h1,h2,h3,h4.keep hk⟩
 · exact hI.mem.inj id id' b (by rw [← hl id h1];exact h1) (by rw [← hl id' h2];exact h2) h3 h4
 · exact hI.pin k b cs hb (by rw [← hl _ (by rw [hm'];rfl)];exact hm')
 · exact hI.pinr v E sz xs hv (by rw [← hl _ (by rw [hm'];rfl)];exact hm')
theorem Le.forget {st st':St} (hm:st'.mem=st.mem) (he:∀ x,Wk (st.env x) (st'.env x)):Le st st':=Le.drop (fun i=>.inl (by rw [hm])) he
mutual
def PV.frz (φ:Nat→Option RV):PV→PV
 | .own i=>match φ i with
  | some r=>.val r
  | none=>.own i
 | .elt i j s o=>match φ i with
  | some _=>.undef
  | none=>.elt i j s o
 | .agg cs=>l4 (PV.frzL φ cs)
 | .tup cs=>.tup (PV.frzL φ cs)
 | .fn f cs=>.fn f (PV.frzL φ cs)
 | .ptr i o=>.ptr i o
 | .undef=>.undef
 | .skip=>.skip
 | .val r=>.val r
 | .emp s=>.emp s
 | .at cs=>.at cs
def PV.frzL (φ:Nat→Option RV):List PV→List PV
 | []=>[]
 | p :: ps=>p.frz φ :: PV.frzL φ ps
end
theorem PV.frzL_map (φ:Nat→Option RV) (ps:List PV):PV.frzL φ ps=ps.map (PV.frz φ):=by
 induction ps with
 | nil=>rfl
 | cons p ps ih=>simp [PV.frzL,ih]
theorem PV.frzL_length (φ:Nat→Option RV) (ps:List PV):(PV.frzL φ ps).length=ps.length:=by simp [PV.frzL_map]
theorem PV.frzL_getD (φ:Nat→Option RV) (ps:List PV) (i:Nat) (h:i < ps.length):(PV.frzL φ ps).getD i .undef=(ps.getD i .undef).frz φ:=by
 simp [PV.frzL_map,List.getD_eq_getElem?_getD,List.getElem?_map,List.getElem?_eq_getElem h]
theorem RepP.frz {γ:Nat→Value} {L L':Nat→Prop} {w:World} {φ:Nat→Option RV} (hk:Keeps L w L' w) (hφ:∀ i r,φ i=some r→RepR L' w r (γ i)) {p:PV} {v:Value} (h:RepP γ L w p v):RepP γ L' w (p.frz φ) v:=by
 induction h with
 | undef v=>exact .undef v
 | skip=>exact .skip
 | val r v h=>exact .val r v (h.mono hk)
 | emp s=>exact .emp s
 | own id v h=>
  simp only [PV.frz]
  cases e:φ id with
  | some r=>rw [h];exact .val _ _ (hφ id r e)
  | none=>exact .own id v h
 | ptr id off b h=>exact .ptr id off b h
 | elt id j sz off b n c h=>
  simp only [PV.frz]
  cases e:φ id with
  | some r=>exact .undef _
  | none=>exact .elt id j sz off b n c h
 | «at» cells b o f hb h0 hc h=>
  have hpos:=List.length_pos_iff.2 h0
  exact .at cells b o f (hk b _ _ hb (hc 0 hpos)).1 h0 hc (fun j hj=>(h j hj).mono hk)
 | agg cs vs hs _ ih=>
  simp only [PV.frz]
  exact a16 (by rw [PV.frzL_length];exact hs) (fun i hi=>by rw [PV.frzL_length] at hi;rw [PV.frzL_getD _ _ _ hi];exact ih i hi)
 | tup cs vs hs _ ih=>exact .tup _ vs (by rw [PV.frzL_length];exact hs) (fun i hi=>by rw [PV.frzL_length] at hi;rw [PV.frzL_getD _ _ _ hi];exact ih i hi)
 | fn f cs vs hs _ ih=>exact .fn f _ vs (by rw [PV.frzL_length];exact hs) (fun i hi=>by rw [PV.frzL_length] at hi;rw [PV.frzL_getD _ _ _ hi];exact ih i hi)
def Y7 (st:St) (sel:Nat→Bool) (i:Nat):Option RV:=match st.mem i with
 | .row _ sz xs=>if sel i && okId i then some (.list sz xs) else none
 | _=>none
def St.freeze (st:St) (sel:Nat→Bool):St where
 env:=fun x=>(st.env x).frz (Y7 st sel)
 mem:=fun i=>match st.mem i with
  | .row E sz xs=>if sel i && okId i then .dead else .row E sz xs
  | .box cs=>.box (PV.frzL (Y7 st sel) cs)
  | .prow E sz n c=>.prow E sz n fun j k=>(c j k).frz (Y7 st sel)
  | .map s clk m=>.map s clk fun k=>(m k).map fun p=>(p.1.frz (Y7 st sel),p.2)
  | .dead=>.dead
theorem b74 {F:Ctx} {γ:Nat→Value} {st:St} {w:World} {L':Nat→Prop} (hM:MemInv F γ st.mem w) {id E sz:Nat} {xs:List RV} (h:st.mem id=.row E sz xs) (hk:Keeps (i8 F.L γ st.mem) w L' w) (hn:∀ b,Value.blk (γ id)=some b→¬ L' b) :
 RepR L' w (.list sz xs) (γ id):=by
 obtain ⟨vs,h1,h2,h3,h4⟩:=hM.row id E sz xs h
 rcases h1.2 with ⟨hv,h0⟩ | ⟨g,cap,cur,hv,hg,hh,hc,hmax,hcl,htk⟩
 · have:xs=[]:=List.eq_nil_of_length_eq_zero (by simpa using h0)
   subst this
   rw [hv];exact .list0 _ _ _
 · rw [hv]
   by_cases hx:xs=[]
   · subst hx;exact .list0 _ _ _
   · have hvl:=h1.1
     refine .list sz xs g 0 cap (fun j=>vs.getD j undef) hx h2 hc (hn g (by rw [hv];rfl)) (fun j hj=>?_) h3.1 (fun i k hi hk'=>(h3.2 i k hi hk').mono hk)
     rw [Nat.zero_add]
     have hj':j < vs.length:=by omega
     have e:vs[j]?=cur[j]?:=by
      rw [← htk,List.getElem?_take,if_pos (by omega)];simp
     simp only [World.cell?,hh]
     rw [List.getD_eq_getElem?_getD,List.getElem?_eq_getElem hj'] at *
     rw [← e];rfl
theorem Le.freeze (st:St) (sel:Nat→Bool):Le st (st.freeze sel):=fun F γ a w hI=>by
 have hl:∀ id,((st.freeze sel).mem id).live=true→(st.mem id).live=true∧(∀ E sz xs,st.mem id=.row E sz xs→(sel id && okId id)=false):=fun id h=>by
  simp only [St.freeze] at h
  split at h
  · rename_i E sz xs e
    split at h
    · cases h
    · rename_i hs
      exact ⟨by rw [e];rfl,fun _ _ _ _=>by simpa using hs⟩
  · rename_i cs e;exact ⟨by rw [e];rfl,fun E sz xs h'=>by rw [e] at h';cases h'⟩
  · rename_i E sz n c e;exact ⟨by rw [e];rfl,fun E sz xs h'=>by rw [e] at h';cases h'⟩
  · rename_i s clk m e;exact ⟨by rw [e];rfl,fun E sz xs h'=>by rw [e] at h';cases h'⟩
  · cases h
 have hsub:∀ b,i8 F.L γ (st.freeze sel).mem b→i8 F.L γ st.mem b:=fun b hb=>by
  rcases hb with h | ⟨id,h1,h2⟩
  · exact .inl h
  · exact .inr ⟨id,(hl id h1).1,h2⟩
 have hk:Keeps (i8 F.L γ st.mem) w (i8 F.L γ (st.freeze sel).mem) w:=fun b o v hb hc=>⟨fun h=>hb (hsub b h),hc⟩
 have hφ:∀ i r,Y7 st sel i=some r→RepR (i8 F.L γ (st.freeze sel).mem) w r (γ i):=fun i r h=>by
  unfold Y7 at h
  split at h
  · rename_i E sz xs e
    split at h
    · rename_i hs
      cases h
      refine b74 hI.mem e hk fun b hb hlive=>?_
      rcases hlive with h | ⟨id,h1,h2⟩
      · obtain ⟨vs,g1,_⟩:=hI.mem.row i E sz xs e
        rcases g1.2 with ⟨hv,_⟩ | ⟨g,cap,cur,hv,hg,_⟩
        · rw [hv] at hb;simp [Value.blk] at hb
        · rw [hv] at hb;simp [Value.blk] at hb;subst hb
          have h1:=hI.fr.hL _ h
          have h2:okId i=true:=by simp at hs;exact hs.2
          have h3:=hg.own (.inl (by rintro rfl;simp [okId] at h2)) (by
           cases ho:F.po i with
           | none=>rfl
           | some b=>have:=hI.fr.hpo i b ho;rw [h2] at this;cases this)
          omega
      · obtain ⟨k1,k2⟩:=hl id h1
        obtain rfl:=hI.mem.inj id i b k1 (by rw [e];rfl) h2 hb
        rw [k2 E sz xs e] at hs;cases hs
    · cases h
  · cases h
 refine ⟨γ,hI.sz,hI.df,fun x=>(hI.env x).frz hk hφ,⟨fun id cs hid=>?_,fun id E sz xs hid=>?_,fun id E sz n c hid=>?_,fun id s clk m hid=>?_,fun id id' b h1 h2 h3 h4=>hI.mem.inj id id' b (hl id h1).1 (hl id' h2).1 h3 h4⟩,hI.fr,hI.gl.keep hk,fun k b cs hb hm'=>?_,fun v E sz xs hv hm'=>?_,fun i v hv hl'=>hI.pinn i v hv (hl i hl').1⟩
 · simp only [St.freeze] at hid
   split at hid
   · split at hid<;>cases hid
   · rename_i cs' e
     cases hid
     obtain ⟨b,arr,T,h1,h2,h3,h4,h5⟩:=hI.mem.box id cs' e
     refine ⟨b,arr,T,h1,h2,by rw [PV.frzL_length];exact h3,h4,fun j hj=>?_⟩
     rw [PV.frzL_length] at hj
     rw [PV.frzL_getD _ _ _ hj]
     exact ⟨(h5 j hj).1.frz hk hφ,(h5 j hj).2⟩
   all_goals cases hid
 · simp only [St.freeze] at hid
   split at hid
   · rename_i E' sz' xs' e
     split at hid
     · cases hid
     · cases hid
       obtain ⟨vs,h1,h2,h3,h4⟩:=hI.mem.row id _ _ _ e
       exact ⟨vs,h1,h2,⟨h3.1,fun i k hi hk'=>(h3.2 i k hi hk').mono hk⟩,h4⟩
   all_goals cases hid
 · simp only [St.freeze] at hid
   split at hid
   · split at hid<;>cases hid
   · cases hid
   · rename_i E' sz' n' c' e
     cases hid
     obtain ⟨vs,h1,h2,h3⟩:=hI.mem.prow id _ _ _ _ e
     exact ⟨vs,h1,h2,fun j k hj hk'=>⟨(h3 j k hj hk').1.frz hk hφ,(h3 j k hj hk').2⟩⟩
   all_goals cases hid
 · simp only [St.freeze] at hid
   split at hid
   · split at hid<;>cases hid
   · cases hid
   · cases hid
   · rename_i s' clk' m' e
     cases hid
     obtain ⟨b,es,h1,h2,h3,h4⟩:=hI.mem.map id _ _ _ e
     refine ⟨b,es,h1,h2,h3,⟨h4.key,h4.one,fun e he k hek=>?_,fun k hn=>by rw [h4.out k hn];rfl,h4.lt,h4.born⟩⟩
     obtain ⟨p,g1,g2,g3⟩:=h4.val e he k hek
     exact ⟨_,by rw [g1];rfl,g2.frz hk hφ,g3⟩
   · cases hid
 · simp only [St.freeze] at hm'
   split at hm'
   · split at hm'<;>cases hm'
   · rename_i cs' e;exact hI.pin k b cs' hb e
   all_goals cases hm'
 · simp only [St.freeze] at hm'
   split at hm'
   · rename_i E' sz' xs' e;exact hI.pinr v E' sz' xs' hv e
   all_goals cases hm'
inductive Ad (d:Nat):PV→PV→Prop
 | kill (p:PV):Ad d p (p.kill (· == d))
 | emp (z:Nat):Ad d (.emp z) (.own d)
def AdM (d:Nat) (o o':MObj):Prop:=o'=o.kill (· == d)∨∃ cs cs',o=.box cs∧o'=.box cs'∧cs'.length=cs.length∧∀ j,j < cs.length→Ad d (cs.getD j .undef) (cs'.getD j .undef)
theorem Le.adopt {st st':St} (d E sz:Nat) (h9:R4 d) (hsz:0 < sz) (hd:st'.mem d=.row E sz []) (he:∀ x,Ad d (st.env x) (st'.env x)) (hm:∀ i,i≠d→AdM d (st.mem i) (st'.mem i)):Le st st':=fun F γ a w hI=>by
 let γ':=upd d (.slice none 0 0) γ
 have hl:∀ id,id≠d→(st'.mem id).live=(st.mem id).live:=fun id hid=>by
  rcases hm id hid with h | ⟨cs,cs',h1,h2,_⟩
  · rw [h,L5]
  · rw [h1,h2];rfl
 have hsub:∀ b,i8 F.L γ' st'.mem b→i8 F.L γ st.mem b:=fun b hb=>by
  rcases hb with h | ⟨id,h1,h2⟩
  · exact .inl h
  · by_cases hid:id=d
    · subst hid;simp only [γ',l9,Value.blk] at h2;cases h2
    · simp only [γ',l8 _ _ _ _ hid] at h2
      exact .inr ⟨id,by rw [← hl id hid];exact h1,h2⟩
 have hk:Keeps (i8 F.L γ st.mem) w (i8 F.L γ' st'.mem) w:=fun b o v hb hc=>⟨fun h=>hb (hsub b h),hc⟩
 have hγ:∀ i,(i == d)=false→γ' i=γ i:=fun i hi=>l8 _ _ _ _ (by simpa using hi)
 have had:∀ {p q:PV} {v:Value},Ad d p q→RepP γ (i8 F.L γ st.mem) w p v→RepP γ' (i8 F.L γ' st'.mem) w q v:=fun {p q v} h hp=>by
  cases h with
  | kill=>exact hp.mono (· == d) hγ hk
  | emp z=>exact .own d v (by rw [hp.empI];exact (l9 _ _ _).symm)
 refine ⟨γ',hI.sz,hI.df,fun x=>had (he x) (hI.env x),⟨fun id cs hid=>?_,fun id E' sz' xs hid=>?_,fun id E' sz' n c hid=>?_,fun id s clk m hid=>?_,fun id id' b h1 h2 h3 h4=>?_⟩,hI.fr,hI.gl.keep hk,fun k b cs hb hm'=>?_,fun v E sz xs hv hm'=>?_,fun i v hv hl'=>?_⟩
 · have hne:id≠d:=fun e=>by subst e;rw [hd] at hid;cases hid
   have hg:γ' id=γ id:=l8 _ _ _ _ hne
   rcases hm id hne with h | ⟨cs0,cs',h1,h2,h3,h4⟩
   · rw [h] at hid
     cases ho:st.mem id with
     | dead=>rw [ho] at hid;cases hid
     | row E sz xs=>rw [ho] at hid;cases hid
     | prow E sz n c=>rw [ho] at hid;cases hid
     | map s clk m=>rw [ho] at hid;cases hid
     | box cs0=>
      rw [ho] at hid
      simp only [MObj.kill,MObj.box.injEq] at hid
      subst hid
      obtain ⟨b,arr,T,k1,k2,k3,k4,k5⟩:=hI.mem.box id cs0 ho
      refine ⟨b,arr,T,by rw [hg];exact k1,k2,by rw [PV.killL_length];exact k3,k4,fun j hj=>?_⟩
      rw [PV.killL_length] at hj
      rw [PV.killL_getD _ _ _ hj]
      exact ⟨had (.kill _) (k5 j hj).1,(k5 j hj).2⟩
   · rw [h2] at hid
     cases hid
     obtain ⟨b,arr,T,k1,k2,k3,k4,k5⟩:=hI.mem.box id cs0 h1
     exact ⟨b,arr,T,by rw [hg];exact k1,k2,by omega,k4,fun j hj=>⟨had (h4 j (by omega)) (k5 j (by omega)).1,(k5 j (by omega)).2⟩⟩
 · by_cases hne:id=d
   · subst hne
     rw [hd] at hid
     cases hid
     refine ⟨[],?_,hsz,⟨by simp,fun i k hi=>by simp at hi⟩,by simp⟩
     show w.rowAt (F.rok id) E sz (γ' id) 0 []
     rw [show γ' id=.slice none 0 0 from l9 _ _ _]
     exact World.rowAt.of (World.ownsRow_nil w 0 E sz) (fun b hb=>by cases hb)
   · have hg:γ' id=γ id:=l8 _ _ _ _ hne
     rcases hm id hne with h | ⟨cs0,cs',h1,h2,h3,h4⟩
     · rw [h] at hid
       cases ho:st.mem id with
       | dead=>rw [ho] at hid;cases hid
       | box cs=>rw [ho] at hid;cases hid
       | prow E sz n c=>rw [ho] at hid;cases hid
       | map s clk m=>rw [ho] at hid;cases hid
       | row E sz xs=>
        rw [ho] at hid
        cases hid
        obtain ⟨vs,k1,k2,k3,k4⟩:=hI.mem.row id _ _ _ ho
        exact ⟨vs,by rw [hg];exact k1,k2,⟨k3.1,fun i k hi hk'=>(k3.2 i k hi hk').mono hk⟩,k4⟩
     · rw [h2] at hid;cases hid
 · have hne:id≠d:=fun e=>by subst e;rw [hd] at hid;cases hid
   have hg:γ' id=γ id:=l8 _ _ _ _ hne
   rcases hm id hne with h | ⟨cs0,cs',h1,h2,h3,h4⟩
   · have ho:=hI.mem.obj id
     have:=ho.kept (· == d) hγ hk (fun _ _=>rfl)
     rw [← h,hid,← hg] at this
     exact this
   · rw [h2] at hid;cases hid
 · have hne:id≠d:=fun e=>by subst e;rw [hd] at hid;cases hid
   have hg:γ' id=γ id:=l8 _ _ _ _ hne
   rcases hm id hne with h | ⟨cs0,cs',h1,h2,h3,h4⟩
   · have ho:=hI.mem.obj id
     have:=ho.kept (· == d) hγ hk (fun _ _=>rfl)
     rw [← h,hid,← hg] at this
     exact this
   · rw [h2] at hid;cases hid
 · by_cases e1:id=d
   · subst e1;simp only [γ',l9,Value.blk] at h3;cases h3
   · by_cases e2:id'=d
     · subst e2;simp only [γ',l9,Value.blk] at h4;cases h4
     · simp only [γ',l8 _ _ _ _ e1] at h3
       simp only [γ',l8 _ _ _ _ e2] at h4
       exact hI.mem.inj id id' b (by rw [← hl id e1];exact h1) (by rw [← hl id' e2];exact h2) h3 h4
 · have hne:900+k≠d:=fun e=>by rw [e,hd] at hm';cases hm'
   rw [show γ' (900+k)=γ (900+k) from l8 _ _ _ _ hne]
   rcases hm _ hne with h | ⟨cs0,cs',h1,h2,h3,h4⟩
   · rw [h] at hm'
     cases ho:st.mem (900+k) with
     | box cs0=>exact hI.pin k b cs0 hb ho
     | _=>rw [ho] at hm';cases hm'
   · exact hI.pin k b cs0 hb h1
 · rw [show γ' 900=γ 900 from l8 _ _ _ _ (by unfold R4 at h9;omega)]
   rcases hm 900 (by unfold R4 at h9;omega) with h | ⟨cs0,cs',h1,h2,h3,h4⟩
   · rw [h] at hm'
     cases ho:st.mem 900 with
     | row E' sz' xs'=>exact hI.pinr v E' sz' xs' hv ho
     | _=>rw [ho] at hm';cases hm'
   · rw [h2] at hm';cases hm'
 · have hi:=hI.fr.hpn i v hv
   have hne:i≠d:=by unfold R4 at h9;omega
   rw [show γ' i=γ i from l8 _ _ _ _ hne]
   exact hI.pinn i v hv (by rw [← hl i hne];exact hl')
theorem loop_le {P:Program} {c:PC} {K:PExit→St→Prop} {X:Type} (S:X→St) (I:X→Prop) (μ:X→Nat) {st:St} (x0:X) (h0:Le st (S x0)) (hi:I x0)
 (hr:∀ x,I x→P9 P c (S x) fun e st'=>e.then st' (fun st'=>∃ x',I x'∧μ x' < μ x∧Le st' (S x')) K):P9 P (.loop (.ghost c)) st K:=
 b8i (fun n st=>∃ x,I x∧μ x=n∧Le st (S x)) ⟨x0,hi,rfl,h0⟩ fun n st ⟨x,h1,h2,h3⟩=>
  ⟨S x,h3,K8 (fun e s hh=>PExit.then_mono (fun s ⟨x',k1,k2,k3⟩=>⟨μ x',by omega,x',k1,rfl,k3⟩) (fun _ _=>id) hh) (hr x h1)⟩
end Go.PW
