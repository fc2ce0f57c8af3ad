/- Memory that a frame makes and changes: boxes, rows, stores, appends. -/
import Derived.Test.YtfoapolbgpjfaaaGreatDoorPWe
set_option linter.unusedSectionVars false
set_option linter.unusedSimpArgs false
set_option linter.unusedVariables false
namespace Go.PW
variable [GF]
open Go.RowKit
def ObjOK (F:Ctx) (i:Nat) (L:Nat→Prop) (γ:Nat→Value) (w:World) (v:Value):MObj→Prop
 | .dead=>True
 | .box cs=>∃ b arr T,v=.pointer (some ⟨b,0,none⟩)∧w.heap[b]?=some (.cells arr T (0,0))∧arr.size=cs.length∧(F.B≤b∨F.wr i b) ∧
  ∀ j,j < cs.length→RepP γ L w (cs.getD j .undef) (arr.getD j undef)∧(arr.getD j undef).oneCell'=true
 | .row E sz xs=>∃ vs,w.rowAt (F.rok i) E sz v xs.length vs∧0 < sz∧a3s L w sz xs vs∧∀ v∈vs,v.oneCell'=true
 | .prow E sz n c=>∃ vs,w.rowAt (F.rok i) E sz v n vs∧0 < sz∧∀ j k,j < n→k < sz→RepP γ L w (c j k) (vs.getD (j*sz+k) undef)∧(vs.getD (j*sz+k) undef).oneCell'=true
 | .map s clk m=>∃ b es,v=.map (some b)∧w.heap[b]?=some (.map es clk)∧(F.B≤b∨F.wr i b)∧MapOK γ L w s clk m es.toList
theorem MemInv.obj {F:Ctx} {γ:Nat→Value} {M:Nat→MObj} {w:World} (h:MemInv F γ M w) (id:Nat):ObjOK F id (i8 F.L γ M) γ w (γ id) (M id):=by
 cases hm:M id with
 | dead=>trivial
 | box cs=>exact h.box id cs hm
 | row E sz xs=>exact h.row id E sz xs hm
 | prow E sz n c=>exact h.prow id E sz n c hm
 | map s clk m=>exact h.map id s clk m hm
theorem MemInv.of_obj {F:Ctx} {γ:Nat→Value} {M:Nat→MObj} {w:World} (h:∀ id,ObjOK F id (i8 F.L γ M) γ w (γ id) (M id))
 (hi:∀ id id' b,(M id).live=true→(M id').live=true→Value.blk (γ id)=some b→Value.blk (γ id')=some b→id=id'):MemInv F γ M w:=
 ⟨fun id cs hm=>by have:=h id;rw [hm] at this;exact this,fun id E sz xs hm=>by have:=h id;rw [hm] at this;exact this,fun id E sz n c hm=>by have:=h id;rw [hm] at this;exact this,fun id s clk m hm=>by have:=h id;rw [hm] at this;exact this,hi⟩
theorem a2i {v:Value} {b:Nat} (h:v.ownBlock=some b):Value.blk v=some b:=by
 cases v<;>simp [Value.ownBlock] at h
 rename_i a n c
 cases a<;>simp at h
 simp [Value.blk,h]
theorem MObj.kill_none (o:MObj):o.kill (fun _=>false)=o:=by
 cases o<;>simp [MObj.kill,PV.killL_none,PV.kill_none]
theorem L5 (d:Nat→Bool) (o:MObj):(o.kill d).live=o.live:=by cases o<;>rfl
theorem ObjOK.kept {F:Ctx} {γ γ':Nat→Value} {L L':Nat→Prop} {w w':World} {v:Value} {o:MObj} {i:Nat} (d:Nat→Bool) (hγ:∀ i,d i=false→γ' i=γ i) (hk:Keeps L w L' w')
 (hb:∀ b,Value.blk v=some b→w'.heap[b]?=w.heap[b]?) (h:ObjOK F i L γ w v o):ObjOK F i L' γ' w' v (o.kill d):=by
 cases o with
 | dead=>trivial
 | box cs=>
  obtain ⟨b,arr,T,h1,h2,h3,h4,h5⟩:=h
  refine ⟨b,arr,T,h1,by rw [hb b (by rw [h1];rfl)];exact h2,by rw [PV.killL_length];exact h3,h4,fun j hj=>?_⟩
  rw [PV.killL_length] at hj
  rw [PV.killL_getD _ _ _ hj]
  exact ⟨(h5 j hj).1.mono d hγ hk,(h5 j hj).2⟩
 | row E sz xs=>
  obtain ⟨vs,h1,h2,h3,h4⟩:=h
  refine ⟨vs,⟨h1.1,?_⟩,h2,⟨h3.1,fun i k hi hk'=>(h3.2 i k hi hk').mono hk⟩,h4⟩
  rcases h1.2 with hn | ⟨g,cap,cur,he,hg,hh,r⟩
  · exact .inl hn
  · exact .inr ⟨g,cap,cur,he,hg,by rw [hb g (by rw [he];rfl)];exact hh,r⟩
 | prow E sz n c=>
  obtain ⟨vs,h1,h2,h3⟩:=h
  exact ⟨vs,h1.mono (fun _ _ h=>h) hb,h2,fun j k hj hk'=>⟨(h3 j k hj hk').1.mono d hγ hk,(h3 j k hj hk').2⟩⟩
 | map s clk m=>
  obtain ⟨b,es,h1,h2,h3,h4⟩:=h
  exact ⟨b,es,h1,by rw [hb b (by rw [h1];rfl)];exact h2,h3,h4.kept d hγ hk⟩
theorem a3u {w:World} {ok:Nat→Prop} {E sz:Nat} {v:Value} {n b:Nat} {vs:List Value} (h1:w.rowAt ok E sz v n vs) (hb:Value.blk v=some b):b < w.heap.size∧ok b:=by
 rcases h1.2 with ⟨hn,_⟩ | ⟨g,cap,cur,he,hg,hh,_⟩
 · rw [hn] at hb;simp [Value.blk] at hb
 · rw [he] at hb
   simp [Value.blk] at hb
   subst hb
   exact ⟨(Array.getElem?_eq_some_iff.1 hh).1,hg⟩
theorem y7 {F:Ctx} {γ:Nat→Value} {L:Nat→Prop} {w:World} {v:Value} {o:MObj} {b i:Nat} (h:ObjOK F i L γ w v o) (ho:o.live=true) (hb:Value.blk v=some b):b < w.heap.size∧(F.B≤b∨F.wr i b):=by
 cases o with
 | dead=>cases ho
 | box cs=>
  obtain ⟨b',arr,T,h1,h2,h3,h4,h5⟩:=h
  rw [h1] at hb
  simp [Value.blk] at hb
  subst hb
  exact ⟨(Array.getElem?_eq_some_iff.1 h2).1,h4⟩
 | row E sz xs=>
  obtain ⟨vs,h1,_⟩:=h
  exact ⟨(a3u h1 hb).1,(a3u h1 hb).2.wr⟩
 | prow E sz n c=>
  obtain ⟨vs,h1,_⟩:=h
  exact ⟨(a3u h1 hb).1,(a3u h1 hb).2.wr⟩
 | map s clk m=>
  obtain ⟨b',es,h1,h2,h3,h4⟩:=h
  rw [h1] at hb
  simp [Value.blk] at hb
  subst hb
  exact ⟨(Array.getElem?_eq_some_iff.1 h2).1,h3⟩
section
variable {P:Program} {F:Ctx} {γ:Nat→Value} {st:St} {a:Act} {w:World} {o:Oper} {K:Act→World→Prop} {Q:Exit→Act→World→Prop}
theorem Inv.live_lt (hI:Inv F γ st a w) {b:Nat} (h:i8 F.L γ st.mem b):b < w.heap.size:=by
 rcases h with h | ⟨id,h1,h2⟩
 · exact Nat.lt_of_lt_of_le (hI.fr.hL b h) hI.fr.size
 · exact (y7 (hI.mem.obj id) h1 h2).1
theorem Inv.change (hI:Inv F γ st a w) (d c:Nat→Bool) {γ':Nat→Value} {M':Nat→MObj} {w':World}
 (hγ:∀ i,d i=false→γ' i=γ i∨c i=true) (hγc:∀ i,c i=true→d i=false→γ' i=γ i)
 (hM:∀ i,d i=false→c i=false→M' i=(st.mem i).kill d)
 (hk:Keeps (i8 F.L γ st.mem) w (i8 F.L γ' M') w')
 (hb:∀ i b,d i=false→c i=false→(st.mem i).live=true→Value.blk (γ i)=some b→w'.heap[b]?=w.heap[b]?)
 (ho:∀ i,(d i=true∨c i=true)→ObjOK F i (i8 F.L γ' M') γ' w' (γ' i) (M' i))
 (hi:∀ id id' b,(M' id).live=true→(M' id').live=true→Value.blk (γ' id)=some b→Value.blk (γ' id')=some b→id=id')
 (hf:Frame0 F w') (hp:∀ i cs,(d i=true∨c i=true)→900≤i→M' i=.box cs→γ' i=γ i∧∃ cs',st.mem i=.box cs')
 (hpr:∀ v,F.pv=some v→(d 900=true∨c 900=true)→∀ E sz xs,M' 900=.row E sz xs→γ' 900=γ 900∧∃ E sz xs,st.mem 900=.row E sz xs)
 (hpn:∀ i v,F.pn i=some v→(d i=true∨c i=true)→(M' i).live=true→γ' i=γ i∧(st.mem i).live=true):Inv F γ' { env:=fun x=>(st.env x).kill d,mem:=M' } a w':=by
 have hγ':∀ i,d i=false→γ' i=γ i:=fun i h=>by
  rcases hγ i h with h1 | h1
  · exact h1
  · exact hγc i h1 h
 refine ⟨hI.sz,hI.df,fun x=>(hI.env x).mono d hγ' hk,MemInv.of_obj (fun id=>?_) hi,hf,hI.gl.keep hk,fun k b cs hk hm=>?_,fun v E sz xs hv hm=>?_,fun i v hv hm=>?_⟩
 rotate_left
 · by_cases hdc:d (900+k)=true∨c (900+k)=true
   · obtain ⟨h1,cs',h2⟩:=hp _ cs hdc (Nat.le_add_right _ _) hm
     rw [h1];exact hI.pin k b cs' hk h2
   · have h1:d (900+k)=false:=by cases h:d (900+k)<;>simp_all
     have h2:c (900+k)=false:=by cases h:c (900+k)<;>simp_all
     have hm:M' (900+k)=.box cs:=hm
     rw [hM _ h1 h2] at hm
     rw [hγ' _ h1]
     cases ho:st.mem (900+k) with
     | box cs'=>exact hI.pin k b cs' hk ho
     | _=>rw [ho] at hm;cases hm
 · by_cases hdc:d 900=true∨c 900=true
   · obtain ⟨h1,E',sz',xs',h2⟩:=hpr v hv hdc _ _ _ hm
     rw [h1];exact hI.pinr v E' sz' xs' hv h2
   · have h1:d 900=false:=by cases h:d 900<;>simp_all
     have h2:c 900=false:=by cases h:c 900<;>simp_all
     have hm:M' 900=.row E sz xs:=hm
     rw [hM _ h1 h2] at hm
     rw [hγ' _ h1]
     cases ho:st.mem 900 with
     | row E' sz' xs'=>exact hI.pinr v E' sz' xs' hv ho
     | _=>rw [ho] at hm;cases hm
 · by_cases hdc:d i=true∨c i=true
   · obtain ⟨h1,h2⟩:=hpn i v hv hdc hm
     rw [h1];exact hI.pinn i v hv h2
   · have h1:d i=false:=by cases h:d i<;>simp_all
     have h2:c i=false:=by cases h:c i<;>simp_all
     have hm:(M' i).live=true:=hm
     rw [hM _ h1 h2,L5] at hm
     rw [hγ' _ h1]
     exact hI.pinn i v hv hm
 cases hd:d id with
 | true=>exact ho id (.inl hd)
 | false=>
  cases hc:c id with
  | true=>exact ho id (.inr hc)
  | false=>
   show ObjOK F id (i8 F.L γ' M') γ' w' (γ' id) (M' id)
   rw [hM id hd hc,hγ' id hd]
   cases hl:(st.mem id).live with
   | true=>exact (hI.mem.obj id).kept d hγ' hk (fun b hbb=>hb id b hd hc hl hbb)
   | false=>
    cases hm:st.mem id with
    | dead=>trivial
    | _=>rw [hm] at hl;cases hl
theorem Frame0.alloc (h:Frame0 F w) (ob:Obj):Frame0 F (w.alloc ob):=
 ⟨h.os,h.tape,h.output,Nat.le_trans h.size (by simp),fun k hk hp=>(Below.heap_alloc w ob k (Nat.lt_of_lt_of_le hk h.size)).trans (h.block k hk hp),h.hL,h.hpb,h.hn,h.hgb,h.hpo,h.hpn⟩
theorem a7c {L L':Nat→Prop} (ob:Obj) (h:∀ b,b < w.heap.size→L' b→L b):Keeps L w L' (w.alloc ob):=fun b o v hb hc=>by
 have hlt:b < w.heap.size:=World.block_lt_of_cell? w _ hc
 refine ⟨fun h'=>hb (h b hlt h'),?_⟩
 have:=World.cell?_of_block (w:=w) (w':=w.alloc ob) (a:=⟨b,o,none⟩) (Below.heap_alloc w ob b hlt)
 rw [this];exact hc
theorem Inv.alloc (hI:Inv F γ st a w) (d:Nat) (o':Obj) (v:Value) (ob:MObj) (hv:Value.blk v=some w.heap.size)
 (ho:∀ γ' L',(∀ i,(i == d)=false→γ' i=γ i)→γ' d=v→Keeps (i8 F.L γ st.mem) w L' (w.alloc o')→ObjOK F d L' γ' (w.alloc o') v ob) (hl:ob.live=true) (hpn:d < 900) :
 Inv F (upd d v γ) { env:=fun x=>(st.env x).kill (· == d),mem:=upd d ob fun x=>(st.mem x).kill (· == d) } a (w.alloc o'):=by
 have hlive:∀ b,b < w.heap.size→i8 F.L (upd d v γ) (upd d ob fun x=>(st.mem x).kill (· == d)) b→i8 F.L γ st.mem b:=fun b hb hh=>by
  rcases hh with h | ⟨id,h1,h2⟩
  · exact .inl h
  · by_cases hid:id=d
    · subst hid
      rw [l9,hv] at h2
      simp at h2
      omega
    · rw [l8 _ _ _ _ hid] at h1 h2
      rw [L5] at h1
      exact .inr ⟨id,h1,h2⟩
 have hk:=a7c (w:=w) o' hlive
 refine hI.change (· == d) (fun _=>false) (fun i h=>.inl ?_) (fun i h=>by cases h) (fun i h _=>?_) hk (fun i b h _ hl' hb=>?_) (fun i h=>?_) (fun id id' b h1 h2 h3 h4=>?_) (hI.fr.alloc _) (fun i cs h h9 hm=>?_) (fun v _ h=>by simp at h;omega) (fun i v hv h=>by
  have:i=d:=by simpa using h
  have:=hI.fr.hpn i v hv
  omega)
 · exact l8 _ _ _ _ (by simpa using h)
 · exact l8 _ _ _ _ (by simpa using h)
 · exact Below.heap_alloc w _ b (y7 (hI.mem.obj i) hl' hb).1
 · rcases h with h | h
   · obtain rfl:i=d:=by simpa using h
     rw [l9,l9]
     exact ho _ _ (fun j hj=>l8 _ _ _ _ (by simpa using hj)) (l9 _ _ _) hk
   · cases h
 · by_cases e1:id=d
   · subst e1
     by_cases e2:id'=id
     · exact e2.symm
     · rw [l8 _ _ _ _ e2] at h2 h4
       rw [L5] at h2
       rw [l9,hv] at h3
       have:=(y7 (hI.mem.obj id') h2 h4).1
       simp at h3
       omega
   · by_cases e2:id'=d
     · subst e2
       rw [l8 _ _ _ _ e1] at h1 h3
       rw [L5] at h1
       rw [l9,hv] at h4
       have:=(y7 (hI.mem.obj id) h1 h3).1
       simp at h4
       omega
     · rw [l8 _ _ _ _ e1] at h1 h3
       rw [l8 _ _ _ _ e2] at h2 h4
       rw [L5] at h1 h2
       exact hI.mem.inj id id' b h1 h2 h3 h4
 · rcases h with h | h
   · obtain rfl:i=d:=by simpa using h
     rw [l9] at hm
     omega
   · cases h
end
end Go.PW
