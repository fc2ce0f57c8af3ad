/- The machine yields what stepS says: loads, addresses, and the theorem for every operation that leaves memory as it is. -/
import Derived.Test.YtfoapolbgpjfaaaGreatDoorPWd
import Derived.Laws.BytesArg
import Derived.Laws.StructEq
set_option linter.unusedSectionVars false
set_option linter.unusedSimpArgs false
set_option linter.unusedVariables false
namespace Go.PW
variable [GF]
open Go.RowKit
section
variable {P:Program} {F:Ctx} {γ:Nat→Value} {st:St} {a:Act} {w:World} {o:Oper} {K:Act→World→Prop} {Q:Exit→Act→World→Prop}
theorem a9j:∀ rs:List RV,d9 (rs.map .val)=some rs
 | []=>rfl
 | r :: rs=>by simp [d9,a9j rs]
theorem a65:∀ {ps:List PV} {rs:List RV},d9 ps=some rs→ps=rs.map .val
 | [],rs,h=>by simp [d9] at h;subst h;rfl
 | p :: ps,rs,h=>by
  cases p<;>simp [d9] at h
  obtain ⟨rs',h1,rfl⟩:=h
  simp [a65 h1]
theorem b6r (rs:List RV):l4 (rs.map .val)=.val (.agg rs):=by simp [l4,a9j]
theorem Q4 (rs:List RV) (i:Nat) (h:i < rs.length):(rs.map PV.val).getD i .undef=.val (rs.getD i .nilptr):=by
 simp [List.getD_eq_getElem?_getD,List.getElem?_map,List.getElem?_eq_getElem h]
theorem a16 {L:Nat→Prop} {cs:List PV} {vs:Array Value} (hs:vs.size=cs.length) (h:∀ i,i < cs.length→RepP γ L w (cs.getD i .undef) (vs.getD i Go.undef)):RepP γ L w (l4 cs) (.agg vs):=by
 unfold l4
 split
 · rename_i rs hrs
   have:=a65 hrs
   subst this
   simp only [List.length_map] at hs h
   refine .val _ _ (.agg rs vs hs fun i hi=>?_)
   have:=h i hi
   rw [Q4 _ _ hi] at this
   cases this with | val _ _ h=>exact h
 · exact .agg cs vs hs h
theorem a8u (f:Nat→Value) (n i:Nat) (h:i < n):(((List.range n).map f).toArray).getD i undef=f i:=by
 simp [Array.getD_eq_getD_getElem?,List.getElem?_map,List.getElem?_range h]
theorem a1b {L:Nat→Prop} {t:TypeId} {i:TypeInfo} {agg:Bool} {n b off:Nat} (ps:List PV) (f:Nat→Value) (hi:P.info? t=some i) (hn:i.size=n) (ha:a6h P t=some agg) (h1:(agg || n == 1)=true) (h0:0 < n)
 (hl:ps.length=n) (hc:∀ j,j < n→w.cell? ⟨b,off+j,none⟩=some (f j)) (hr:∀ j,j < n→RepP γ L w (ps.getD j .undef) (f j)) :
 ∃ v,(Instr.loadAt t (.pointer (some ⟨b,off,none⟩))).run P w=.ok v w∧RepP γ L w (if agg then l4 ps else ps.getD 0 .undef) v:=by
 have hadd:∀ j,(⟨b,off,none⟩:Addr).add j=⟨b,off+j,none⟩:=fun j=>by unfold Addr.add;split<;>simp_all
 cases agg with
 | true=>
  refine ⟨.agg ((List.range n).map f).toArray,?_,?_⟩
  · unfold Instr.loadAt Instr.sureAddr loadVar
    have:=run_loadCells (P:=P) w ⟨b,off,none⟩ n f (fun j hj=>by rw [hadd];exact hc j hj)
    simp [a14 ha,Q7 hi,hn,this]
  · simp only [if_true]
    exact a16 (by simp [hl]) (fun j hj=>by rw [a8u _ _ _ (by omega)];exact hr j (by omega))
 | false=>
  simp only [Bool.false_or,beq_iff_eq] at h1
  subst h1
  refine ⟨f 0,?_,?_⟩
  · unfold Instr.loadAt Instr.sureAddr loadVar
    have:=hc 0 (by omega)
    simp only [Nat.add_zero] at this
    simp [a14 ha,this]
  · simpa using hr 0 (by omega)
theorem D3 {α:Type} (xs:List α) (o n i:Nat) (d:α) (hi:i < n):((xs.drop o).take n).getD i d=xs.getD (o+i) d:=by
 simp [List.getD_eq_getElem?_getD,List.getElem?_take,hi]
theorem b3n {γ:Nat→Value} {st:St} (hI:Inv F γ st a w) {id off n:Nat} {cs:List PV} (hm:st.mem id=.box cs) (hb:off+n≤cs.length) :
 ∃ (b:Nat) (f:Nat→Value),γ id=.pointer (some ⟨b,0,none⟩)∧(∀ j,j < n→w.cell? ⟨b,off+j,none⟩=some (f j))∧∀ j,j < n→RepP γ (i8 F.L γ st.mem) w (((cs.drop off).take n).getD j .undef) (f j):=by
 obtain ⟨b,arr,T,h1,h2,h3,h4,h5⟩:=hI.mem.box id cs hm
 refine ⟨b,fun j=>arr.getD (off+j) undef,h1,fun j hj=>?_,fun j hj=>?_⟩
 · rw [cell_of_row w b _ arr T _ h2]
   have hlt:off+j < arr.size:=by omega
   simp [Array.getD_eq_getD_getElem?,Array.getElem?_eq_getElem hlt]
 · rw [D3 _ _ _ _ _ hj]
   exact (h5 (off+j) (by omega)).1
theorem b0b {γ:Nat→Value} {st:St} (hI:Inv F γ st a w) {id E sz j:Nat} {xs:List RV} (hm:st.mem id=.row E sz xs) (hj:j < xs.length) :
 ∃ (b n c:Nat) (f:Nat→Value),γ id=.slice (some ⟨b,0,none⟩) n c∧n=xs.length∧(∀ k,k < sz→w.cell? ⟨b,j*sz+k,none⟩=some (f k))∧(∀ k,k < sz→RepR (i8 F.L γ st.mem) w ((xs.getD j .nilptr).cells.getD k .nilptr) (f k)) ∧
  (xs.getD j .nilptr).cells.length=sz∧0 < sz:=by
 obtain ⟨vs,h1,h2,h3,h4⟩:=hI.mem.row id E sz xs hm
 rcases h1.2 with ⟨he,h0⟩ | ⟨g,cap,cur,he,hg,hh,hn,hc,hs,ht⟩
 · omega
 · have hv:=h1.cells (g:=g) (by rw [he];rfl)
   refine ⟨g,xs.length,cap,fun k=>vs.getD (j*sz+k) undef,he,rfl,fun k hk=>?_,fun k hk=>h3.2 j k hj hk,?_,h2⟩
   · have hlt:j*sz+k < vs.length:=by
      rw [h1.1]
      calc j*sz+k < j*sz+sz:=by omega
       _=(j+1)*sz:=by rw [Nat.add_mul];omega
       _≤xs.length*sz:=Nat.mul_le_mul_right _ hj
     have:=hv (j*sz+k) (vs.getD (j*sz+k) undef) (by simp [List.getD_eq_getElem?_getD,List.getElem?_eq_getElem hlt])
     have hadd:(⟨g,0,none⟩:Addr).add (j*sz+k)=⟨g,j*sz+k,none⟩:=by unfold Addr.add;split<;>simp_all
     rwa [hadd] at this
   · have:xs.getD j .nilptr=xs[j]:=by simp [List.getD_eq_getElem?_getD,List.getElem?_eq_getElem hj]
     rw [this]
     exact h3.1 _ (List.getElem_mem hj)
theorem b4s {L:Nat→Prop} {sz:Nat} {xs:List RV} {A:Option Addr} {n c j:Nat} (hr:RepR L w (.list sz xs) (.slice A n c)) (hj:j < xs.length) :
 ∃ b o,A=some ⟨b,o,none⟩∧n=xs.length∧RepP γ L w (.at (xs.getD j .nilptr).cells) (.pointer (some ⟨b,o+j*sz,none⟩)):=by
 cases hr with
 | list0=>simp at hj
 | list _ _ b o c f h0 hsz hcap hb hc hx h=>
  have hcl:(xs.getD j .nilptr).cells.length=sz:=by
   have:xs.getD j .nilptr=xs[j]:=by simp [List.getD_eq_getElem?_getD,List.getElem?_eq_getElem hj]
   rw [this];exact hx _ (List.getElem_mem hj)
  refine ⟨b,o,rfl,rfl,.at _ b _ (fun k=>f (j*sz+k)) hb (fun e=>by rw [e] at hcl;simp at hcl;omega) (fun k hk=>?_) (fun k hk=>h j k hj (by omega))⟩
  rw [hcl] at hk
  rw [Nat.add_assoc]
  refine hc (j*sz+k) ?_
  calc j*sz+k < j*sz+sz:=by omega
   _=(j+1)*sz:=by rw [Nat.add_mul];omega
   _≤xs.length*sz:=Nat.mul_le_mul_right _ hj
theorem a2r (hI:Inv F γ st a w):∀ {xs:List Opd} {ys:List Operand},a0h xs ys=true→ys.length=xs.length∧∀ i,i < xs.length→RepP γ (i8 F.L γ st.mem) w ((xs.map (ev st)).getD i .undef) ((ys.map a.eval).getD i undef)
 | [],[],_=>⟨rfl,fun i hi=>by simp at hi⟩
 | x :: xs,y :: ys,h=>by
  simp [a0h] at h
  obtain ⟨h1,h2⟩:=a2r hI h.2
  refine ⟨by simp [h1],fun i hi=>?_⟩
  cases i with
  | zero=>simpa using j5 hI h.1
  | succ i=>simpa using h2 i (by simpa using hi)
 | [],_ :: _,h=>by simp [a0h] at h
 | _ :: _,[],h=>by simp [a0h] at h
theorem a27 {s:TypeId} {fs:Array Field} {fd:Field} {f:Nat} {i:TypeInfo} (hs:P.underlying s=some (.struct fs)) (hf:fs[f]?=some fd) (hi:P.info? fd.type=some i) (h0:i.size≠0) (ad:Addr) :
 (Instr.fieldAt s (.pointer (some ad)) f).run P w=.ok (.pointer (some (ad.add fd.offset))) w:=by
 unfold Instr.fieldAt Instr.sureAddr fieldPlace
 simp [run_underlying hs,hf,Q7 hi,h0]
theorem a0q (b o n:Nat):(⟨b,o,none⟩:Addr).add n=⟨b,o+n,none⟩:=by unfold Addr.add;split<;>simp_all
theorem RepP.list {L:Nat→Prop} {sz:Nat} {xs:List RV} {v:Value} (h:RepP γ L w (.val (.list sz xs)) v):∃ A n c,v=.slice A n c∧n=xs.length∧RepR L w (.list sz xs) (.slice A n c):=by
 cases h with
 | val _ _ h=>
  cases h with
  | list0 sz A c=>exact ⟨A,0,c,rfl,rfl,.list0 sz A c⟩
  | list sz xs b o c f h0 hsz hcap hb hc hx h=>exact ⟨_,_,_,rfl,rfl,.list sz xs b o c f h0 hsz hcap hb hc hx h⟩
theorem RepP.ptrI {L:Nat→Prop} {id off:Nat} {v:Value} (h:RepP γ L w (.ptr id off) v):∃ b,γ id=.pointer (some ⟨b,0,none⟩)∧v=.pointer (some ⟨b,off,none⟩):=by
 cases h with | ptr _ _ b h=>exact ⟨b,h,rfl⟩
theorem RepP.eltI {L:Nat→Prop} {id j sz off:Nat} {v:Value} (h:RepP γ L w (.elt id j sz off) v):∃ b n c,γ id=.slice (some ⟨b,0,none⟩) n c∧v=.pointer (some ⟨b,j*sz+off,none⟩):=by
 cases h with | elt _ _ _ _ b n c h=>exact ⟨b,n,c,h,rfl⟩
theorem RepP.atI {L:Nat→Prop} {cells:List RV} {v:Value} (h:RepP γ L w (.at cells) v):∃ (b o:Nat) (f:Nat→Value),v=.pointer (some ⟨b,o,none⟩)∧¬ L b∧cells≠[]∧(∀ j,j < cells.length→w.cell? ⟨b,o+j,none⟩=some (f j)) ∧
 (∀ j,j < cells.length→RepR L w (cells.getD j .nilptr) (f j)):=by
 cases h with | «at» _ b o f hb h0 hc h=>exact ⟨b,o,f,rfl,hb,h0,hc,h⟩
theorem RepP.fnI {L:Nat→Prop} {f:Nat} {cs:List PV} {v:Value} (h:RepP γ L w (.fn f cs) v):∃ vs:Array Value,v=.func (.func f) #[] vs∧vs.size=cs.length∧∀ i,i < cs.length→RepP γ L w (cs.getD i .undef) (vs.getD i Go.undef):=by
 cases h with | fn _ _ vs hs h=>exact ⟨vs,rfl,hs,h⟩
theorem RepP.tupI {L:Nat→Prop} {cs:List PV} {v:Value} (h:RepP γ L w (.tup cs) v):∃ vs:Array Value,v=.tuple vs∧vs.size=cs.length∧∀ i,i < cs.length→RepP γ L w (cs.getD i .undef) (vs.getD i Go.undef):=by
 cases h with | tup _ vs hs h=>exact ⟨vs,rfl,hs,h⟩
theorem RepP.aggI {L:Nat→Prop} {cs:List PV} {v:Value} (h:RepP γ L w (.agg cs) v):∃ vs:Array Value,v=.agg vs∧vs.size=cs.length∧∀ i,i < cs.length→RepP γ L w (cs.getD i .undef) (vs.getD i Go.undef):=by
 cases h with | agg _ vs hs h=>exact ⟨vs,rfl,hs,h⟩
theorem RepP.vaggI {L:Nat→Prop} {cs:List RV} {v:Value} (h:RepP γ L w (.val (.agg cs)) v):∃ vs:Array Value,v=.agg vs∧vs.size=cs.length∧∀ i,i < cs.length→RepR L w (cs.getD i .nilptr) (vs.getD i Go.undef):=by
 cases h with | val _ _ h=>cases h with | agg _ vs hs h=>exact ⟨vs,rfl,hs,h⟩
theorem RepP.empI {L:Nat→Prop} {s:Nat} {v:Value} (h:RepP γ L w (.emp s) v):v=.slice none 0 0:=by
 cases h;rfl
theorem RepP.ownI {L:Nat→Prop} {id:Nat} {v:Value} (h:RepP γ L w (.own id) v):v=γ id:=by
 cases h with | own _ _ h=>exact h
theorem RepP.valI {L:Nat→Prop} {r:RV} {v:Value} (h:RepP γ L w (.val r) v):RepR L w r v:=by
 cases h with | val _ _ h=>exact h
theorem b1h (agg:Bool) (cs:List RV) (off n:Nat) (hn:0 < n) (hb:off+n≤cs.length) :
 (if agg then l4 (((cs.drop off).take n).map .val) else (((cs.drop off).take n).map PV.val).getD 0 .undef)=.val (if agg then .agg ((cs.drop off).take n) else cs.getD off .nilptr):=by
 cases agg with
 | true=>simp only [if_true];rw [b6r]
 | false=>
  have h0:0 < ((cs.drop off).take n).length:=by simp;omega
  simp only [Bool.false_eq_true,if_false]
  rw [Q4 _ _ h0,D3 _ _ _ _ _ hn,Nat.add_zero]
theorem b2c {L:Nat→Prop} {t:TypeId} {i:TypeInfo} {agg:Bool} {n off:Nat} {cs:List PV} {vs:Array Value} (hi:P.info? t=some i) (hn:i.size=n) (ha:a6h P t=some agg) (h1:(agg || n == 1)=true) (h0:0 < n)
 (hb:off+n≤cs.length) (hs:vs.size=cs.length) (hr:∀ j,j < cs.length→RepP γ L w (cs.getD j .undef) (vs.getD j undef)) :
 ∃ v,(part t vs off).run P w=.ok v w∧RepP γ L w (if agg then l4 ((cs.drop off).take n) else cs.getD off .undef) v:=by
 cases agg with
 | true=>
  refine ⟨.agg (vs.extract off (off+n)),?_,?_⟩
  · unfold part
    simp [a14 ha,Q7 hi,hn]
  · simp only [if_true]
    refine a16 (by simp;omega) (fun j hj=>?_)
    have hj':j < n:=by simp at hj;omega
    rw [D3 _ _ _ _ _ hj']
    have:(vs.extract off (off+n)).getD j undef=vs.getD (off+j) undef:=by
     have hlt:off+j < vs.size:=by omega
     simp [Array.getD_eq_getD_getElem?,Array.getElem?_extract,hj',show j < min (off+n) vs.size - off by omega,Array.getElem?_eq_getElem hlt]
    rw [this]
    exact hr (off+j) (by omega)
 | false=>
  have hlt:off < vs.size:=by omega
  refine ⟨vs[off],?_,?_⟩
  · unfold part
    simp [a14 ha,Array.getElem?_eq_getElem hlt]
  · simp only [Bool.false_eq_true,if_false]
    have:=hr off (by omega)
    rwa [Array.getD_eq_getD_getElem?,Array.getElem?_eq_getElem hlt,Option.getD_some] at this
theorem _root_.Go.PW.RepR.aggI {L:Nat→Prop} {w:World} {cs:List RV} {v:Value} (h:RepR L w (.agg cs) v):∃ vs,v=.agg vs∧vs.size=cs.length∧∀ i,i < cs.length→RepR L w (cs.getD i .nilptr) (vs.getD i undef):=by
 cases h with
 | agg _ vs hs h=>exact ⟨vs,rfl,hs,h⟩
theorem a61 {L:Nat→Prop} (w':World) (d:Nat) {f:Field} {i k:Nat} {x y:RV} {us vs:Array Value} {u v:Value} {b:Bool} (hf:a31 P i k f=true) (h1:us[i]?=some u) (h2:vs[i]?=some v)
 (hx:RepR L w x u) (hy:RepR L w y v) (hb:b1p k x y=some b):f.name ≠ "_" ∧ (part f.type us f.offset).run P w'=.ok u w'∧(part f.type vs f.offset).run P w'=.ok v w'∧(Op.equalIn (d+1) f.type u v).run P w'=.ok b w':=by
 unfold a31 at hf
 simp only [Bool.and_eq_true,bne_iff_ne,ne_eq,beq_iff_eq] at hf
 obtain ⟨⟨hn,ho⟩,hk⟩:=hf
 subst ho
 have hp:∀ {ty:TypeId} {dsc:TypeDesc},P.underlying ty=some dsc→(match dsc with | .string=>true | .bool=>true | .int _=>true | _=>false)=true→∀ (xs:Array Value) (z:Value) (o:Nat),xs[o]?=some z→(part ty xs o).run P w'=.ok z w':=by
  intro ty dsc hu hd xs z o hz
  cases dsc<;>simp at hd<;>simp [part,isAgg,run_underlying hu,hz]
 unfold b1p at hb
 split at hb
 · cases hx;cases hy
   have hu:P.underlying f.type=some .string:=by
    revert hk;cases P.underlying f.type with
    | none=>simp
    | some d=>cases d<;>simp
   refine ⟨hn,hp hu rfl _ _ _ h1,hp hu rfl _ _ _ h2,?_⟩
   rw [run_equalIn_string w' d f.type _ _ hu]
   have:=Option.some.inj hb
   rw [← this]
   congr 1
   rename_i p q
   rw [Bool.eq_iff_iff]
   simp only [beq_iff_eq,decide_eq_true_eq]
   constructor
   · intro h
     rw [ByteArray.toList_eq,ByteArray.toList_eq] at h
     cases p;cases q
     simp at h
     rw [h]
   · rintro rfl;rfl
 · cases hx;cases hy
   have hu:∃ kk,P.underlying f.type=some (.int kk):=by
    revert hk;cases P.underlying f.type with
    | none=>simp
    | some d=>cases d<;>simp
   obtain ⟨kk,hu⟩:=hu
   split at hb
   · rename_i e
     subst e
     refine ⟨hn,hp hu rfl _ _ _ h1,hp hu rfl _ _ _ h2,?_⟩
     rw [run_equalIn_int w' d f.type _ _ _ _ hu,Option.some.inj hb]
   · cases hb
 · cases hx;cases hy
   have hu:P.underlying f.type=some .bool:=by
    revert hk;cases P.underlying f.type with
    | none=>simp
    | some d=>cases d<;>simp
   refine ⟨hn,hp hu rfl _ _ _ h1,hp hu rfl _ _ _ h2,?_⟩
   rw [run_equalIn_bool' w' d f.type _ _ hu,Option.some.inj hb]
 · cases hb
theorem a1t:∀ {ks:List Nat} {as bs:List RV} {b:Bool},p5 ks as bs=some b→as.length=ks.length∧bs.length=ks.length
 | [],[],[],_,_=>⟨rfl,rfl⟩
 | k :: ks,a :: as,c :: bs,b,h=>by
  simp only [p5] at h
  split at h
  · rename_i c d h1 h2
    have:=a1t h2
    simp [this.1,this.2]
  · cases h
 | [],_ :: _,_,_,h=>by simp [p5] at h
 | [],[],_ :: _,_,h=>by simp [p5] at h
 | _ :: _,[],_,_,h=>by simp [p5] at h
 | _ :: _,_ :: _,[],_,h=>by simp [p5] at h
theorem a5m {L:Nat→Prop} (w':World) (d:Nat) {as bs:List RV} {us vs:Array Value} (hl1:us.size=as.length) (hl2:vs.size=bs.length)
 (hu:∀ i,i < as.length→RepR L w (as.getD i .nilptr) (us.getD i undef)) (hv:∀ i,i < bs.length→RepR L w (bs.getD i .nilptr) (vs.getD i undef)) :
 ∀ (fs:List Field) (ks:List Nat) (i:Nat) (b:Bool),a0b P i ks fs=true→p5 ks (as.drop i) (bs.drop i)=some b→(Op.eqFields (d+1) us vs fs).run P w'=.ok b w'
 | [],[],i,b,_,hb=>by
  generalize as.drop i=xs at hb
  generalize bs.drop i=ys at hb
  cases xs<;>cases ys<;>simp [p5] at hb
  subst hb
  simp [Op.eqFields]
 | [],_ :: _,i,b,hf,_=>by simp [a0b] at hf
 | _ :: _,[],i,b,hf,_=>by simp [a0b] at hf
 | f :: fs,k :: ks,i,b,hf,hb=>by
  have hlen:=a1t hb
  simp only [List.length_drop,List.length_cons] at hlen
  have hi1:i < as.length:=by omega
  have hi2:i < bs.length:=by omega
  rw [List.drop_eq_getElem_cons hi1,List.drop_eq_getElem_cons hi2] at hb
  simp only [p5] at hb
  simp only [a0b,Bool.and_eq_true] at hf
  split at hb
  · rename_i c e hc he
    have hb:=Option.some.inj hb
    have q1:=hu i hi1
    have q2:=hv i hi2
    have g1:as.getD i .nilptr=as[i]:=by simp [List.getD_eq_getElem?_getD,List.getElem?_eq_getElem hi1]
    have g2:bs.getD i .nilptr=bs[i]:=by simp [List.getD_eq_getElem?_getD,List.getElem?_eq_getElem hi2]
    have g3:us[i]?=some (us.getD i undef):=by simp [Array.getD_eq_getD_getElem?,Array.getElem?_eq_getElem (show i < us.size by omega)]
    have g4:vs[i]?=some (vs.getD i undef):=by simp [Array.getD_eq_getD_getElem?,Array.getElem?_eq_getElem (show i < vs.size by omega)]
    rw [g1] at q1;rw [g2] at q2
    obtain ⟨n1,n2,n3,n4⟩:=a61 (P:=P) w' d hf.1 g3 g4 q1 q2 hc
    have ih:=a5m w' d hl1 hl2 hu hv fs ks (i+1) e hf.2 he
    subst hb
    generalize us.getD i undef=u at n2 n4
    generalize vs.getD i undef=v at n3 n4
    cases c<;>simp [Op.eqFields,n1,n2,n3,n4,ih]
  · cases hb
theorem a62:∀ {ks1 ks2:List Nat} {as bs:List RV} {b:Bool},p5 (ks1++ks2) as bs=some b→∃ c d,p5 ks1 (as.take ks1.length) (bs.take ks1.length)=some c∧p5 ks2 (as.drop ks1.length) (bs.drop ks1.length)=some d∧b=(c && d)
 | [],ks2,as,bs,b,h=>⟨true,b,rfl,by simpa using h,by simp⟩
 | k :: ks1,ks2,a :: as,c :: bs,b,h=>by
  simp only [List.cons_append,p5] at h
  split at h
  · rename_i c1 d1 h1 h2
    obtain ⟨c2,d2,h3,h4,h5⟩:=a62 h2
    refine ⟨c1 && c2,d2,?_,by simpa using h4,?_⟩
    · simp only [List.length_cons,List.take_succ_cons,p5,h1,h3]
    · have:=Option.some.inj h
      rw [← this,h5,Bool.and_assoc]
  · cases h
 | k :: ks1,ks2,[],_,b,h=>by simp [p5] at h
 | k :: ks1,ks2,_ :: _,[],b,h=>by simp [p5] at h
theorem b39 {L:Nat→Prop} (w':World) (d:Nat) {f:Field} {i n:Nat} {ks:List Nat} {as bs:List RV} {us vs:Array Value} {b:Bool} (hf:a3x P i n ks f=true) (hl1:us.size=as.length) (hl2:vs.size=bs.length)
 (hu:∀ i,i < as.length→RepR L w (as.getD i .nilptr) (us.getD i undef)) (hv:∀ i,i < bs.length→RepR L w (bs.getD i .nilptr) (vs.getD i undef)) (h1:i+n≤as.length) (h2:i+n≤bs.length)
 (hb:p5 ks ((as.drop i).take n) ((bs.drop i).take n)=some b):f.name ≠ "_" ∧ (part f.type us f.offset).run P w'=.ok (.agg (us.extract i (i+n))) w'∧(part f.type vs f.offset).run P w'=.ok (.agg (vs.extract i (i+n))) w'∧(Op.equalIn (d+2) f.type (.agg (us.extract i (i+n))) (.agg (vs.extract i (i+n)))).run P w'=.ok b w':=by
 unfold a3x at hf
 simp only [Bool.and_eq_true,bne_iff_ne,ne_eq,beq_iff_eq,Bool.not_eq_true',decide_eq_true_eq] at hf
 obtain ⟨⟨⟨⟨⟨hn,ho⟩,hs⟩,hk⟩,hi⟩,hfs⟩:=hf
 subst ho
 split at hi
 · rename_i x hx
   rw [beq_iff_eq] at hi
   split at hfs
   · rename_i fs hu1
     have hag:a6h P f.type=some true:=by unfold a6h;rw [hu1]
     have hp:∀ zs:Array Value,(part f.type zs f.offset).run P w'=.ok (.agg (zs.extract f.offset (f.offset+n))) w':=fun zs=>by
      unfold part
      simp [a14 hag,Q7 hx,hi]
     refine ⟨hn,hp us,hp vs,?_⟩
     have e:P.fieldsOf f.type=fs:=by unfold Program.fieldsOf;rw [hu1]
     rw [run_equalIn_agg w' (d+1) f.type _ _ (by rw [e];exact hu1) hs,e]
     have sub:∀ (xs:List RV) (zs:Array Value),zs.size=xs.length→f.offset+n≤xs.length→(∀ j,j < xs.length→RepR L w (xs.getD j .nilptr) (zs.getD j undef))→∀ j,j < ((xs.drop f.offset).take n).length→RepR L w (((xs.drop f.offset).take n).getD j .nilptr) ((zs.extract f.offset (f.offset+n)).getD j undef):=fun xs zs hz hle hr j hj=>by
      have hj':j < n:=by simp at hj;omega
      have hlt:f.offset+j < zs.size:=by omega
      have e1:((xs.drop f.offset).take n).getD j .nilptr=xs.getD (f.offset+j) .nilptr:=by
       simp [List.getD_eq_getElem?_getD,List.getElem?_take,hj',List.getElem?_drop]
      have e2:(zs.extract f.offset (f.offset+n)).getD j undef=zs.getD (f.offset+j) undef:=by
       simp [Array.getD_eq_getD_getElem?,Array.getElem?_extract,hj',show j < min (f.offset+n) zs.size - f.offset by omega,Array.getElem?_eq_getElem hlt]
      rw [e1,e2]
      exact hr _ (by omega)
     refine a5m w' d (as:=(as.drop f.offset).take n) (bs:=(bs.drop f.offset).take n) (by simp;omega) (by simp;omega) (sub as us hl1 h1 hu) (sub bs vs hl2 h2 hv) fs.toList ks 0 b hfs (by simpa using hb)
   · cases hfs
 · cases hi
theorem a3a {L:Nat→Prop} (w':World) (d:Nat) {as bs:List RV} {us vs:Array Value} (hl1:us.size=as.length) (hl2:vs.size=bs.length)
 (hu:∀ i,i < as.length→RepR L w (as.getD i .nilptr) (us.getD i undef)) (hv:∀ i,i < bs.length→RepR L w (bs.getD i .nilptr) (vs.getD i undef)) :
 ∀ (fs:List Field) (ks:List Nat) (i:Nat) (b:Bool),a0a P i ks fs=true→p5 ks (as.drop i) (bs.drop i)=some b→(Op.eqFields (d+2) us vs fs).run P w'=.ok b w'
 | [],ks,i,b,hf,hb=>by
  have:ks=[]:=by simpa [a0a] using hf
  subst this
  generalize as.drop i=xs at hb
  generalize bs.drop i=ys at hb
  cases xs<;>cases ys<;>simp [p5] at hb
  subst hb
  simp [Op.eqFields]
 | f :: fs,ks,i,b,hf,hb=>by
  simp only [a0a,Bool.or_eq_true] at hf
  rcases hf with hf | hf
  · cases ks with
    | nil=>cases hf
    | cons k ks=>
     have hlen:=a1t hb
     simp only [List.length_drop,List.length_cons] at hlen
     have hi1:i < as.length:=by omega
     have hi2:i < bs.length:=by omega
     rw [List.drop_eq_getElem_cons hi1,List.drop_eq_getElem_cons hi2] at hb
     simp only [p5] at hb
     simp only [Bool.and_eq_true] at hf
     split at hb
     · rename_i c e hc he
       have hb:=Option.some.inj hb
       have q1:=hu i hi1
       have q2:=hv i hi2
       have g1:as.getD i .nilptr=as[i]:=by simp [List.getD_eq_getElem?_getD,List.getElem?_eq_getElem hi1]
       have g2:bs.getD i .nilptr=bs[i]:=by simp [List.getD_eq_getElem?_getD,List.getElem?_eq_getElem hi2]
       have g3:us[i]?=some (us.getD i undef):=by simp [Array.getD_eq_getD_getElem?,Array.getElem?_eq_getElem (show i < us.size by omega)]
       have g4:vs[i]?=some (vs.getD i undef):=by simp [Array.getD_eq_getD_getElem?,Array.getElem?_eq_getElem (show i < vs.size by omega)]
       rw [g1] at q1;rw [g2] at q2
       obtain ⟨n1,n2,n3,n4⟩:=a61 (P:=P) w' (d+1) hf.1 g3 g4 q1 q2 hc
       have ih:=a3a w' d hl1 hl2 hu hv fs ks (i+1) e hf.2 he
       subst hb
       generalize us.getD i undef=u at n2 n4
       generalize vs.getD i undef=v at n3 n4
       cases c<;>simp [Op.eqFields,n1,n2,n3,n4,ih]
     · cases hb
  · simp only [Bool.and_eq_true] at hf
    obtain ⟨hf1,hf2⟩:=hf
    generalize a72 P f.type=n at hf1 hf2
    have hkn':(ks.take n).length=n∧0 < n:=by
     unfold a3x at hf1
     simp only [Bool.and_eq_true,decide_eq_true_eq] at hf1
     exact hf1.1.1.2
    obtain ⟨hkn,hn0⟩:=hkn'
    have hlen:=a1t hb
    simp only [List.length_drop] at hlen
    have hn:n≤ks.length:=by rw [List.length_take] at hkn;omega
    have hb':p5 (ks.take n++ks.drop n) (as.drop i) (bs.drop i)=some b:=by rw [List.take_append_drop];exact hb
    obtain ⟨c,e,h3,h4,h5⟩:=a62 hb'
    rw [hkn] at h3 h4
    rw [List.drop_drop,List.drop_drop] at h4
    obtain ⟨n1,n2,n3,n4⟩:=b39 (P:=P) w' d hf1 hl1 hl2 hu hv (by omega) (by omega) h3
    have ih:=a3a w' d hl1 hl2 hu hv fs (ks.drop n) (i+n) e hf2 h4
    subst h5
    cases c<;>simp [Op.eqFields,n1,n2,n3,n4,ih]
theorem a81 {L:Nat→Prop} (w':World) {t:TypeId} {ks:List Nat} {as bs:List RV} {us vs:Array Value} {b:Bool} (hf:a2o P t ks=true) (hl1:us.size=as.length) (hl2:vs.size=bs.length)
 (hu:∀ i,i < as.length→RepR L w (as.getD i .nilptr) (us.getD i undef)) (hv:∀ i,i < bs.length→RepR L w (bs.getD i .nilptr) (vs.getD i undef)) (hb:p5 ks as bs=some b):(Op.equalIn 10000 t (.agg us) (.agg vs)).run P w'=.ok b w':=by
 unfold a2o at hf
 simp only [Bool.and_eq_true,Bool.not_eq_true'] at hf
 obtain ⟨⟨h1,h2⟩,h3⟩:=hf
 split at h3
 · rename_i fs hfs
   have e:P.fieldsOf t=fs:=by unfold Program.fieldsOf;rw [hfs]
   rw [run_equalIn_agg w' 9999 t us vs (by rw [e];exact hfs) h1,e]
   exact a3a w' 9997 hl1 hl2 hu hv fs.toList ks 0 b h3 (by simpa using hb)
 · cases h3
theorem b10 {p:POp} {k:PV→Prop} (hI:Inv F γ st a w) (hc:m8 P o p=true) (h:J6 st p k)
 (hK:∀ v q,RepP γ (i8 F.L γ st.mem) w q v→k q→K (a.put o.dst v) w):o.wp P a w K Q:=by
 obtain ⟨dst,op,type,pos,after,guard⟩:=o
 cases p with
 | mov x=>
  cases op<;>simp [m8] at hc
  · exact k6 (by simp [execOp]) (hK _ _ (j5 hI hc) h)
  · exact k6 (by simp [execOp]) (hK _ _ (j5 hI hc) h)
 | pick c x y=>
  cases op<;>simp [m8] at hc
  obtain ⟨⟨h1,h2⟩,h3⟩:=hc
  simp only [J6] at h
  split at h
  · rename_i t ht
    have hb:=j5 hI h1
    rw [ht] at hb
    refine k6 (v:=if t then _ else _) (by simp [execOp,hb.bool,asBool];rfl) (hK _ _ ?_ h)
    cases t
    · exact j5 hI h3
    · exact j5 hI h2
  · exact h.elim
 | nilck x=>
  cases op<;>simp [m8] at hc
  have hx:=j5 hI hc
  simp only [J6] at h
  split at h
  · rename_i heq;rw [heq] at hx
    obtain ⟨b,_,hv⟩:=hx.ptrI
    exact k6 (by simp [execOp,hv];rfl) (hK _ _ (by rw [← hv];exact hx) h)
  · rename_i heq;rw [heq] at hx
    obtain ⟨b,_,_,_,hv⟩:=hx.eltI
    exact k6 (by simp [execOp,hv];rfl) (hK _ _ (by rw [← hv];exact hx) h)
  · rename_i heq;rw [heq] at hx
    obtain ⟨b,_,_,hv,_⟩:=hx.atI
    exact k6 (by simp [execOp,hv];rfl) (hK _ _ (by rw [← hv];exact hx) h)
  · rename_i heq;rw [heq] at hx
    obtain ⟨vs,hv,_⟩:=hx.fnI
    exact k6 (by simp [execOp,hv];rfl) (hK _ _ (by rw [← hv];exact hx) h)
  · exact h.elim
 | bin op' x y=>
  cases op<;>simp [m8] at hc
  obtain ⟨⟨rfl,h1⟩,h2⟩:=hc
  obtain ⟨v,r,hr,h3,h4⟩:=b7k (F:=F) (j5 hI h1) (j5 hI h2) h
  exact k6 (by simp only [execOp];exact P7 hr) (hK _ _ h3 h4)
 | eqb neg x y=>
  cases op<;>simp [m8] at hc
  rename_i op' t x' y' yt
  obtain ⟨⟨⟨rfl,h1⟩,h2⟩,h3⟩:=hc
  have hu:P.underlying t=some .bool:=by
   revert h3;cases P.underlying t with
   | none=>simp
   | some d=>cases d<;>simp
  have hx:=j5 hI h1
  have hy:=j5 hI h2
  simp only [J6] at h
  split at h
  · rename_i b1 b2 e1 e2
    rw [e1] at hx;rw [e2] at hy
    have he:∀ w,(Op.equal t (.bool b1) (.bool b2)).run P w=.ok (b1 == b2) w:=by
     intro w
     unfold Op.equal
     have:Op.maxDepth=9999+1:=rfl
     rw [this]
     unfold Op.equalIn
     simp [run_underlying hu]
    refine k6 (v:=.bool (if neg then b1 != b2 else b1 == b2)) ?_ (hK _ _ (a09 _) h)
    cases neg<;>simp [execOp,hx.bool,hy.bool,eqGuard,binOp,he,bne]
  · exact h.elim
 | eqs neg ks x y=>
  cases op<;>simp [m8] at hc
  rename_i op' t x' y' yt
  obtain ⟨⟨⟨rfl,h1⟩,h2⟩,h3⟩:=hc
  have hx:=j5 hI h1
  have hy:=j5 hI h2
  simp only [J6] at h
  split at h
  · rename_i as bs e1 e2
    cases hb:p5 ks as bs with
    | none=>rw [hb] at h;exact h.elim
    | some b=>
     rw [hb] at h
     have h:k (.val (.bool (if neg then !b else b))):=h
     rw [e1] at hx;rw [e2] at hy
     obtain ⟨vs,hv,hvs,hvr⟩:=hx.valI.aggI
     obtain ⟨us,hu,hus,hur⟩:=hy.valI.aggI
     have he:=fun w'=>a81 (P:=P) w' h3 hvs hus hvr hur hb
     refine k6 (v:=.bool (if neg then !b else b)) ?_ (hK _ _ (a09 _) h)
     have hg:P.eqGuardType P.depth t=false:=by
      unfold a2o at h3
      simp only [Bool.and_eq_true,Bool.not_eq_true'] at h3
      exact h3.1.2
     cases neg<;>simp [execOp,hv,hu,run_eqGuard_agg,hg,run_eql_struct,run_neq_struct,he]
  · exact h.elim
 | un op' x=>
  cases op<;>simp [m8] at hc
  obtain ⟨rfl,h1⟩:=hc
  have hx:=j5 hI h1
  simp only [J6,unS] at h
  split at h
  · rename_i k n e;rw [e] at hx
    exact k6 (v:=.int k (k.wrap (0 - n))) (by simp [execOp,hx.int,Op.unary,Op.intArith]) (hK _ _ (S4 _ _) h)
  · rename_i b e;rw [e] at hx
    exact k6 (v:=.bool !b) (by simp [execOp,hx.bool,Op.unary]) (hK _ _ (a09 _) h)
  · exact h.elim
 | conv kd x=>
  cases op<;>simp [m8] at hc
  rename_i s d x'
  obtain ⟨⟨h1,h2⟩,h3⟩:=hc
  have hd:P.underlying d=some (.int kd):=by
   split at h3
   · rename_i k' e;rw [e];simp at h3;rw [h3]
   · cases h3
  have hx:=j5 hI h1
  simp only [J6] at h
  split at h
  · rename_i n e;rw [e] at hx
    refine k6 (v:=.int kd (kd.wrap n)) ?_ (hK _ _ (S4 _ _) h)
    simp only [execOp]
    rw [hx.int]
    obtain ⟨ds,hds⟩:=Option.isSome_iff_exists.1 h2
    exact P7 (by simp [convert,run_underlying hds,run_underlying hd,Conv.intToInt])
  · exact h.elim
 | faddr off x=>
  cases op<;>simp [m8] at hc
  rename_i s x' f
  obtain ⟨h1,h2⟩:=hc
  have hx:=j5 hI h1
  obtain ⟨fs,fd,i,hs,hf,ho,hi,h0⟩:∃ fs fd i,P.underlying s=some (.struct fs)∧fs[f]?=some fd∧fd.offset=off∧P.info? fd.type=some i∧i.size≠0:=by
   split at h2
   · rename_i fs hs
     split at h2
     · rename_i fd hf
       simp only [Bool.and_eq_true,beq_iff_eq] at h2
       obtain ⟨h3,h4⟩:=h2
       split at h4
       · rename_i i hi;exact ⟨fs,fd,i,hs,hf,h3,hi,by simpa using h4⟩
       · cases h4
     · cases h2
   · cases h2
  subst ho
  simp only [J6] at h
  split at h
  · rename_i id o e;rw [e] at hx
    obtain ⟨b,hg,hv⟩:=hx.ptrI
    refine k6 (v:=.pointer (some ⟨b,o+fd.offset,none⟩)) ?_ (hK _ _ (.ptr _ _ b hg) h)
    simp only [execOp];rw [hv]
    have:=a27 (w:=w) hs hf hi h0 ⟨b,o,none⟩
    rw [a0q] at this
    exact P7 this
  · rename_i id j s' o e;rw [e] at hx
    obtain ⟨b,n,c,hg,hv⟩:=hx.eltI
    refine k6 (v:=.pointer (some ⟨b,j*s'+(o+fd.offset),none⟩)) ?_ (hK _ _ (.elt _ _ _ _ b n c hg) h)
    simp only [execOp];rw [hv]
    have:=a27 (w:=w) hs hf hi h0 ⟨b,j*s'+o,none⟩
    rw [a0q,Nat.add_assoc] at this
    exact P7 this
  · rename_i cs e;rw [e] at hx
    obtain ⟨hlt,h⟩:=h
    obtain ⟨b,o,g,hv,hb,hne,hc,hr⟩:=hx.atI
    refine k6 (v:=.pointer (some ⟨b,o+fd.offset,none⟩)) ?_ (hK _ _ (.at _ b _ (fun j=>g (fd.offset+j)) hb (fun e=>by have:=congrArg List.length e;simp at this;omega) (fun j hj=>?_) (fun j hj=>?_)) h)
    · simp only [execOp];rw [hv]
      have:=a27 (w:=w) hs hf hi h0 ⟨b,o,none⟩
      rw [a0q] at this
      exact P7 this
    · simp at hj
      rw [Nat.add_assoc]
      exact hc _ (by omega)
    · simp at hj
      have:=hr (fd.offset+j) (by omega)
      simpa [List.getD_eq_getElem?_getD,List.getElem?_drop] using this
  · exact h.elim
 | fld agg off n x=>
  cases op<;>simp [m8] at hc
  rename_i s x' f
  obtain ⟨h1,h2⟩:=hc
  have hx:=j5 hI h1
  obtain ⟨fs,fd,i,hs,hf,ho,hi,h0,h3,h4⟩:∃ fs fd i,P.underlying s=some (.struct fs)∧fs[f]?=some fd∧fd.offset=off∧P.info? fd.type=some i∧i.size=n∧a6h P fd.type=some agg∧(agg || n == 1)=true:=by
   split at h2
   · rename_i fs hs
     split at h2
     · rename_i fd hf
       simp only [Bool.and_eq_true,beq_iff_eq] at h2
       obtain ⟨⟨⟨h3,h4⟩,h5⟩,h6⟩:=h2
       split at h4
       · rename_i i hi;exact ⟨fs,fd,i,hs,hf,h3,hi,by simpa using h4,h5,h6⟩
       · cases h4
     · cases h2
   · cases h2
  subst ho
  have hrun:∀ (vs:Array Value) (v:Value),a.eval x'=.agg vs→(part fd.type vs fd.offset).run P w=.ok v w→(Instr.field s (a.eval x') f).run P w=.ok v w:=fun vs v hv hp=>by
   rw [hv];unfold Instr.field;simp [run_underlying hs,hf,asAgg,hp]
  simp only [J6] at h
  split at h
  · rename_i cs e;rw [e] at hx
    obtain ⟨hb,hn,h⟩:=h
    obtain ⟨vs,hv,hsz,hr⟩:=hx.vaggI
    obtain ⟨v,hp,hq⟩:=b2c (γ:=γ) (L:=i8 F.L γ st.mem) (cs:=cs.map .val) hi h0 h3 h4 hn (by simpa using hb) (by simpa using hsz) (fun j hj=>by
     simp at hj;rw [Q4 _ _ hj];exact .val _ _ (hr j hj))
    refine k6 (by simp only [execOp];exact P7 (hrun vs v hv hp)) (hK _ _ ?_ h)
    have he:=b1h agg cs fd.offset n hn hb
    rw [← he]
    cases agg with
    | true=>simpa [List.map_take,List.map_drop] using hq
    | false=>
     simp only [Bool.false_eq_true,if_false] at hq ⊢
     rw [show ((List.map PV.val (List.take n (List.drop fd.offset cs))).getD 0 PV.undef)=(cs.map PV.val).getD fd.offset .undef from by
      rw [List.map_take,List.map_drop,D3 _ _ _ _ _ hn,Nat.add_zero]]
     exact hq
  · rename_i cs e;rw [e] at hx
    obtain ⟨hb,hn,h⟩:=h
    obtain ⟨vs,hv,hsz,hr⟩:=hx.aggI
    obtain ⟨v,hp,hq⟩:=b2c (γ:=γ) (L:=i8 F.L γ st.mem) (cs:=cs) hi h0 h3 h4 hn hb hsz hr
    exact k6 (by simp only [execOp];exact P7 (hrun vs v hv hp)) (hK _ _ hq h)
  · exact h.elim
 | load agg n x=>
  cases op<;>simp [m8] at hc
  rename_i t x'
  obtain ⟨⟨⟨h1,h2⟩,h3⟩,h4⟩:=hc
  obtain ⟨i,hi,hn⟩:∃ i,P.info? t=some i∧i.size=n:=by
   split at h2
   · rename_i i hi;exact ⟨i,hi,by simpa using h2⟩
   · cases h2
  have h4:(agg || n == 1)=true:=by simpa using h4
  have hx:=j5 hI h1
  simp only [J6] at h
  split at h
  · rename_i id o e;rw [e] at hx
    obtain ⟨b,hg,hv⟩:=hx.ptrI
    split at h
    · rename_i cs hm
      obtain ⟨hb,h0,h⟩:=h
      obtain ⟨b',g,hg',hc,hr⟩:=b3n hI hm hb
      rw [hg] at hg'
      simp only [Value.pointer.injEq,Option.some.injEq,Addr.mk.injEq,and_true] at hg'
      subst hg'
      obtain ⟨v,hl,hq⟩:=a1b (γ:=γ) (L:=i8 F.L γ st.mem) (off:=o) ((cs.drop o).take n) g hi hn h3 h4 h0 (by simp;omega) hc hr
      refine k6 (by simp only [execOp];rw [hv];exact P7 hl) (hK _ _ ?_ h)
      cases agg with
      | true=>exact hq
      | false=>rw [show cs.getD o PV.undef=((cs.drop o).take n).getD 0 .undef from by rw [D3 _ _ _ _ _ h0,Nat.add_zero]];exact hq
    · exact h.elim
  · rename_i id j s o e;rw [e] at hx
    obtain ⟨b,n',c',hg,hv⟩:=hx.eltI
    split at h
    · rename_i E sz xs hm
      obtain ⟨rfl,hj,h0,hb,h⟩:=h
      obtain ⟨b',n'',c'',g,hg',_,hc,hr,hcl,hs⟩:=b0b hI hm hj
      rw [hg] at hg'
      simp only [Value.slice.injEq,Option.some.injEq,Addr.mk.injEq,and_true] at hg'
      obtain ⟨rfl,_,_⟩:=hg'
      obtain ⟨v,hl,hq⟩:=a1b (γ:=γ) (L:=i8 F.L γ st.mem) (b:=b) (off:=j*s+o) (((((xs.getD j .nilptr).cells).drop o).take n).map .val) (fun k=>g (o+k)) hi hn h3 h4 h0 (by simp only [List.length_map,List.length_take,List.length_drop];omega)
       (fun k hk=>by rw [Nat.add_assoc];exact hc _ (by omega))
       (fun k hk=>by rw [Q4 _ _ (by simp only [List.length_take,List.length_drop];omega),D3 _ _ _ _ _ hk];exact .val _ _ (hr _ (by omega)))
      refine k6 (by simp only [execOp];rw [hv];exact P7 hl) (hK _ _ ?_ h)
      rw [← b1h agg _ o n h0 (by omega)]
      exact hq
    · exact h.elim
  · rename_i cs e;rw [e] at hx
    obtain ⟨hb,h0,h⟩:=h
    obtain ⟨b,o,g,hv,_,_,hc,hr⟩:=hx.atI
    obtain ⟨v,hl,hq⟩:=a1b (γ:=γ) (L:=i8 F.L γ st.mem) (b:=b) (off:=o) (((cs.drop 0).take n).map .val) g hi hn h3 h4 h0 (by simp;omega)
     (fun k hk=>hc _ (by omega)) (fun k hk=>by rw [Q4 _ _ (by simp;omega),D3 _ _ _ _ _ hk,Nat.zero_add];exact .val _ _ (hr _ (by omega)))
    refine k6 (by simp only [execOp];rw [hv];exact P7 hl) (hK _ _ ?_ h)
    have:=b1h agg cs 0 n h0 (by omega)
    rw [this] at hq
    simpa using hq
  · exact h.elim
 | iaddr sz x i=>
  cases op<;>simp [m8] at hc
  rename_i t x' i'
  obtain ⟨⟨h1,h2⟩,h3⟩:=hc
  obtain ⟨e,inf,ht,hi,hs⟩:∃ e inf,P.underlying t=some (.slice e)∧P.info? e=some inf∧inf.size=sz:=by
   split at h3
   · rename_i e he
     split at h3
     · rename_i inf hi;exact ⟨e,inf,he,hi,by simpa using h3⟩
     · cases h3
   · cases h3
  have hx:=j5 hI h1
  have hj:=j5 hI h2
  have hrun:∀ (ad:Addr) (n c:Nat) (k:IntKind) (j:Int),a.eval x'=.slice (some ad) n c→a.eval i'=.int k j→0≤j→j < n→(Instr.indexAt t (a.eval x') (a.eval i')).run P w=.ok (.pointer (some (ad.add (j.toNat*sz)))) w:=fun ad n c k j hv hv' h0 h1=>by
   rw [hv,hv'];unfold Instr.indexAt
   simp [asIntOf,run_underlying ht,h0,h1,Q7 hi,hs]
  simp only [J6] at h
  split at h
  · rename_i s xs k j e1 e2
    rw [e1] at hx;rw [e2] at hj
    obtain ⟨rfl,h0,hlt,h⟩:=h
    obtain ⟨A,n,c,hv,hn,hr⟩:=hx.list
    obtain ⟨b,o,rfl,_,hp⟩:=b4s (γ:=γ) hr (show j.toNat < xs.length by omega)
    refine k6 (by simp only [execOp];exact P7 (hrun _ _ _ _ _ hv hj.int h0 (by omega))) (hK _ _ ?_ h)
    rw [a0q];exact hp
  · rename_i id k j e1 e2
    rw [e1] at hx;rw [e2] at hj
    split at h
    · rename_i E s xs hm
      obtain ⟨rfl,h0,hlt,h⟩:=h
      obtain ⟨b,n,c,g,hg,hn,_⟩:=b0b hI hm (show j.toNat < xs.length by omega)
      have hv:a.eval x'=.slice (some ⟨b,0,none⟩) n c:=by rw [hx.ownI,hg]
      refine k6 (by simp only [execOp];exact P7 (hrun _ _ _ _ _ hv hj.int h0 (by omega))) (hK _ _ ?_ h)
      rw [a0q,Nat.zero_add]
      simpa using RepP.elt (γ:=γ) (L:=i8 F.L γ st.mem) (w:=w) id j.toNat s 0 b n c hg
    · exact h.elim
  · exact h.elim
 | idx x i=>
  cases op<;>simp [m8] at hc
  rename_i t x' i'
  obtain ⟨⟨h1,h2⟩,h3⟩:=hc
  have ht:P.underlying t=some .string:=by
   revert h3;cases P.underlying t with
   | none=>simp
   | some d=>cases d<;>simp
  have hx:=j5 hI h1
  have hj:=j5 hI h2
  simp only [J6] at h
  split at h
  · rename_i s k j e1 e2
    rw [e1] at hx;rw [e2] at hj
    obtain ⟨h0,hlt,h⟩:=h
    have hlt':j.toNat < s.size:=by omega
    refine k6 (v:=.int .u8 (a3p s j.toNat)) ?_ (hK _ _ (S4 _ _) h)
    simp only [execOp]
    rw [hx.str,hj.int]
    refine P7 ?_
    unfold Instr.index
    have hb:a3p s j.toNat=(s[j.toNat].toNat:Int):=by
     unfold a3p
     have h3:j.toNat < s.data.size:=hlt'
     rw [Array.getD_eq_getD_getElem?,Array.getElem?_eq_getElem h3]
     rfl
    simp [asIntOf,run_underlying ht,h0,hlt',hb]
  · exact h.elim
 | slc z x lo hi=>
  cases op<;>simp [m8] at hc
  rename_i t x' lo' hi' mx
  obtain ⟨⟨⟨⟨h1,h2⟩,h3⟩,rfl⟩,h4⟩:=hc
  obtain ⟨v,r,hr,h5,h6⟩:=b6m hI (j5 hI h1) h2 h3 h4 h
  exact k6 (by simp only [execOp];exact P7 hr) (hK _ _ h5 h6)
 | ext i x=>
  cases op<;>simp [m8] at hc
  rename_i x' i'
  obtain ⟨h1,rfl⟩:=hc
  have hx:=j5 hI h1
  simp only [J6] at h
  split at h
  · rename_i vs e
    rw [e] at hx
    obtain ⟨hlt,h⟩:=h
    obtain ⟨us,hv,hs,hr⟩:=hx.tupI
    have hlt':i < us.size:=by omega
    refine k6 (v:=us[i]) ?_ (hK _ _ ?_ h)
    · simp only [execOp];rw [hv]
      refine P7 ?_
      unfold Instr.extract
      simp [Array.getElem?_eq_getElem hlt']
    · have:=hr i hlt
      rwa [Array.getD_eq_getD_getElem?,Array.getElem?_eq_getElem hlt',Option.getD_some] at this
  · exact h.elim
 | mkfn f caps=>
  cases op<;>simp [m8] at hc
  rename_i fn first captured
  cases fn<;>simp at hc
  obtain ⟨⟨rfl,h1⟩,h2⟩:=hc
  obtain ⟨hl,hr⟩:=a2r hI h2
  have hf:first=#[]:=by simpa using h1
  subst hf
  refine k6 (v:=.func (.func f) #[] (captured.map a.eval)) ?_ (hK _ _ (.fn f _ _ (by simpa using hl) (fun i hi=>?_)) h)
  · simp [execOp,Instr.makeFunc]
  · have:=hr i (by simpa using hi)
    simpa [Array.getD_eq_getD_getElem?,List.getD_eq_getElem?_getD] using this
 | ifc t x=>
  cases op<;>simp [m8] at hc
  obtain ⟨⟨rfl,h1⟩,h2⟩:=hc
  have hx:=j5 hI h1
  simp only [J6] at h
  split at h
  · rename_i r e
    rw [e] at hx
    refine k6 (v:=.iface t _) ?_ (hK _ _ (.val _ _ (.ifc t r _ hx.valI)) h)
    simp only [execOp]
    refine P7 ?_
    unfold Program.concrete at h2
    unfold Instr.makeInterface
    cases hu:P.underlying t with
    | none=>simp [hu] at h2
    | some d=>cases d<;>simp [hu] at h2<;>simp [run_underlying hu]
  · exact h.elim
 | lens x=>
  cases op<;>simp [m8] at hc
  rename_i c
  obtain ⟨callee,args,argTypes⟩:=c
  cases callee<;>try (simp at hc;done)
  rename_i bi
  cases bi<;>try (simp at hc;done)
  dsimp only at hc
  obtain ⟨x',t,ha,hat,h1,hu⟩:∃ x' t,args=#[x']∧argTypes=#[t]∧i7 x x'=true∧P.underlying t=some .string:=by
   split at hc
   · rename_i x' t e1 e2
     simp only [Bool.and_eq_true] at hc
     refine ⟨x',t,by apply Array.toList_inj.1;simp [e1],by apply Array.toList_inj.1;simp [e2],hc.1,?_⟩
     have h2:=hc.2
     cases hu:P.underlying t with
     | none=>rw [hu] at h2;cases h2
     | some d=>rw [hu] at h2;cases d<;>first | rfl | cases h2
   · cases hc
  subst ha;subst hat
  have hx:=j5 hI h1
  simp only [J6] at h
  split at h
  · rename_i s e;rw [e] at hx
    exact k6 (v:=.int .i64 s.size) (by simp [execOp,resolve,invoke,builtin,Builtin.len_,hx.str,run_underlying hu,goInt]) (hK _ _ (S4 _ _) h)
  · exact h.elim
 | len x=>
  cases op<;>simp [m8] at hc
  rename_i c
  obtain ⟨callee,args,argTypes⟩:=c
  cases callee<;>try (simp at hc;done)
  rename_i bi
  cases bi<;>try (simp at hc;done)
  dsimp only at hc
  obtain ⟨x',t,ha,hat,h1,e,hu⟩:∃ x' t,args=#[x']∧argTypes=#[t]∧i7 x x'=true∧∃ e,P.underlying t=some (.slice e):=by
   split at hc
   · rename_i x' t e1 e2
     simp only [Bool.and_eq_true] at hc
     refine ⟨x',t,by apply Array.toList_inj.1;simp [e1],by apply Array.toList_inj.1;simp [e2],hc.1,?_⟩
     have h2:=hc.2
     cases hu:P.underlying t with
     | none=>rw [hu] at h2;cases h2
     | some d=>rw [hu] at h2;cases d<;>first | exact ⟨_,rfl⟩ | cases h2
   · cases hc
  subst ha;subst hat
  have hx:=j5 hI h1
  have hrun:∀ (A:Option Addr) (n c:Nat),a.eval x'=.slice A n c→(execOp a.eval { dst,op:=.call { callee:=.builtin .len,args:=#[x'],argTypes:=#[t] },type,pos,after,guard }).run P w=.ok (.value (.int .i64 n)) w:=fun A n c hv=>by
   simp [execOp,resolve,invoke,builtin,Builtin.len_,hv,run_underlying hu,goInt]
  simp only [J6] at h
  split at h
  · rename_i s xs e;rw [e] at hx
    obtain ⟨A,n,c,hv,rfl,_⟩:=hx.list
    exact k6 (hrun A _ c hv) (hK _ _ (S4 _ _) h)
  · rename_i s e;rw [e] at hx
    exact k6 (hrun _ 0 0 hx.empI) (hK _ _ (S4 _ _) h)
  · rename_i id e;rw [e] at hx
    split at h
    · rename_i E sz xs hm
      obtain ⟨vs,h1,_⟩:=hI.mem.row id E sz xs hm
      have hv:∃ A c,γ id=.slice A xs.length c:=by
       rcases h1.2 with ⟨he,h0⟩ | ⟨g,cap,cur,he,_⟩
       · exact ⟨none,0,by rw [he,h0]⟩
       · exact ⟨_,_,he⟩
      obtain ⟨A,c,hv⟩:=hv
      exact k6 (hrun A _ c (by rw [hx.ownI,hv])) (hK _ _ (S4 _ _) h)
    · exact h.elim
  · exact h.elim
 | mn x y=>
  cases op<;>simp [m8] at hc
  rename_i c
  obtain ⟨callee,args,argTypes⟩:=c
  cases callee<;>try (simp at hc;done)
  rename_i bi
  cases bi<;>try (simp at hc;done)
  dsimp only at hc
  obtain ⟨x',y',ha,h1,h2⟩:∃ x' y',args=#[x',y']∧i7 x x'=true∧i7 y y'=true:=by
   split at hc
   · rename_i x' y' e1
     simp only [Bool.and_eq_true] at hc
     exact ⟨x',y',by apply Array.toList_inj.1;simp [e1],hc.1,hc.2⟩
   · cases hc
  subst ha
  have hx:=j5 hI h1
  have hy:=j5 hI h2
  simp only [J6] at h
  split at h
  · rename_i k1 n1 k2 n2 e1 e2
    rw [e1] at hx;rw [e2] at hy
    exact k6 (v:=.int k1 (if n2 < n1 then n2 else n1)) (by simp [execOp,resolve,invoke,builtin,Builtin.min_,Builtin.min2,hx.int,hy.int]) (hK _ _ (S4 _ _) h)
  · exact h.elim
 | mx x y=>
  cases op<;>simp [m8] at hc
  rename_i c
  obtain ⟨callee,args,argTypes⟩:=c
  cases callee<;>try (simp at hc;done)
  rename_i bi
  cases bi<;>try (simp at hc;done)
  dsimp only at hc
  obtain ⟨x',y',ha,h1,h2⟩:∃ x' y',args=#[x',y']∧i7 x x'=true∧i7 y y'=true:=by
   split at hc
   · rename_i x' y' e1
     simp only [Bool.and_eq_true] at hc
     exact ⟨x',y',by apply Array.toList_inj.1;simp [e1],hc.1,hc.2⟩
   · cases hc
  subst ha
  have hx:=j5 hI h1
  have hy:=j5 hI h2
  simp only [J6] at h
  split at h
  · rename_i k1 n1 k2 n2 e1 e2
    rw [e1] at hx;rw [e2] at hy
    exact k6 (v:=.int k1 (if n1 < n2 then n2 else n1)) (by simp [execOp,resolve,invoke,builtin,Builtin.max_,Builtin.max2,hx.int,hy.int]) (hK _ _ (S4 _ _) h)
  · exact h.elim
 | mx4 x y z u=>
  cases op<;>simp [m8] at hc
  rename_i c
  obtain ⟨callee,args,argTypes⟩:=c
  cases callee<;>try (simp at hc;done)
  rename_i bi
  cases bi<;>try (simp at hc;done)
  dsimp only at hc
  obtain ⟨x',y',z',u',ha,h1,h2,h3,h4⟩:∃ x' y' z' u',args=#[x',y',z',u']∧i7 x x'=true∧i7 y y'=true∧i7 z z'=true∧i7 u u'=true:=by
   split at hc
   · rename_i x' y' z' u' e1
     simp only [Bool.and_eq_true] at hc
     exact ⟨x',y',z',u',by apply Array.toList_inj.1;simp [e1],hc.1.1,hc.1.2,hc.2.1,hc.2.2⟩
   · cases hc
  subst ha
  have hx:=j5 hI h1
  have hy:=j5 hI h2
  have hz:=j5 hI h3
  have hu:=j5 hI h4
  simp only [J6] at h
  split at h
  · rename_i k1 n1 k2 n2 k3 n3 k4 n4 e1 e2 e3 e4
    rw [e1] at hx;rw [e2] at hy;rw [e3] at hz;rw [e4] at hu
    exact k6 (v:=.int k1 (b2l n1 n2 n3 n4)) (by simp [execOp,resolve,invoke,builtin,Builtin.max_,Builtin.max2,hx.int,hy.int,hz.int,hu.int,b2l]) (hK _ _ (S4 _ _) h)
  · exact h.elim
 | tostr x=>
  cases op<;>simp [m8] at hc
  rename_i sT dT x'
  obtain ⟨h1,h2⟩:=hc
  obtain ⟨e,hs,hd,he⟩:∃ e,P.underlying sT=some (.slice e)∧P.underlying dT=some .string∧P.underlying e=some (.int .u8):=by
   split at h2
   · rename_i e hs hd
     split at h2
     · rename_i k hk
       have:k=.u8:=by simpa using h2
       subst this
       exact ⟨e,hs,hd,hk⟩
     · cases h2
   · cases h2
  have hx:=j5 hI h1
  have fin:∀ (xs:List RV) (A:Option Addr) (n c:Nat),a.eval x'=.slice A n c→(xs=[]∧n=0∨∃ (b o:Nat) (f:Nat→Value),A=some ⟨b,o,none⟩∧n=xs.length∧(∀ j,j < xs.length→w.cell? ⟨b,o+j,none⟩=some (f j))∧∀ j,j < xs.length→RepR (i8 F.L γ st.mem) w (xs.getD j .nilptr) (f j)) →
   xs.all RV.isU8=true→k (.val (.str (P5 xs)))→Oper.wp P { dst,op:=.convert sT dT x',type,pos,after,guard } a w K Q:=fun xs A n c hev hA hu hk=>by
   refine k6 (v:=.string (P5 xs)) ?_ (hK _ _ (.val _ _ (.str _)) hk)
   simp only [execOp]
   refine P7 ?_
   rw [hev]
   rcases hA with ⟨rfl,rfl⟩ | ⟨b,o,f,rfl,rfl,hc,hr⟩
   · cases A with
     | none=>exact run_convert_bytes_nil w sT e hs he 0 c dT hd
     | some A=>
      have:∀ w',(Conv.bytesToString (.slice (some A) 0 c)).run P w'=.ok (.string (P5 [])) w':=fun w'=>by
       have hlc:=run_loadCells (P:=P) w' A 0 (fun _=>undef) (fun j hj=>by omega)
       simp [Conv.bytesToString,hlc,P5]
       rfl
      simp [convert,run_underlying hs,run_underlying hd,run_underlying he,this]
   · have hnum:∀ j,j < xs.length→∃ m,xs.getD j .nilptr=.int .u8 m:=fun j hj=>by
      have hm:=List.all_eq_true.1 hu _ (List.getElem_mem hj)
      have e1:xs.getD j .nilptr=xs[j]:=by simp [List.getD_eq_getElem?_getD,List.getElem?_eq_getElem hj]
      rw [e1]
      revert hm
      generalize xs[j]=r
      intro hm
      cases r<;>simp [RV.isU8] at hm
      rename_i kk m
      cases kk<;>simp [RV.isU8] at hm
      exact ⟨m,rfl⟩
     have hnums:=run_convert_bytes_arg (P:=P) w sT e hs he b o xs.length c (xs.map fun | .int _ m=>m | _=>0) (by simp) (fun j hj=>by
      rw [hc j hj]
      obtain ⟨m,hm⟩:=hnum j hj
      have hrj:=hr j hj
      rw [hm] at hrj
      have e1:xs.getD j .nilptr=xs[j]:=by simp [List.getD_eq_getElem?_getD,List.getElem?_eq_getElem hj]
      rw [e1] at hm
      have:(xs.map fun | .int _ m=>m | _=>0).getD j 0=m:=by simp [List.getD_eq_getElem?_getD,List.getElem?_eq_getElem hj,hm]
      rw [this]
      generalize f j=u at hrj
      cases hrj
      rfl) dT hd
     rw [hnums]
     congr 2
     unfold strOfNums P5
     congr 1
     congr 1
     rw [List.map_map]
     refine List.map_congr_left fun r hr'=>?_
     have:=List.all_eq_true.1 hu r hr'
     cases r<;>first | rfl | (simp [RV.isU8] at this)
  simp only [J6] at h
  split at h
  · rename_i s xs e1
    rw [e1] at hx
    obtain ⟨rfl,hu,hk⟩:=h
    have hv:=hx.valI
    generalize hev:a.eval x'=u at *
    cases hv with
    | list0 _ A c=>exact fin [] A 0 c rfl (.inl ⟨rfl,rfl⟩) hu hk
    | list _ _ b o c f h0 hsz hcap hb hc hxs hr=>
     refine fin xs _ _ c rfl (.inr ⟨b,o,f,rfl,rfl,fun j hj=>hc j (by omega),fun j hj=>?_⟩) hu hk
     have:=hr j 0 hj (by omega)
     have hcl:(xs.getD j .nilptr).cells.getD 0 .nilptr=xs.getD j .nilptr:=by
      have hm:=List.all_eq_true.1 hu _ (List.getElem_mem hj)
      have e2:xs.getD j .nilptr=xs[j]:=by simp [List.getD_eq_getElem?_getD,List.getElem?_eq_getElem hj]
      rw [e2]
      revert hm
      generalize xs[j]=r
      intro hm
      cases r<;>first | rfl | (simp [RV.isU8] at hm)
     rw [hcl] at this
     simpa using this
  · rename_i s e1
    rw [e1] at hx
    exact fin [] none 0 0 hx.empI (.inl ⟨rfl,rfl⟩) rfl h
  · rename_i id e1
    rw [e1] at hx
    split at h
    · rename_i E s xs hm
      obtain ⟨rfl,hu,hk⟩:=h
      obtain ⟨vs,g1,g2,g3,g4⟩:=hI.mem.row id E 1 xs hm
      have hcl:∀ j,j < xs.length→(xs.getD j .nilptr).cells.getD 0 .nilptr=xs.getD j .nilptr:=fun j hj=>by
       have hm:=List.all_eq_true.1 hu _ (List.getElem_mem hj)
       have e2:xs.getD j .nilptr=xs[j]:=by simp [List.getD_eq_getElem?_getD,List.getElem?_eq_getElem hj]
       rw [e2]
       revert hm
       generalize xs[j]=r
       intro hm
       cases r<;>first | rfl | (simp [RV.isU8] at hm)
      rcases g1.2 with ⟨hv,hn⟩ | ⟨g,cap,cur,hv,_⟩
      · exact fin xs none 0 0 (by rw [hx.ownI,hv]) (.inl ⟨List.eq_nil_of_length_eq_zero hn,rfl⟩) hu hk
      · have hcells:=g1.cells (g:=g) (by rw [hv];rfl)
        refine fin xs _ _ cap (by rw [hx.ownI,hv]) (.inr ⟨g,0,fun j=>vs.getD j undef,rfl,rfl,fun j hj=>?_,fun j hj=>?_⟩) hu hk
        · have hlt:j < vs.length:=by rw [g1.1];omega
          have:=hcells j (vs.getD j undef) (by simp [List.getD_eq_getElem?_getD,List.getElem?_eq_getElem hlt])
          have hadd:(⟨g,0,none⟩:Addr).add j=⟨g,0+j,none⟩:=by unfold Addr.add;split<;>simp_all
          rwa [hadd] at this
        · have:=g3.2 j 0 hj (by omega)
          rw [hcl j hj] at this
          simpa using this
    · exact h.elim
  · exact h.elim
 | alloc _ | box _ | build _ _ | lit _ _ _ | store _ _ _ | call _ _ | callv _ _ | callr _ _ _ | app _ _ _ _ _ | pan _ | mks _ _ _ _ _ _ | isnil _ _ _ | xop _=>simp [m8] at hc
end
end Go.PW
