/- The machine does what stepE says: stores and appends. -/
import Derived.Test.YtfoapolbgpjfaaaGreatDoorPWk
set_option linter.unusedSectionVars false
set_option linter.unusedSimpArgs false
set_option linter.unusedVariables false
namespace Go.PW
variable [GF]
open Go.RowKit
section
variable {P:Program} {F:Ctx} {γ:Nat→Value} {st:St} {a:Act} {w:World} {o:Oper} {K:Act→World→Prop} {Q:Exit→Act→World→Prop}
theorem a7m {α:Type} {l:List α} {k:Nat} {d:α} (h:k < l.length):l.getD k d=l[k]:=by
 simp [List.getD_eq_getElem?_getD,List.getElem?_eq_getElem h]
theorem a12 (hI:Inv F γ st a w) (id:Nat) (ob:MObj) (w':World) (b:Nat) (hb:Value.blk (γ id)=some b) (hlv:(st.mem id).live=true) (hlv':ob.live=true) (hbx:∀ cs,ob=.box cs→∃ cs',st.mem id=.box cs') (hrx:∀ E sz xs,ob=.row E sz xs→∃ E sz xs,st.mem id=.row E sz xs)
 (hos:w'.os=w.os) (htape:w'.tape=w.tape) (hout:w'.output=w.output) (hsize:w.heap.size≤w'.heap.size) (hother:∀ k,k < w.heap.size→k≠b→w'.heap[k]?=w.heap[k]?)
 (ho:∀ L',(∀ c,L' c→i8 F.L γ st.mem c)→Keeps (i8 F.L γ st.mem) w L' w'→ObjOK F id L' γ w' (γ id) ob):Inv F γ { st with mem:=upd id ob st.mem } a w':=by
 have hBb:=(y7 (hI.mem.obj id) hlv hb).2
 have hlive:∀ c,i8 F.L γ (upd id ob st.mem) c→i8 F.L γ st.mem c:=fun c hc=>by
  rcases hc with h | ⟨i,h1,h2⟩
  · exact .inl h
  · by_cases hi:i=id
    · subst hi;exact .inr ⟨i,hlv,h2⟩
    · rw [l8 _ _ _ _ hi] at h1;exact .inr ⟨i,h1,h2⟩
 have hk:Keeps (i8 F.L γ st.mem) w (i8 F.L γ (upd id ob st.mem)) w':=fun c o v hc hv=>by
  refine ⟨fun h=>hc (hlive c h),?_⟩
  have:c≠b:=fun e=>hc (.inr ⟨id,hlv,by rw [hb,e]⟩)
  rw [World.cell?_of_block (w:=w) (w':=w') (a:=⟨c,o,none⟩) (hother c (World.block_lt_of_cell? w _ hv) this)]
  exact hv
 have:=hI.change (fun _=>false) (fun i=>i == id) (γ':=γ) (M':=upd id ob st.mem) (w':=w') (fun _ _=>.inl rfl) (fun _ _ _=>rfl) (fun i _ hi=>?_) hk (fun i c _ hi hl hc=>?_) (fun i hi=>?_) (fun i j c h1 h2 h3 h4=>?_) ?_ (fun i cs hi h9 hm=>?_) (fun v' _ hi E' sz' xs' hm=>?_) (fun i v' hv hi hl=>⟨rfl,by
  have:i=id:=by simpa using hi
  rw [this];exact hlv⟩)
 · simpa only [PV.kill_none] using this
 · rw [l8 _ _ _ _ (by simpa using hi),MObj.kill_none]
 · refine hother c (y7 (hI.mem.obj i) hl hc).1 fun e=>?_
   have:=hI.mem.inj i id c hl hlv hc (by rw [hb,e])
   simp [this] at hi
 · have:i=id:=by simpa using hi
   subst this
   rw [l9];exact ho _ hlive hk
 · have lv:∀ i,((upd id ob st.mem) i).live=true→(st.mem i).live=true:=fun i h=>by
    by_cases hi:i=id
    · subst hi;exact hlv
    · rwa [l8 _ _ _ _ hi] at h
   exact hI.mem.inj i j c (lv i h1) (lv j h2) h3 h4
 · refine ⟨hos.trans hI.fr.os,htape.trans hI.fr.tape,hout.trans hI.fr.output,Nat.le_trans hI.fr.size hsize,fun k hk hp=>?_,hI.fr.hL,hI.fr.hpb,hI.fr.hn,hI.fr.hgb,hI.fr.hpo,hI.fr.hpn⟩
   refine (hother k (Nat.lt_of_lt_of_le hk hI.fr.size) fun e=>?_).trans (hI.fr.block k hk hp)
   subst e
   rcases hBb with h | h
   · omega
   · exact hp h.x
 · have:i=id:=by simpa using hi
   subst this
   rw [l9] at hm
   exact ⟨rfl,hbx cs hm⟩
 · have:900=id:=by simpa using hi
   subst this
   rw [l9] at hm
   exact ⟨rfl,hrx _ _ _ hm⟩
theorem a5t {t:TypeId} {i:TypeInfo} {n b off:Nat} {arr:Array Value} {T:TypeId} {v:Value} (hi:P.info? t=some i) (hn:i.size=n) (hv:v.cells.size=n) (hb:w.heap[b]?=some (.cells arr T (0,0))) (hfit:off+n≤arr.size)
 (h1:∀ u∈v.cells.toList,u.oneCell'=true):(Instr.storeAt t (.pointer (some ⟨b,off,none⟩)) v).run P w=.ok () (w.setRow b (l0 arr.toList off v.cells.toList).toArray):=by
 have:=run_storeCells_at P b off T v.cells.toList 0 arr w hb (by simp;omega) h1
 unfold Instr.storeAt Instr.sureAddr storeVar
 simp only [Sem.run_bind,Sem.run_pure,Result.andThen_ok,Q7 hi,hn,hv]
 rw [if_neg (by simp)]
 simp only [Sem.run_bind,Sem.run_pure,Result.andThen_ok,this,Nat.add_zero]
 rfl
theorem a1z {vs:Array Value} {n:Nat} (hs:vs.size=n) (h:∀ j,j < n→(vs.getD j undef).oneCell'=true):∀ u∈vs.toList,u.oneCell'=true:=fun u hu=>by
 obtain ⟨j,hj,rfl⟩:=List.getElem_of_mem hu
 have hj':j < vs.size:=by simpa using hj
 have:=h j (by omega)
 simpa [Array.getD_eq_getD_getElem?,Array.getElem?_eq_getElem hj'] using this
theorem b6k (hI:Inv F γ st a w) {t:TypeId} {i:TypeInfo} {n id off:Nat} {cs:List PV} {p:PV} {v:Value} {b:Nat} (hi:P.info? t=some i) (hn:i.size=n) (hg:γ id=.pointer (some ⟨b,0,none⟩)) (hm:st.mem id=.box cs)
 (hp:RepP γ (i8 F.L γ st.mem) w p v) (hs:p.solid st.mem=true) (hc:p.cells.length=n) (hfit:off+p.cells.length≤cs.length) :
 ∃ w',(Instr.storeAt t (.pointer (some ⟨b,off,none⟩)) v).run P w=.ok () w'∧Inv F γ { st with mem:=upd id (.box (l0 cs off p.cells)) st.mem } a w':=by
 obtain ⟨b',arr,T,h1,h2,h3,h4,h5⟩:=hI.mem.box id cs hm
 rw [hg] at h1
 simp only [Value.pointer.injEq,Option.some.injEq,Addr.mk.injEq,and_true] at h1
 subst h1
 obtain ⟨k1,k2⟩:=V1 hI hp hs
 refine ⟨_,a5t hi hn (by omega) h2 (by omega) (a1z k1 fun j hj=>(k2 j hj).2),?_⟩
 refine a12 hI id _ _ b (by rw [hg];rfl) (by rw [hm];rfl) rfl (fun cs e=>by first | exact ⟨_,hm⟩ | cases e) (fun _ _ _ e=>by first | exact ⟨_,_,_,hm⟩ | cases e) rfl rfl rfl (by simp) (fun k _ hk=>setRow_other w b k _ hk) (fun L' _ hk=>?_)
 refine ⟨b,_,T,hg,setRow_heap w b arr _ T _ h2,by rw [List.size_toArray,J7 _ _ _ (by simp;omega),J7 _ _ _ hfit];simpa using h3,h4,fun j hj=>?_⟩
 rw [J7 _ _ _ hfit] at hj
 rw [Z4,V2 _ _ _ _ _ hfit,V2 _ _ _ _ _ (by simp;omega)]
 simp only [Array.length_toList,k1,← Z4]
 split
 · rename_i hh
   have:=k2 (j - off) (by omega)
   exact ⟨this.1.keep hk,this.2⟩
 · exact ⟨(h5 j hj).1.keep hk,(h5 j hj).2⟩
theorem a9p {like:RV} {cs:List RV} (h:cs.length=like.cells.length) (h1:∀ c∈cs,c.one=true):(like.ofCells cs).cells=cs:=by
 cases like with
 | agg _=>rfl
 | _=>
  simp only [RV.cells,List.length_singleton] at h
  obtain ⟨c,rfl⟩:=List.length_eq_one_iff.1 h
  have:=h1 c (by simp)
  simp only [RV.ofCells,List.getD_cons_zero]
  cases c<;>first | rfl | (simp [RV.one] at this)
theorem b76 {L:Nat→Prop} {r:RV} {v:Value} (h:RepR L w r v) (ho:v.oneCell'=true):r.one=true:=by
 cases h<;>first | rfl | (simp [Value.oneCell'] at ho)
theorem b7y {α:Type} (xs:List α) (j i:Nat) (x d:α) (hj:j < xs.length):(xs.set j x).getD i d=if i=j then x else xs.getD i d:=by
 simp only [List.getD_eq_getElem?_getD,List.getElem?_set]
 by_cases h:j=i
 · subst h;simp [hj]
 · simp [h,Ne.symm h]
theorem b6j (hI:Inv F γ st a w) {t:TypeId} {i:TypeInfo} {n id j sz off E b n' c':Nat} {xs:List RV} {p:PV} {rs:List RV} {v:Value} (hi:P.info? t=some i) (hn:i.size=n) (hg:γ id=.slice (some ⟨b,0,none⟩) n' c')
 (hm:st.mem id=.row E sz xs) (hj:j < xs.length) (hp:RepP γ (i8 F.L γ st.mem) w p v) (hs:p.solid st.mem=true) (hc:p.cells.length=n) (hv:o9 p.cells=some rs) (hfit:off+rs.length≤sz) :
 ∃ w',(Instr.storeAt t (.pointer (some ⟨b,j*sz+off,none⟩)) v).run P w=.ok () w'∧Inv F γ { st with mem:=upd id (.row E sz (xs.set j ((xs.getD j .nilptr).ofCells (l0 (xs.getD j .nilptr).cells off rs)))) st.mem } a w':=by
 obtain ⟨vs,h1,h2,h3,h4⟩:=hI.mem.row id E sz xs hm
 rcases h1.2 with ⟨he,h0⟩ | ⟨g,cap,cur,he,hgB,hh,hnc,hcm,hcs,htake⟩
 · omega
 · rw [hg] at he
   simp only [Value.slice.injEq,Option.some.injEq,Addr.mk.injEq,and_true] at he
   obtain ⟨rfl,rfl,rfl⟩:=he
   obtain ⟨k1,k2⟩:=V1 hI hp hs
   obtain ⟨hrl,hrr⟩:=a13 hv (fun k=>v.cells.getD k undef) (fun k hk=>(k2 k hk).1)
   have hle:j*sz+sz≤xs.length*sz:=by
    have:=Nat.mul_le_mul_right sz (show j+1≤xs.length from hj)
    rw [Nat.add_mul] at this;omega
   have hle2:xs.length*sz≤c'*sz:=Nat.mul_le_mul_right _ hnc
   have hcl:(xs.getD j .nilptr).cells.length=sz:=h3.1 _ (R5 hj)
   have hvs:vs.length=xs.length*sz:=h1.1
   have hcur:∀ k,k < xs.length*sz→cur.toList.getD k undef=vs.getD k undef:=fun k hk=>by
    rw [← htake];simp [List.getD_eq_getElem?_getD,List.getElem?_take,hk]
   refine ⟨_,a5t hi hn (by omega) hh (by omega) (a1z k1 fun j hj=>(k2 j hj).2),?_⟩
   refine a12 hI id _ _ b (by rw [hg];rfl) (by rw [hm];rfl) rfl (fun cs e=>by first | exact ⟨_,hm⟩ | cases e) (fun _ _ _ e=>by first | exact ⟨_,_,_,hm⟩ | cases e) rfl rfl rfl (by simp) (fun k _ hk=>setRow_other w b k _ hk) (fun L' _ hk=>?_)
   have hlen2:(l0 cur.toList (j*sz+off) v.cells.toList).length=c'*sz:=by rw [J7 _ _ _ (by simp;omega)];simpa using hcs
   have hread:∀ k,(l0 cur.toList (j*sz+off) v.cells.toList).getD k undef=if j*sz+off≤k∧k < j*sz+off+rs.length then v.cells.getD (k - (j*sz+off)) undef else cur.toList.getD k undef:=fun k=>by
    rw [V2 _ _ _ _ _ (by simp;omega)]
    simp only [Array.length_toList,k1,← hrl,Z4]
   have hone:∀ c∈l0 (xs.getD j .nilptr).cells off rs,c.one=true:=fun c hc=>by
    simp only [l0,List.mem_append] at hc
    have old:∀ c∈(xs.getD j .nilptr).cells,c.one=true:=fun c hc=>by
     obtain ⟨k,hk,rfl⟩:=List.getElem_of_mem hc
     have hr:=h3.2 j k hj (by omega)
     have h5:(xs.getD j .nilptr).cells.getD k .nilptr=(xs.getD j .nilptr).cells[k]:=a7m hk
     rw [h5] at hr
     exact b76 hr (h4 _ (R5 (by rw [hvs];omega)))
    rcases hc with (hc | hc) | hc
    · exact old c (List.mem_of_mem_take hc)
    · obtain ⟨k,hk,rfl⟩:=List.getElem_of_mem hc
      have hr:=hrr k (by omega)
      have h5:rs.getD k .nilptr=rs[k]:=a7m hk
      rw [h5] at hr
      exact b76 hr (k2 k (by omega)).2
    · exact old c (List.mem_of_mem_drop hc)
   have hsl:(l0 (xs.getD j .nilptr).cells off rs).length=sz:=by rw [J7 _ _ _ (by omega)];exact hcl
   have hnew:=a9p (like:=xs.getD j .nilptr) (cs:=l0 (xs.getD j .nilptr).cells off rs) (by omega) hone
   have hrep:∀ i' k,i' < xs.length→k < sz→RepR L' (w.setRow b (l0 cur.toList (j*sz+off) v.cells.toList).toArray) (((xs.set j ((xs.getD j .nilptr).ofCells (l0 (xs.getD j .nilptr).cells off rs))).getD i' .nilptr).cells.getD k .nilptr) ((l0 cur.toList (j*sz+off) v.cells.toList).getD (i'*sz+k) undef) ∧
    ((l0 cur.toList (j*sz+off) v.cells.toList).getD (i'*sz+k) undef).oneCell'=true:=fun i' k hi' hk'=>by
    rw [b7y _ _ _ _ _ hj,hread]
    have hik:i'*sz+k < xs.length*sz:=by
     have:=Nat.mul_le_mul_right sz (show i'+1≤xs.length from hi')
     rw [Nat.add_mul] at this;omega
    by_cases e:i'=j
    · subst e
      rw [if_pos rfl,hnew,V2 _ _ _ _ _ (by omega)]
      by_cases c:off≤k∧k < off+rs.length
      · rw [if_pos c,if_pos (by omega),show i'*sz+k - (i'*sz+off)=k - off from by omega]
        exact ⟨(hrr (k - off) (by omega)).mono hk,(k2 (k - off) (by omega)).2⟩
      · rw [if_neg c,if_neg (by omega),hcur _ hik]
        exact ⟨(h3.2 i' k hi' hk').mono hk,h4 _ (R5 (by rw [hvs];exact hik))⟩
    · rw [if_neg e,if_neg,hcur _ hik]
      · exact ⟨(h3.2 i' k hi' hk').mono hk,h4 _ (R5 (by rw [hvs];exact hik))⟩
      · intro hh
        rcases Nat.lt_or_gt_of_ne e with h' | h'
        · have:=Nat.mul_le_mul_right sz (show i'+1≤j from h')
          rw [Nat.add_mul] at this;omega
        · have:=Nat.mul_le_mul_right sz (show j+1≤i' from h')
          rw [Nat.add_mul] at this;omega
   refine ⟨(l0 cur.toList (j*sz+off) v.cells.toList).take (xs.length*sz),⟨by rw [List.length_take,List.length_set];omega,.inr ⟨b,c',_,by rw [hg,List.length_set],hgB,setRow_heap w b cur _ E _ hh,by rw [List.length_set];exact hnc,hcm,by rw [List.size_toArray];exact hlen2,by rw [List.length_set]⟩⟩,h2,⟨fun x hx=>?_,fun i' k hi' hk'=>?_⟩,fun u hu=>?_⟩
   · rcases List.mem_or_eq_of_mem_set hx with h | h
     · exact h3.1 x h
     · rw [h,hnew];exact hsl
   · rw [List.length_set] at hi'
     have hik:i'*sz+k < xs.length*sz:=by
      have:=Nat.mul_le_mul_right sz (show i'+1≤xs.length from hi')
      rw [Nat.add_mul] at this;omega
     rw [show ((l0 cur.toList (j*sz+off) v.cells.toList).take (xs.length*sz)).getD (i'*sz+k) undef=(l0 cur.toList (j*sz+off) v.cells.toList).getD (i'*sz+k) undef from by simp [List.getD_eq_getElem?_getD,List.getElem?_take,hik]]
     exact (hrep i' k hi' hk').1
   · obtain ⟨q,hq,rfl⟩:=List.getElem_of_mem hu
     have hq':q < xs.length*sz:=by rw [List.length_take] at hq;omega
     have hdm:q / sz < xs.length:=Nat.div_lt_of_lt_mul (by rw [Nat.mul_comm];omega)
     have:=(hrep (q / sz) (q % sz) hdm (Nat.mod_lt _ h2)).2
     rw [show q / sz*sz+q % sz=q from by rw [Nat.mul_comm];exact Nat.div_add_mod q sz] at this
     have hq2:q < (l0 cur.toList (j*sz+off) v.cells.toList).length:=by omega
     simpa [List.getD_eq_getElem?_getD,List.getElem?_eq_getElem hq2] using this
end
end Go.PW
