/- A call keeps what a frame knows: the theorem. -/
import Derived.Test.YtfoapolbgpjfaaaGreatDoorPWh
set_option linter.unusedSectionVars false
set_option linter.unusedSimpArgs false
set_option linter.unusedVariables false
namespace Go.PW
variable [GF]
open Go.RowKit
theorem PV.shiftL_map (b:Nat) (ps:List PV):PV.shiftL b ps=ps.map (PV.shift b):=by
 induction ps with
 | nil=>rfl
 | cons p ps ih=>simp [PV.shiftL,ih]
theorem PV.shiftL_length (b:Nat) (ps:List PV):(PV.shiftL b ps).length=ps.length:=by simp [PV.shiftL_map]
theorem PV.shiftL_getD (b:Nat) (ps:List PV) (i:Nat) (h:i < ps.length):(PV.shiftL b ps).getD i .undef=(ps.getD i .undef).shift b:=by
 simp [PV.shiftL_map,List.getD_eq_getElem?_getD,List.getElem?_map,List.getElem?_eq_getElem h]
theorem PV.ownLtL_getD (n:Nat):∀ (ps:List PV) (i:Nat),PV.ownLtL n ps=true→i < ps.length→(ps.getD i .undef).ownLt n=true
 | [],i,_,h=>by simp at h
 | p :: ps,i,hl,h=>by
  simp [PV.ownLtL] at hl
  cases i with
  | zero=>simpa using hl.1
  | succ i=>simpa using PV.ownLtL_getD n ps i hl.2 (by simpa using h)
theorem RV.flat_go:∀ (cs:List RV),RV.flat.go cs=true→∀ i,i < cs.length→(cs.getD i .nilptr).flat=true
 | [],_,i,h=>by simp at h
 | r :: rs,hg,i,h=>by
  simp [RV.flat.go] at hg
  cases i with
  | zero=>simpa using hg.1
  | succ i=>simpa using RV.flat_go rs hg.2 i (by simpa using h)
theorem RepR.flat {L L':Nat→Prop} {w w':World} {r:RV} {v:Value} (hf:r.flat=true) (h:RepR L w r v):RepR L' w' r v:=by
 induction h with
 | bool b=>exact .bool b
 | int k n=>exact .int k n
 | str s=>exact .str s
 | agg cs vs hs _ ih=>exact .agg cs vs hs fun i hi=>ih i hi (RV.flat_go cs (by simpa [RV.flat] using hf) i hi)
 | list0 sz A c=>exact .list0 sz A c
 | list sz xs b o c f h0 hsz hcap hb hc hx _ ih=>simp [RV.flat] at hf;exact absurd hf h0
 | nilptr=>exact .nilptr
 | nilfn=>exact .nilfn
 | nilif=>exact .nilif
 | ifc t r v _ ih=>exact .ifc t r v (ih (by simpa [RV.flat] using hf))
 | opq v h=>exact .opq v h
theorem RepP.shift {γ γ':Nat→Value} {L L':Nat→Prop} {w:World} {base n:Nat} (hγ:∀ i,i < n→γ' (base+i)=γ i) (hk:Keeps L w L' w) {p:PV} {v:Value} (h:RepP γ L w p v) (ho:p.ownLt n=true):RepP γ' L' w (p.shift base) v:=by
 induction h with
 | undef v=>exact .undef v
 | skip=>exact .skip
 | val r v h=>exact .val r v (h.mono hk)
 | emp s=>exact .emp s
 | own id v h=>exact .own _ v (by rw [h,hγ id (by simpa [PV.ownLt] using ho)])
 | ptr id off b h=>exact .undef _
 | elt id j sz off b n c h=>exact .undef _
 | «at» cells b o f hb h0 hc h=>
  have hpos:=List.length_pos_iff.2 h0
  exact .at cells b o f (hk b _ _ hb (hc 0 hpos)).1 h0 (fun j hj=>(hk b _ _ hb (hc j hj)).2) (fun j hj=>(h j hj).mono hk)
 | agg cs vs hs _ ih=>exact .agg _ vs (by rw [PV.shiftL_length];exact hs) (fun i hi=>by rw [PV.shiftL_length] at hi;rw [PV.shiftL_getD _ _ _ hi];exact ih i hi (PV.ownLtL_getD n cs i (by simpa [PV.ownLt] using ho) hi))
 | tup cs vs hs _ ih=>exact .tup _ vs (by rw [PV.shiftL_length];exact hs) (fun i hi=>by rw [PV.shiftL_length] at hi;rw [PV.shiftL_getD _ _ _ hi];exact ih i hi (PV.ownLtL_getD n cs i (by simpa [PV.ownLt] using ho) hi))
 | fn f cs vs hs _ ih=>exact .fn f _ vs (by rw [PV.shiftL_length];exact hs) (fun i hi=>by rw [PV.shiftL_length] at hi;rw [PV.shiftL_getD _ _ _ hi];exact ih i hi (PV.ownLtL_getD n cs i (by simpa [PV.ownLt] using ho) hi))
mutual
theorem PV.flat_get:∀ (cs:List PV),PV.flat.go cs=true→∀ i,i < cs.length→(cs.getD i .undef).flat=true
 | [],_,i,h=>by simp at h
 | p :: ps,hg,i,h=>by
  have hp:p.flat=true∧PV.flat.go ps=true:=by
   cases p<;>simp [PV.flat.go] at hg<;>simp [PV.flat,hg]
  cases i with
  | zero=>simpa using hp.1
  | succ i=>simpa using PV.flat_get ps hp.2 i (by simpa using h)
end
theorem RepP.shiftFlat {γ γ':Nat→Value} {L L':Nat→Prop} {w w':World} {base n:Nat} (hγ:∀ i,i < n→γ' (base+i)=γ i) {p:PV} {v:Value} (h:RepP γ L w p v) (ho:p.ownLt n=true) (hf:p.flat=true):RepP γ' L' w' (p.shift base) v:=by
 induction h with
 | undef v=>exact .undef v
 | skip=>exact .skip
 | val r v h=>exact .val r v (h.flat (by simpa [PV.flat] using hf))
 | emp s=>exact .emp s
 | own id v h=>exact .own _ v (by rw [h,hγ id (by simpa [PV.ownLt] using ho)])
 | ptr id off b h=>exact .undef _
 | elt id j sz off b n c h=>exact .undef _
 | «at» cells b o f hb h0 hc h=>simp [PV.flat] at hf
 | agg cs vs hs _ ih=>exact .agg _ vs (by rw [PV.shiftL_length];exact hs) (fun i hi=>by rw [PV.shiftL_length] at hi;rw [PV.shiftL_getD _ _ _ hi];exact ih i hi (PV.ownLtL_getD n cs i (by simpa [PV.ownLt] using ho) hi) (PV.flat_get cs (by simpa [PV.flat] using hf) i hi))
 | tup cs vs hs _ ih=>exact .tup _ vs (by rw [PV.shiftL_length];exact hs) (fun i hi=>by rw [PV.shiftL_length] at hi;rw [PV.shiftL_getD _ _ _ hi];exact ih i hi (PV.ownLtL_getD n cs i (by simpa [PV.ownLt] using ho) hi) (PV.flat_get cs (by simpa [PV.flat] using hf) i hi))
 | fn f cs vs hs _ ih=>simp [PV.flat] at hf
theorem a73 (M:Nat→MObj):∀ (rows:List Row) (base i:Nat),base≤i→i < base+rows.length→a00 M base rows i=l7 rows (i - base)
 | [],base,i,h1,h2=>by simp at h2;omega
 | r :: rs,base,i,h1,h2=>by
  by_cases h:i=base
  · subst h
    simp [a00,upd,l7]
  · simp only [a00,l8 _ _ _ _ h]
    rw [a73 M rs (base+1) i (by omega) (by simp at h2;omega)]
    simp only [l7]
    rw [show i - base=(i - (base+1))+1 from by omega]
    simp
theorem a26 (M:Nat→MObj):∀ (rows:List Row) (base i:Nat),¬ (base≤i∧i < base+rows.length)→a00 M base rows i=M i
 | [],base,i,_=>rfl
 | r :: rs,base,i,h=>by
  have hne:i≠base:=fun e=>h ⟨by omega,by simp;omega⟩
  simp only [a00,l8 _ _ _ _ hne]
  exact a26 M rs (base+1) i (fun hh=>h ⟨by omega,by simp;omega⟩)
theorem W0:∀ (ids:List Nat) (bs:List (List RV)) (M:Nat→MObj) (i:Nat),i∉ids→K9 M ids bs i=M i
 | [],bs,M,i,_=>by cases bs<;>rfl
 | id :: ids,[],M,i,_=>rfl
 | id :: ids,b :: bs,M,i,h=>by
  simp only [K9]
  rw [W0 ids bs _ i (fun hh=>h (by simp [hh])),l8 _ _ _ _ (fun e=>h (by simp [e]))]
theorem a0l:∀ (ids:List Nat) (bs:List (List RV)) (M:Nat→MObj) (j:Nat),ids.Nodup→bs.length=ids.length→j < ids.length→K9 M ids bs (ids.getD j 0)=.box ((bs.getD j []).map .val)
 | [],bs,M,j,_,_,hj=>by simp at hj
 | id :: ids,[],M,j,_,hl,_=>by simp at hl
 | id :: ids,b :: bs,M,j,hn,hl,hj=>by
  simp only [K9]
  have hn':=List.nodup_cons.1 hn
  cases j with
  | zero=>
   simp only [List.getD_cons_zero]
   rw [W0 ids bs _ id hn'.1,l9]
  | succ j=>
   simp only [List.getD_cons_succ]
   exact a0l ids bs _ j hn'.2 (by simpa using hl) (by simpa using hj)
section
variable {P:Program} {F:Ctx} {γ:Nat→Value} {st:St} {a:Act} {w:World} {o:Oper} {K:Act→World→Prop} {Q:Exit→Act→World→Prop}
theorem K4 {l:List Nat} {i:Nat} (h:i∈l):∃ j,j < l.length∧l.getD j 0=i:=by
 obtain ⟨j,hj,he⟩:=List.getElem_of_mem h
 exact ⟨j,hj,by simp [List.getD_eq_getElem?_getD,List.getElem?_eq_getElem hj,he]⟩
theorem b06 {ids ms:List Nat} (γ:Nat→Value) (hl:ms.length=ids.length) (hb:∀ j,j < ms.length→Value.blk (γ (ids.getD j 0))=some (ms.getD j 0)) (hn:ids.Nodup)
 (hi:∀ i j b,i∈ids→j∈ids→Value.blk (γ i)=some b→Value.blk (γ j)=some b→i=j):ms.Nodup:=by
 refine List.pairwise_iff_getElem.2 fun i j hi' hj hij he=>?_
 have gi:ms.getD i 0=ms[i]:=by simp [List.getD_eq_getElem?_getD,List.getElem?_eq_getElem hi']
 have gj:ms.getD j 0=ms[j]:=by simp [List.getD_eq_getElem?_getD,List.getElem?_eq_getElem hj]
 have ii:ids.getD i 0=ids[i]'(by omega):=by simp [List.getD_eq_getElem?_getD,List.getElem?_eq_getElem (show i < ids.length by omega)]
 have ij:ids.getD j 0=ids[j]'(by omega):=by simp [List.getD_eq_getElem?_getD,List.getElem?_eq_getElem (show j < ids.length by omega)]
 have h1:=hb i hi'
 have h2:=hb j hj
 rw [gi,ii] at h1
 rw [gj,ij,← he] at h2
 have:=hi _ _ _ (List.getElem_mem _) (List.getElem_mem _) h1 h2
 exact (List.pairwise_iff_getElem.1 hn) i j (by omega) (by omega) hij this
theorem b15 {M:Nat→MObj}:∀ {cs:List PV} {rs:List RV},b3w M cs=some rs→∀ c∈cs,∀ i,c=.own i→∃ E sz xs,M i=.row E sz xs
 | [],_,_,c,hc,_,_=>by simp at hc
 | p :: ps,rs,h,c,hc,i,he=>by
  simp only [b3w] at h
  split at h
  · rename_i r rs' h1 h2
    rcases List.mem_cons.1 hc with rfl | hc'
    · subst he
      simp only [PV.rv?] at h1
      split at h1
      · rename_i E sz xs hm;exact ⟨E,sz,xs,hm⟩
      · cases h1
    · exact b15 h2 c hc' i he
  · cases h
theorem b3p {M:Nat→MObj}:∀ {ps:List PV} {as:List AV},a0z M ps=some as→∀ p∈ps,∀ i∈p.ownIds,∃ E sz xs,M i=.row E sz xs
 | [],_,_,p,hp,_,_=>by simp at hp
 | q :: ps,as,h,p,hp,i,hi=>by
  simp only [a0z] at h
  split at h
  · rename_i av as' h1 h2
    rcases List.mem_cons.1 hp with rfl | hp'
    · cases p with
      | own id=>
       simp only [PV.ownIds,List.mem_singleton] at hi
       subst hi
       simp only [avOf] at h1
       split at h1
       · rename_i E sz xs hm;exact ⟨E,sz,xs,hm⟩
       · cases h1
      | agg cs=>
       simp [avOf] at h1
       obtain ⟨rs,h1,_⟩:=h1
       simp only [PV.ownIds,List.mem_filterMap] at hi
       obtain ⟨c,hc,he⟩:=hi
       cases c<;>simp at he
       subst he
       exact b15 h1 _ hc _ rfl
      | _=>simp [PV.ownIds] at hi
    · exact b3p h2 p hp' i hi
  · cases h
def a7p (F:Ctx) (a:Act) (K:PV→St→Prop) (kx:RV→St→Prop) (e:Ending) (w':World):Prop:=
 match e with
 | .returned v=>∃ γ' st' q,Inv F γ' st' a w'∧RepP γ' (i8 F.L γ' st'.mem) w' q v∧K q st'
 | .panicked chain=>∃ γ' st' r v,chain=[{ v,recovered:=false }]∧Inv F γ' st' a w'∧RepR (i8 F.L γ' st'.mem) w' r v∧kx r st'
 | .outgrown=>False
theorem b43 {x:RV} {k:Nat} (h:x.flat=true) (hk:k < x.cells.length):(x.cells.getD k .nilptr).flat=true:=by
 cases x with
 | agg cs=>exact RV.flat_go cs (by simpa [RV.flat] using h) k hk
 | _=>
  simp only [RV.cells,List.length_singleton] at hk ⊢
  obtain rfl:k=0:=by omega
  simpa using h
theorem R5 {α:Type} {l:List α} {k:Nat} {d:α} (h:k < l.length):l.getD k d∈l:=by
 simp [List.getD_eq_getElem?_getD,List.getElem?_eq_getElem h]
theorem b6a {L1 L':Nat→Prop} {γ':Nat→Value} {w':World} {bs:List (List RV)} {ms:List Nat} {j b i:Nat} (hbx:a2c L1 w' bs ms) (hj:j < ms.length) (hb:ms.getD j 0=b)
 (hconv:∀ r∈bs.getD j [],∀ v,RepR L1 w' r v→RepR L' w' r v) (hB:F.B≤b∨F.wr i b):ObjOK F i L' γ' w' (.pointer (some ⟨b,0,none⟩)) (.box ((bs.getD j []).map .val)):=by
 have hj':j < bs.length:=by rw [hbx.1];exact hj
 have e1:ms[j]?=some b:=by rw [← hb];simp [List.getD_eq_getElem?_getD,List.getElem?_eq_getElem hj]
 have e2:bs[j]?=some (bs.getD j []):=by simp [List.getD_eq_getElem?_getD,List.getElem?_eq_getElem hj']
 obtain ⟨arr,T,h1,h2,h3⟩:=hbx.2 j b _ e1 e2
 refine ⟨b,arr,T,rfl,h1,by simpa using h2,hB,fun k hk=>?_⟩
 simp only [List.length_map] at hk
 rw [Q4 _ _ hk]
 exact ⟨.val _ _ (hconv _ (R5 hk) _ (h3 k hk).1),(h3 k hk).2⟩
theorem Inv.gblk (hI:Inv F γ st a w):a9l (i8 F.L γ st.mem) w:=fun g hg=>by
 obtain ⟨h1,h2⟩:=hI.fr.hgb g hg
 have hlt:g.1 < F.B:=(Array.getElem?_eq_some_iff.1 h2).1
 have hp:¬ F.wx g.1:=fun h=>h1 (hI.fr.hpb _ h)
 refine ⟨fun hb=>?_,(hI.fr.block g.1 hlt hp).trans h2⟩
 rcases hb with hb | ⟨id,hid,hblk⟩
 · exact h1 hb
 · rcases (y7 (hI.mem.obj _) hid hblk).2 with h | h
   · omega
   · exact hp h.x
theorem b3c {f d:Nat} {ps:List PV} {vs:List Value} {K':PV→St→Prop} {kx:RV→St→Prop} (hI:Inv F γ st a w) (hl:vs.length=ps.length)
 (hr:∀ j,j < ps.length→RepP γ (i8 F.L γ st.mem) w (ps.getD j .undef) (vs.getD j undef)) (h:a4z P st d f ps K' kx):Calls P f vs.toArray w (a7p F a K' kx):=by
 unfold a4z at h
 split at h
 · exact h.elim
 · rename_i as has
   obtain ⟨hnd,hlt,out,bs,hok,hbl,h⟩:=h
   let ids:=ps.flatMap PV.ownIds
   have hids:∀ p∈ps,∀ i∈p.ownIds,i∈ids:=fun p hp i hi=>List.mem_flatMap.2 ⟨p,hp,hi⟩
   have hrow:∀ i∈ids,∃ E sz xs,st.mem i=.row E sz xs:=fun i hi=>by
    obtain ⟨p,hp,hi⟩:=List.mem_flatMap.1 hi
    exact b3p has p hp i hi
   obtain ⟨ms,hargs,hml,hmb⟩:=b1t hI hrow has hids vs hl hr
   have hmn:ms.Nodup:=b06 γ hml (fun j hj=>(hmb j hj).1) hnd (fun i j b hi hj h1 h2=>by
    obtain ⟨i',hi',rfl⟩:=K4 hi
    obtain ⟨j',hj',rfl⟩:=K4 hj
    obtain ⟨_,c1,e1⟩:=hmb i' (by omega)
    obtain ⟨_,c2,e2⟩:=hmb j' (by omega)
    exact hI.mem.inj _ _ b (by rw [e1];rfl) (by rw [e2];rfl) h1 h2)
   have hms:∀ b∈ms,i8 F.L γ st.mem b∧(F.B≤b∨F.wx b)∧∃ i∈boxIds ps,Value.blk (γ i)=some b:=fun b hb=>by
    obtain ⟨j,hj,rfl⟩:=K4 hb
    obtain ⟨h1,cs,h2⟩:=hmb j hj
    have hm:(boxIds ps).getD j 0∈boxIds ps:=by
     have:j < (boxIds ps).length:=by omega
     simp [List.getD_eq_getElem?_getD,List.getElem?_eq_getElem this]
    exact ⟨.inr ⟨_,by rw [h2];rfl,h1⟩,(y7 (hI.mem.obj _) (by rw [h2];rfl) h1).2.imp id Ctx.wr.x,_,hm,h1⟩
   refine (hok (Lc F γ st.mem ids) w vs ms (fun b hb=>hI.live_lt hb.1) (hI.gl.keep (Z5 ids)) (fun g hg=>⟨fun hb=>(hI.gblk g hg).1 hb.1,(hI.gblk g hg).2⟩) hargs hmn).mono fun e w' ⟨hout,hend⟩=>?_
   have hfr:Frame0 F w':=⟨hout.os.trans hI.fr.os,hout.tape.trans hI.fr.tape,hout.output.trans hI.fr.output,Nat.le_trans hI.fr.size hout.size,
    fun k hk hp=>(hout.block k (Nat.lt_of_lt_of_le hk hI.fr.size) (fun hm=>by
     rcases (hms k hm).2.1 with h1 | h1
     · omega
     · exact hp h1)).trans (hI.fr.block k hk hp),hI.fr.hL,hI.fr.hpb,hI.fr.hn,hI.fr.hgb,hI.fr.hpo,hI.fr.hpn⟩
   have hcell:∀ b o v,b∉ms→w.cell? ⟨b,o,none⟩=some v→w'.cell? ⟨b,o,none⟩=some v:=fun b o v hb hc=>by
    have hlt:b < w.heap.size:=World.block_lt_of_cell? w _ hc
    rw [World.cell?_of_block (w:=w) (w':=w') (a:=⟨b,o,none⟩) (hout.block b hlt hb)]
    exact hc
   have hold:∀ i b,i∉boxIds ps→(st.mem i).live=true→Value.blk (γ i)=some b→w'.heap[b]?=w.heap[b]?:=fun i b hi hl' hb=>by
    refine hout.block b (y7 (hI.mem.obj i) hl' hb).1 fun hm=>?_
    obtain ⟨_,_,i',hi',hb'⟩:=hms b hm
    obtain ⟨j',hj',rfl⟩:=K4 hi'
    obtain ⟨_,c2,e2⟩:=hmb j' (by omega)
    have:=hI.mem.inj _ _ b hl' (by rw [e2];rfl) hb hb'
    exact hi (this ▸ hi')
   cases out with
   | pan r=>
    obtain ⟨v,rfl,hrep,hbx⟩:=hend
    obtain ⟨hfl,hbfl,hkx⟩:=h
    have hlv:∀ b,i8 F.L γ (K9 st.mem (boxIds ps) bs) b↔i8 F.L γ st.mem b:=fun b=>by
     have hone:∀ i,((K9 st.mem (boxIds ps) bs) i).live=(st.mem i).live:=fun i=>by
      by_cases hi:i∈boxIds ps
      · obtain ⟨j,hj,rfl⟩:=K4 hi
        rw [a0l _ _ _ j hnd hbl hj]
        obtain ⟨_,c,e⟩:=hmb j (by omega)
        rw [e];rfl
      · rw [W0 _ _ _ _ hi]
     simp only [i8,hone]
    have hk:Keeps (i8 F.L γ st.mem) w (i8 F.L γ (K9 st.mem (boxIds ps) bs)) w':=fun b o v hb hc=>⟨fun h=>hb ((hlv b).1 h),hcell b o v (fun hm=>hb (hms b hm).1) hc⟩
    have hI':Inv F γ { env:=fun x=>(st.env x).kill fun _=>false,mem:=K9 st.mem (boxIds ps) bs } a w':=by
     refine hI.change (fun _=>false) (fun i=>decide (i∈boxIds ps)) (fun i _=>.inl rfl) (fun _ _ _=>rfl) (fun i _ hi=>?_) hk (fun i b _ hi hl' hb=>hold i b (by simpa using hi) hl' hb) (fun i hi=>?_)
      (fun id id' b h1 h2 h3 h4=>?_) hfr (fun i cs hi h9 hm=>?_) (fun v' _ hi E' sz' xs' hm=>?_) (fun i v' hv hi hl=>by
      have hi:i∈boxIds ps:=by simpa using hi
      obtain ⟨j,hj,rfl⟩:=K4 hi
      obtain ⟨h1,c,e⟩:=hmb j (by omega)
      exact ⟨rfl,by rw [e];rfl⟩)
     · rw [W0 _ _ _ _ (by simpa using hi)]
       exact (MObj.kill_none _).symm
     · have hi:i∈boxIds ps:=by simpa using hi
       obtain ⟨j,hj,rfl⟩:=K4 hi
       rw [a0l _ _ _ j hnd hbl hj]
       obtain ⟨h1,c,e⟩:=hmb j (by omega)
       obtain ⟨b,arr,T,g1,g2,g3,g4,g5⟩:=hI.mem.box _ c e
       rw [g1] at h1
       simp only [Value.blk,Option.some.injEq] at h1
       rw [g1]
       exact b6a hbx (by omega) h1.symm (fun r hr v hv=>hv.flat (hbfl _ (R5 (show j < bs.length by omega)) r hr)) g4
     · have hone:∀ i,((K9 st.mem (boxIds ps) bs) i).live=true→(st.mem i).live=true:=fun i hi=>by
        by_cases h':i∈boxIds ps
        · obtain ⟨j,hj,rfl⟩:=K4 h'
          obtain ⟨_,c,e⟩:=hmb j (by omega)
          rw [e];rfl
        · rwa [W0 _ _ _ _ h'] at hi
       exact hI.mem.inj id id' b (hone _ h1) (hone _ h2) h3 h4
     · have hi:i∈boxIds ps:=by simpa using hi
       obtain ⟨j,hj,rfl⟩:=K4 hi
       obtain ⟨h1,c,e⟩:=hmb j (by omega)
       exact ⟨rfl,c,e⟩
     · have hi:900∈boxIds ps:=by simpa using hi
       obtain ⟨j,hj,hj9⟩:=K4 hi
       have:=a0l _ bs st.mem j hnd hbl hj
       rw [hj9,hm] at this
       cases this
    simp only [PV.kill_none] at hI'
    exact ⟨γ,_,r,v,rfl,hI',hrep.flat hfl,hkx⟩
   | ret p rows=>
    obtain ⟨v,γo,rfl,hrep,hmo,hbx⟩:=hend
    obtain ⟨hown,hshare,hK⟩:=h
    let rg:Nat→Bool:=fun i=>l1 d≤i && i < l1 d+rows.length
    let γ':Nat→Value:=fun i=>if rg i then γo (i - l1 d) else γ i
    let M':=a00 (K9 (st.kill rg).mem (boxIds ps) bs) (l1 d) rows
    have hrg:∀ i,rg i=true↔l1 d≤i∧i < l1 d+rows.length:=fun i=>by simp [rg]
    have hbr:∀ i∈boxIds ps,rg i=false:=fun i hi=>by
     have:=List.all_eq_true.1 hlt i hi
     simp only [decide_eq_true_eq] at this
     cases h:rg i with
     | false=>rfl
     | true=>have:=(hrg i).1 h;omega
    have hMin:∀ i,rg i=true→M' i=l7 rows (i - l1 d):=fun i hi=>a73 _ _ _ _ ((hrg i).1 hi).1 ((hrg i).1 hi).2
    have hMbox:∀ j,j < (boxIds ps).length→M' ((boxIds ps).getD j 0)=.box ((bs.getD j []).map .val):=fun j hj=>by
     have hm:(boxIds ps).getD j 0∈boxIds ps:=by simp [List.getD_eq_getElem?_getD,List.getElem?_eq_getElem hj]
     have:=hbr _ hm
     rw [show M' ((boxIds ps).getD j 0)=K9 (st.kill rg).mem (boxIds ps) bs ((boxIds ps).getD j 0) from a26 _ _ _ _ (fun h=>by rw [(hrg _).2 h] at this;cases this)]
     exact a0l _ _ _ j hnd hbl hj
    have hMold:∀ i,rg i=false→i∉boxIds ps→M' i=(st.mem i).kill rg:=fun i hi hb=>by
     rw [show M' i=K9 (st.kill rg).mem (boxIds ps) bs i from a26 _ _ _ _ (fun h=>by rw [(hrg _).2 h] at hi;cases hi),W0 _ _ _ _ hb]
     simp [St.kill,hi]
    have hγin:∀ i,i < rows.length→γ' (l1 d+i)=γo i:=fun i hi=>by
     have:rg (l1 d+i)=true:=(hrg _).2 ⟨by omega,by omega⟩
     simp [γ',this]
    have hnewblk:∀ i b,rg i=true→(M' i).live=true→Value.blk (γ' i)=some b→w.heap.size≤b∧b < w'.heap.size∧(l7 rows (i - l1 d)).live=true∧Value.blk (γo (i - l1 d))=some b:=fun i b hi hl' hb=>by
     have hg:γ' i=γo (i - l1 d):=by simp [γ',hi]
     rw [hg] at hb
     rw [hMin i hi] at hl'
     have:=y7 (hmo.obj (i - l1 d)) hl' hb
     refine ⟨?_,this.1,hl',hb⟩
     rcases this.2 with h1 | h1
     · exact h1
     · simp [Ctx.wr] at h1
    have hlv:∀ b,i8 F.L γ' M' b→i8 (i8 F.L γ st.mem) γo (l7 rows) b:=fun b hb=>by
     rcases hb with h1 | ⟨i,h1,h2⟩
     · exact .inl (.inl h1)
     · cases hi:rg i with
       | true=>
        obtain ⟨_,_,h3,h4⟩:=hnewblk i b hi h1 h2
        exact .inr ⟨_,h3,h4⟩
       | false=>
        have hg:γ' i=γ i:=by simp [γ',hi]
        rw [hg] at h2
        by_cases hb':i∈boxIds ps
        · obtain ⟨j,hj,rfl⟩:=K4 hb'
          obtain ⟨_,c,e⟩:=hmb j (by omega)
          exact .inl (.inr ⟨_,by rw [e];rfl,h2⟩)
        · rw [hMold i hi hb',L5] at h1
          exact .inl (.inr ⟨i,h1,h2⟩)
    have hk:Keeps (i8 F.L γ st.mem) w (i8 F.L γ' M') w':=fun b o v hb hc=>by
     refine ⟨fun h=>?_,hcell b o v (fun hm=>hb (hms b hm).1) hc⟩
     have hlt':b < w.heap.size:=World.block_lt_of_cell? w _ hc
     rcases hlv b h with h1 | ⟨i,h1,h2⟩
     · exact hb h1
     · have:=y7 (hmo.obj i) h1 h2
       rcases this.2 with h3 | h3
       · exact absurd hlt' (Nat.not_lt.2 h3)
       · simp [Ctx.wr] at h3
    have hconv:∀ (r:RV),(ps.all PV.noOwn=true∨r.flat=true)→∀ u,RepR (i8 (Lc F γ st.mem ids) γo (l7 rows)) w' r u→RepR (i8 F.L γ' M') w' r u:=fun r hr u hu=>by
     rcases hr with hr | hr
     · refine hu.mono fun b o x hb hc=>⟨fun h=>hb ?_,hc⟩
       have hids0:ids=[]:=List.flatMap_eq_nil_iff.2 fun p hp=>a52 (List.all_eq_true.1 hr p hp)
       rcases hlv b h with h1 | h1
       · exact .inl ⟨h1,fun i hi=>by rw [hids0] at hi;cases hi⟩
       · exact .inr h1
     · exact hu.flat hr
    have hI':Inv F γ' { env:=fun x=>(st.env x).kill rg,mem:=M' } a w':=by
     refine hI.change rg (fun i=>decide (i∈boxIds ps)) (fun i hi=>.inl (by simp [γ',hi])) (fun i _ hi=>by simp [γ',hi]) (fun i hi hb=>hMold i hi (by simpa using hb)) hk (fun i b _ hi hl' hb=>hold i b (by simpa using hi) hl' hb) (fun i hi=>?_)
      (fun id id' b h1 h2 h3 h4=>?_) hfr (fun i cs hi h9 hm=>?_) (fun v' _ hi E' sz' xs' hm=>?_) (fun i v' hv hi hl=>by
      have h9:=hI.fr.hpn i v' hv
      cases hr':rg i with
      | true=>have:=((hrg i).1 hr').1;simp [l1] at this;omega
      | false=>
       have hi:i∈boxIds ps:=by simpa [hr'] using hi
       obtain ⟨j,hj,rfl⟩:=K4 hi
       obtain ⟨h1,c,e⟩:=hmb j (by omega)
       exact ⟨by show (if rg _ then _ else _)=_;rw [hr'];rfl,by rw [e];rfl⟩)
     · cases hr':rg i with
       | true=>
        have hg:γ' i=γo (i - l1 d):=by simp [γ',hr']
        rw [hMin i hr',hg]
        have hob:=hmo.obj (i - l1 d)
        cases hm:l7 rows (i - l1 d) with
        | dead=>trivial
        | box cs=>unfold l7 at hm;split at hm<;>cases hm
        | prow E sz n c=>unfold l7 at hm;split at hm<;>cases hm
        | map s clk m=>unfold l7 at hm;split at hm<;>cases hm
        | row E sz xs=>
         rw [hm] at hob
         obtain ⟨us,g1,g2,g3,g4⟩:=hob
         have hflx:ps.all PV.noOwn=true∨∀ x∈xs,x.flat=true:=by
          rcases hshare with h1 | ⟨_,h1,_⟩
          · exact .inl h1
          · refine .inr fun x hx=>?_
            unfold l7 at hm
            split at hm
            · rename_i rw' hrw
              cases hm
              exact h1 rw' (List.mem_of_getElem? hrw) x hx
            · cases hm
         refine ⟨us,⟨g1.1,?_⟩,g2,⟨g3.1,fun i' k hi' hk'=>hconv _ ?_ _ (g3.2 i' k hi' hk')⟩,g4⟩
         · rcases g1.2 with hn | ⟨g,cap,cur,he,hg',rest⟩
           · exact .inl hn
           · exact .inr ⟨g,cap,cur,he,.inl (Nat.le_trans hI.fr.size (Ctx.rok.own hg' (.inr rfl) rfl)),rest⟩
         · rcases hflx with h1 | h1
           · exact .inl h1
           · refine .inr ?_
             have hx:xs.getD i' .nilptr=xs[i']:=by simp [List.getD_eq_getElem?_getD,List.getElem?_eq_getElem hi']
             have hxf:=h1 _ (List.getElem_mem hi')
             rw [hx]
             have hcl:=g3.1 _ (List.getElem_mem hi')
             exact b43 hxf (by omega)
       | false=>
        have hi:i∈boxIds ps:=by simpa [hr'] using hi
        obtain ⟨j,hj,rfl⟩:=K4 hi
        rw [hMbox j hj]
        obtain ⟨h1,c,e⟩:=hmb j (by omega)
        obtain ⟨b,arr,T,g1,g2,g3,g4,g5⟩:=hI.mem.box _ c e
        rw [g1] at h1
        simp only [Value.blk,Option.some.injEq] at h1
        have hg:γ' ((boxIds ps).getD j 0)=γ ((boxIds ps).getD j 0):=by
         show (if rg _ then _ else _)=_
         rw [hr'];rfl
        rw [hg,g1]
        refine b6a hbx (by omega) h1.symm (fun r hr v hv=>hconv r ?_ v hv) g4
        rcases hshare with h1 | ⟨_,_,h1⟩
        · exact .inl h1
        · exact .inr (h1 _ (R5 (show j < bs.length by omega)) r hr)
     · have hone:∀ i b,rg i=false→(M' i).live=true→Value.blk (γ' i)=some b→(st.mem i).live=true∧Value.blk (γ i)=some b:=fun i b hi h h'=>by
        have hg:γ' i=γ i:=by simp [γ',hi]
        rw [hg] at h'
        by_cases hb':i∈boxIds ps
        · obtain ⟨j,hj,rfl⟩:=K4 hb'
          obtain ⟨_,c,e⟩:=hmb j (by omega)
          exact ⟨by rw [e];rfl,h'⟩
        · rw [hMold i hi hb',L5] at h
          exact ⟨h,h'⟩
       cases e1:rg id with
       | true=>
        obtain ⟨g1,g2,g3,g4⟩:=hnewblk id b e1 h1 h3
        cases e2:rg id' with
        | true=>
         obtain ⟨k1,k2,k3,k4⟩:=hnewblk id' b e2 h2 h4
         have:=hmo.inj _ _ b g3 k3 g4 k4
         have r1:=(hrg id).1 e1
         have r2:=(hrg id').1 e2
         omega
        | false=>
         obtain ⟨k1,k2⟩:=hone id' b e2 h2 h4
         have:=(y7 (hI.mem.obj id') k1 k2).1
         omega
       | false=>
        obtain ⟨g1,g2⟩:=hone id b e1 h1 h3
        cases e2:rg id' with
        | true=>
         obtain ⟨k1,k2,k3,k4⟩:=hnewblk id' b e2 h2 h4
         have:=(y7 (hI.mem.obj id) g1 g2).1
         omega
        | false=>
         obtain ⟨k1,k2⟩:=hone id' b e2 h2 h4
         exact hI.mem.inj id id' b g1 k1 g2 k2
     · cases hr':rg i with
       | true=>
        rw [hMin i hr'] at hm
        unfold l7 at hm
        split at hm<;>cases hm
       | false=>
        have hi:i∈boxIds ps:=by simpa [hr'] using hi
        obtain ⟨j,hj,rfl⟩:=K4 hi
        obtain ⟨h1,c,e⟩:=hmb j (by omega)
        have hg:γ' ((boxIds ps).getD j 0)=γ ((boxIds ps).getD j 0):=by
         show (if rg _ then _ else _)=_
         rw [hr'];rfl
        exact ⟨hg,c,e⟩
     · have h9:rg 900=false:=by
        cases h:rg 900 with
        | false=>rfl
        | true=>have:=((hrg _).1 h).1;simp [l1] at this;omega
       have hi:900∈boxIds ps:=by simpa [h9] using hi
       obtain ⟨j,hj,hj9⟩:=K4 hi
       have:=hMbox j hj
       rw [hj9,hm] at this
       cases this
    refine ⟨γ',_,p.shift (l1 d),hI',?_,hK⟩
    rcases hshare with h1 | ⟨h1,_,_⟩
    · refine hrep.shift hγin (fun b o x hb hc=>⟨fun h=>hb ?_,hc⟩) hown
      have hids0:ids=[]:=List.flatMap_eq_nil_iff.2 fun p hp=>a52 (List.all_eq_true.1 h1 p hp)
      rcases hlv b h with h2 | h2
      · exact .inl ⟨h2,fun i hi=>by rw [hids0] at hi;cases hi⟩
      · exact .inr h2
    · exact hrep.shiftFlat hγin hown h1
theorem ObjOK.hand {F:Ctx} {L:Nat→Prop} {M:Nat→MObj} {ι:Nat→Nat} {i:Nat} {L':Nat→Prop} {v:Value} (hl:(M i).live=true) (hv:v=γ (ι i)) (hk:Keeps L w L' w) (h:ObjOK F (ι i) L γ w v ((M i).ren ι)) :
 ObjOK (hand L w (fun i=>γ (ι i)) M) i L' (fun i=>γ (ι i)) w v (M i):=by
 have hwr:∀ b,Value.blk v=some b→(PW.hand L w (fun i=>γ (ι i)) M).po i=some b:=fun b hb=>by
  show (if (M i).live=true then Value.blk (γ (ι i)) else none)=some b
  rw [if_pos hl,← hv];exact hb
 have hrow:∀ E sz n vs,w.rowAt (F.rok (ι i)) E sz v n vs→w.rowAt ((PW.hand L w (fun i=>γ (ι i)) M).rok i) E sz v n vs:=fun E sz n vs h1=>h1.mono (fun b hb _=>.inr (.inr (hwr b hb))) (fun _ _=>rfl)
 cases hm:M i with
 | dead=>trivial
 | box cs=>
  rw [hm] at h
  obtain ⟨b,arr,T,h1,h2,h3,h4,h5⟩:=h
  rw [PV.renL_length] at h3 h5
  exact ⟨b,arr,T,h1,h2,h3,.inr (.inr (hwr b (by rw [h1];rfl))),fun j hj=>⟨((RepP.ren _ (by have:=(h5 j hj).1;rwa [PV.renL_getD _ _ _ hj] at this)).keep hk),(h5 j hj).2⟩⟩
 | row E sz xs=>
  rw [hm] at h
  obtain ⟨vs,h1,h2,h3,h4⟩:=h
  exact ⟨vs,hrow _ _ _ _ h1,h2,⟨h3.1,fun i k hi hk'=>(h3.2 i k hi hk').mono hk⟩,h4⟩
 | prow E sz n c=>
  rw [hm] at h
  obtain ⟨vs,h1,h2,h3⟩:=h
  exact ⟨vs,hrow _ _ _ _ h1,h2,fun j k hj hk'=>⟨(RepP.ren _ (h3 j k hj hk').1).keep hk,(h3 j k hj hk').2⟩⟩
 | map s clk m=>
  rw [hm] at h
  obtain ⟨b,es,h1,h2,h3,h4⟩:=h
  refine ⟨b,es,h1,h2,.inr (.inr (hwr b (by rw [h1];rfl))),⟨h4.key,h4.one,fun e he k hek=>?_,fun k hn=>?_,h4.lt,h4.born⟩⟩
  · obtain ⟨p,g1,g2,g3⟩:=h4.val e he k hek
    cases hmk:m k with
    | none=>rw [hmk] at g1;cases g1
    | some q=>
     rw [hmk] at g1
     simp only [Option.map_some,Option.some.injEq,Prod.mk.injEq] at g1
     obtain ⟨rfl,g1⟩:=g1
     exact ⟨q.1,by rw [← g1],(RepP.ren _ g2).keep hk,g3⟩
  · have:=h4.out k hn
    cases hmk:m k with
    | none=>rfl
    | some q=>rw [hmk] at this;cases this
theorem ObjOK.back {F G:Ctx} {L L':Nat→Prop} {γ':Nat→Value} {ι:Nat→Nat} {i:Nat} {v:Value} {ob:MObj} {w:World} (hγ:∀ i,γ' (ι i)=γ i) (hk:Keeps L w L' w) (hr:ob.kind=2∨ob.kind=3→∀ b,Value.blk v=some b→G.rok i b→F.rok (ι i) b) (hw:∀ b,Value.blk v=some b→(G.B≤b∨G.wr i b)→F.B≤b∨F.wr (ι i) b)
 (h:ObjOK G i L γ w v ob):ObjOK F (ι i) L' γ' w v (ob.ren ι):=by
 cases ob with
 | dead=>trivial
 | box cs=>
  obtain ⟨b,arr,T,h1,h2,h3,h4,h5⟩:=h
  refine ⟨b,arr,T,h1,h2,by rw [PV.renL_length];exact h3,hw b (by rw [h1];rfl) h4,fun j hj=>?_⟩
  rw [PV.renL_length] at hj
  rw [PV.renL_getD _ _ _ hj]
  exact ⟨((h5 j hj).1.renTo hγ).keep hk,(h5 j hj).2⟩
 | row E sz xs=>
  obtain ⟨vs,h1,h2,h3,h4⟩:=h
  exact ⟨vs,h1.mono (hr (.inl rfl)) (fun _ _=>rfl),h2,⟨h3.1,fun i k hi hk'=>(h3.2 i k hi hk').mono hk⟩,h4⟩
 | prow E sz n c=>
  obtain ⟨vs,h1,h2,h3⟩:=h
  exact ⟨vs,h1.mono (hr (.inr rfl)) (fun _ _=>rfl),h2,fun j k hj hk'=>⟨((h3 j k hj hk').1.renTo hγ).keep hk,(h3 j k hj hk').2⟩⟩
 | map s clk m=>
  obtain ⟨b,es,h1,h2,h3,h4⟩:=h
  refine ⟨b,es,h1,h2,hw b (by rw [h1];rfl) h3,⟨h4.key,h4.one,fun e he k hek=>?_,fun k hn=>by rw [h4.out k hn];rfl,h4.lt,h4.born⟩⟩
  obtain ⟨p,g1,g2,g3⟩:=h4.val e he k hek
  exact ⟨p.ren ι,by rw [g1];rfl,(g2.renTo hγ).keep hk,g3⟩
theorem a4x {f d:Nat} {ps:List PV} {vs:List Value} {K':PV→St→Prop} {kx:RV→St→Prop} (hI:Inv F γ st a w) (hl:vs.length=ps.length)
 (hr:∀ j,j < ps.length→RepP γ (i8 F.L γ st.mem) w (ps.getD j .undef) (vs.getD j undef)) (h:a3o P st d f ps K' kx):Calls P f vs.toArray w (a7p F a K' kx):=by
 rcases h with h | ⟨ps0,M,M',pin,out,ι,κ,pn,rfl,k1,k2,hM,hC,hB,hkind,hcall,hK⟩
 · exact b3c hI hl hr h
 let γ0:Nat→Value:=fun i=>γ (ι i)
 let L0:Nat→Prop:=i8 F.L γ st.mem
 have hlive:∀ i,(M i).live=true→(st.mem (ι i)).live=true:=fun i h=>by
  rw [hM i h];cases hh:M i<;>first | rfl | (rw [hh] at h;cases h)
 have hown:∀ b,b9n γ0 M b→L0 b:=fun b ⟨i,h1,h2⟩=>.inr ⟨ι i,hlive i h1,h2⟩
 have hLv:∀ b,i8 L0 γ0 M b→L0 b:=fun b hb=>by
  rcases hb with h | h
  · exact h
  · exact hown b h
 have hk0:Keeps L0 w (i8 L0 γ0 M) w:=fun b o v hb hc=>⟨fun h=>hb (hLv b h),hc⟩
 have hιi:∀ i j,ι i=ι j→i=j:=fun i j h=>by
  have:=k1 i;rw [h,k1 j] at this;exact (Option.some.inj this).symm
 have hmem0:MemInv (PW.hand L0 w γ0 M) γ0 M w:=by
  refine MemInv.of_obj (fun i=>?_) (fun i j b h1 h2 h3 h4=>hιi i j (hI.mem.inj _ _ b (hlive i h1) (hlive j h2) h3 h4))
  cases hl:(M i).live with
  | false=>
   cases hm:M i with
   | dead=>trivial
   | _=>rw [hm] at hl;cases hl
  | true=>
   have:=hI.mem.obj (ι i)
   rw [hM i hl] at this
   exact ObjOK.hand hl rfl hk0 this
 refine (hcall L0 w vs γ0 (fun b hb=>hI.live_lt hb) hown hI.gl hI.gblk (by simpa using hl) (fun j hj=>?_) hmem0).mono fun e w' ⟨hout,v,γc,he,hpin,hrep,hmc⟩=>?_
 · have:=hr j (by simpa using hj)
   rw [show (ps0.map (PV.ren ι)).getD j .undef=(ps0.getD j .undef).ren ι from by simp [List.getD_eq_getElem?_getD,List.getElem?_map,List.getElem?_eq_getElem hj]] at this
   exact RepP.ren _ this
 subst he
 let γ':Nat→Value:=fun x=>match κ x with
  | some i=>γc i
  | none=>γ x
 have hγι:∀ i,γ' (ι i)=γc i:=fun i=>by simp only [γ',k1]
 have hγn:∀ x,κ x=none→γ' x=γ x:=fun x h=>by simp only [γ',h]
 let kd:=a1r κ pin
 let M'':=a4p st κ pin ι M'
 have hMn:∀ x,κ x=none→M'' x=(st.mem x).kill kd:=fun x h=>by simp only [M'',a4p,h];rfl
 have hMι:∀ i,M'' (ι i)=(M' i).ren ι:=fun i=>by simp only [M'',a4p,k1]
 have hlr:∀ i,((M' i).ren ι).live=(M' i).live:=fun i=>by cases M' i<;>rfl
 have hnew:∀ i b,(M' i).live=true→Value.blk (γc i)=some b→w.heap.size≤b∨((M i).live=true∧Value.blk (γ (ι i))=some b):=fun i b h1 h2=>by
  have:=(y7 (hmc.obj i) h1 h2).2
  rcases this with h | h | h
  · exact .inl h
  · cases h
  · have h:(if (M i).live=true then Value.blk (γ0 i) else none)=some b:=h
    split at h
    · rename_i hl;exact .inr ⟨hl,h⟩
    · cases h
 have hlv:∀ b,i8 F.L γ' M'' b→i8 L0 γc M' b:=fun b hb=>by
  rcases hb with h | ⟨x,h1,h2⟩
  · exact .inl (.inl h)
  · cases hx:κ x with
    | none=>
     rw [hMn x hx,L5] at h1
     rw [hγn x hx] at h2
     exact .inl (.inr ⟨x,h1,h2⟩)
    | some i=>
     obtain rfl:=k2 x i hx
     rw [hMι,hlr] at h1
     rw [hγι] at h2
     exact .inr ⟨i,h1,h2⟩
 have hlv0:∀ b,b < w.heap.size→i8 F.L γ' M'' b→L0 b:=fun b hb h=>by
  rcases hlv b h with h | ⟨i,h1,h2⟩
  · exact h
  · rcases hnew i b h1 h2 with h | ⟨h3,h4⟩
    · omega
    · exact hown b ⟨i,h3,h4⟩
 have hk:Keeps L0 w (i8 F.L γ' M'') w':=fun b o u hb hc=>by
  have hlt:b < w.heap.size:=World.block_lt_of_cell? w _ hc
  refine ⟨fun h=>hb (hlv0 b hlt h),?_⟩
  rw [World.cell?_of_block (w:=w) (w':=w') (a:=⟨b,o,none⟩) (hout.block b hlt (fun h=>hb (hown b h)))]
  exact hc
 have hkc:Keeps (i8 L0 γc M') w' (i8 F.L γ' M'') w':=fun b o u hb hc=>⟨fun h=>hb (hlv b h),hc⟩
 have hfr:Frame0 F w':=⟨hout.os.trans hI.fr.os,hout.tape.trans hI.fr.tape,hout.output.trans hI.fr.output,Nat.le_trans hI.fr.size hout.size,
  fun k hk hp=>(hout.block k (Nat.lt_of_lt_of_le hk hI.fr.size) (fun ⟨i,h1,h2⟩=>by
   rcases (y7 (hI.mem.obj (ι i)) (hlive i h1) h2).2 with h | h
   · omega
   · exact hp h.x)).trans (hI.fr.block k hk hp),hI.fr.hL,hI.fr.hpb,hI.fr.hn,hI.fr.hgb,hI.fr.hpo,hI.fr.hpn⟩
 have hkd:∀ x i,κ x=some i→kd x=!pin i:=fun x i h=>by simp only [kd,a1r,h]
 have hkn:∀ x,κ x=none→kd x=false:=fun x h=>by simp only [kd,a1r,h]
 let c:Nat→Bool:=fun x=>match κ x with
  | some i=>pin i
  | none=>false
 have hcd:∀ x,(kd x=true∨c x=true)→∃ i,κ x=some i:=fun x h=>by
  cases hx:κ x with
  | none=>
   rw [hkn x hx] at h
   have hc0:c x=false:=by simp only [c,hx]
   rw [hc0] at h;rcases h with h | h<;>cases h
  | some i=>exact ⟨i,rfl⟩
 have hγd:∀ x,kd x=false→γ' x=γ x:=fun x h=>by
  cases hx:κ x with
  | none=>exact hγn x hx
  | some i=>
   rw [hkd x i hx] at h
   have hp:pin i=true:=by simpa using h
   obtain rfl:=k2 x i hx
   rw [hγι,hpin i hp]
 have hI':Inv F γ' { env:=fun x=>(st.env x).kill kd,mem:=M'' } a w':=by
  refine hI.change kd c (fun x h=>.inl (hγd x h)) (fun x _ h=>hγd x h) (fun x h1 h2=>?_) hk (fun x b h1 h2 h3 h4=>?_) (fun x h=>?_) (fun x y b h1 h2 h3 h4=>?_) hfr (fun x cs h h9 hm=>?_) (fun v' hv h E sz xs hm=>?_) (fun x v' hv h hl=>?_)
  · cases hx:κ x with
    | none=>exact hMn x hx
    | some i=>
     rw [hkd x i hx] at h1
     have hc0:c x=pin i:=by simp only [c,hx]
     rw [hc0] at h2
     rw [h2] at h1;cases h1
  · have hx:κ x=none:=by
     cases hx:κ x with
     | none=>rfl
     | some i=>
      rw [hkd x i hx] at h1
      have hc0:c x=pin i:=by simp only [c,hx]
      rw [hc0] at h2
      rw [h2] at h1;cases h1
    refine hout.block b (y7 (hI.mem.obj x) h3 h4).1 fun ⟨i,g1,g2⟩=>?_
    obtain rfl:=hI.mem.inj x (ι i) b h3 (hlive i g1) h4 g2
    rw [k1] at hx;cases hx
  · obtain ⟨i,hx⟩:=hcd x h
    obtain rfl:=k2 x i hx
    rw [hMι,hγι]
    have ho:=hmc.obj i
    cases hl:(M' i).live with
    | false=>
     cases hm:M' i with
     | dead=>trivial
     | _=>rw [hm] at hl;cases hl
    | true=>
     refine ObjOK.back hγι hkc (fun h23 b hb hr=>?_) (fun b hb _=>?_) ho
     · rcases hnew i b hl hb with h | ⟨g1,g2⟩
       · exact .inl (Nat.le_trans hI.fr.size h)
       · have hold:=hI.mem.obj (ι i)
         rw [hM i g1] at hold
         have hk2:=hkind i g1 hl
         rw [hk2] at h23
         cases hm:M i with
         | row E sz xs=>rw [hm] at hold;obtain ⟨us,q1,_⟩:=hold;exact (a3u q1 g2).2
         | prow E sz n c=>rw [hm] at hold;obtain ⟨us,q1,_⟩:=hold;exact (a3u q1 g2).2
         | _=>rw [hm] at h23;simp [MObj.kind] at h23
     · rcases hnew i b hl hb with h | ⟨g1,g2⟩
       · exact .inl (Nat.le_trans hI.fr.size h)
       · exact (y7 (hI.mem.obj (ι i)) (hlive i g1) g2).2
  · have one:∀ x i,κ x=some i→(M'' x).live=true→Value.blk (γ' x)=some b→(M' i).live=true∧Value.blk (γc i)=some b:=fun x i hx g1 g2=>by
     obtain rfl:=k2 x i hx
     rw [hMι,hlr] at g1
     rw [hγι] at g2
     exact ⟨g1,g2⟩
    have two:∀ x,κ x=none→(M'' x).live=true→Value.blk (γ' x)=some b→(st.mem x).live=true∧Value.blk (γ x)=some b:=fun x hx g1 g2=>by
     rw [hMn x hx,L5] at g1
     rw [hγn x hx] at g2
     exact ⟨g1,g2⟩
    have cross:∀ x y i,κ x=some i→κ y=none→(M'' x).live=true→Value.blk (γ' x)=some b→(M'' y).live=true→Value.blk (γ' y)=some b→False:=fun x y i hx hy g1 g2 g3 g4=>by
     obtain ⟨q1,q2⟩:=one x i hx g1 g2
     obtain ⟨q3,q4⟩:=two y hy g3 g4
     rcases hnew i b q1 q2 with h | ⟨h5,h6⟩
     · have:=(y7 (hI.mem.obj y) q3 q4).1;omega
     · obtain rfl:=hI.mem.inj y (ι i) b q3 (hlive i h5) q4 h6
       rw [k1] at hy;cases hy
    cases hx:κ x with
    | none=>
     cases hy:κ y with
     | none=>
      obtain ⟨q1,q2⟩:=two x hx h1 h3
      obtain ⟨q3,q4⟩:=two y hy h2 h4
      exact hI.mem.inj x y b q1 q3 q2 q4
     | some j=>exact (cross y x j hy hx h2 h4 h1 h3).elim
    | some i=>
     cases hy:κ y with
     | none=>exact (cross x y i hx hy h1 h3 h2 h4).elim
     | some j=>
      obtain ⟨q1,q2⟩:=one x i hx h1 h3
      obtain ⟨q3,q4⟩:=one y j hy h2 h4
      have:=hmc.inj i j b q1 q3 q2 q4
      rw [k2 x i hx,k2 y j hy,this]
  · obtain ⟨i,hx⟩:=hcd x h
    obtain rfl:=k2 x i hx
    rw [hMι] at hm
    cases hmi:M' i with
    | box cs'=>
     obtain ⟨hp,hl⟩:=hC i h9 (hB i cs' hmi)
     refine ⟨by rw [hγι,hpin i hp],?_⟩
     have hk2:=hkind i hl (by rw [hmi];rfl)
     rw [hM i hl]
     cases hmm:M i with
     | box cs0=>exact ⟨_,rfl⟩
     | _=>rw [hmm,hmi] at hk2;simp [MObj.kind] at hk2
    | _=>rw [hmi] at hm;cases hm
  · obtain ⟨i,hx⟩:=hcd 900 h
    have e9:=k2 900 i hx
    obtain ⟨hp,hl⟩:=hC i (by omega) (by omega)
    refine ⟨by rw [e9,hγι,hpin i hp],?_⟩
    have hm:M'' 900=.row E sz xs:=hm
    rw [e9,hMι] at hm
    have hl':(M' i).live=true:=by rw [← hlr,hm];rfl
    have hk2:=hkind i hl hl'
    rw [e9,hM i hl]
    cases hmi:M' i with
    | row E' sz' xs'=>
     rw [hmi] at hk2
     cases hmm:M i with
     | row E0 sz0 xs0=>exact ⟨_,_,_,rfl⟩
     | _=>rw [hmm] at hk2;simp [MObj.kind] at hk2
    | _=>rw [hmi] at hm;cases hm
  · obtain ⟨i,hx⟩:=hcd x h
    obtain rfl:=k2 x i hx
    have h9:=hI.fr.hpn _ v' hv
    obtain ⟨hp,hl2⟩:=hC i h9.1 h9.2
    exact ⟨by rw [hγι,hpin i hp],hlive i hl2⟩
 have hrv:=(hrep.renTo hγι).keep hkc
 cases pn with
 | false=>exact ⟨γ',_,_,hI',hrv,hK⟩
 | true=>
  obtain ⟨r,hr,hK⟩:=hK
  rw [hr] at hrv
  exact ⟨γ',_,r,v,rfl,hI',hrv.valI,hK⟩
end
end Go.PW
