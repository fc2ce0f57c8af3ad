/- The machine does what stepXO says: rows that hold rows of the frame's own. -/
import Derived.Test.YtfoapolbgpjfaaaGreatDoorPWx
set_option linter.unusedSectionVars false
set_option linter.unusedSimpArgs false
set_option linter.unusedVariables false
namespace Go.PW
variable [GF]
open Go.RowKit
section
variable {P:Program} {F:Ctx} {γ:Nat→Value} {st:St} {a:Act} {w:World} {o:Oper} {K:Act→World→Prop} {Q:Exit→Act→World→Prop}
theorem a71 {t:TypeId} {E sz:Nat} (h:b0v P t E sz=true):P.underlying t=some (.slice E)∧0 < sz∧∃ i v,P.info? E=some i∧i.zero=some v∧i.size=sz∧v.cells.size=sz:=by
 unfold b0v at h
 split at h
 · rename_i e hu
   simp only [Bool.and_eq_true,beq_iff_eq,decide_eq_true_eq] at h
   obtain ⟨⟨rfl,h2⟩,h3⟩:=h
   split at h3
   · rename_i i hi
     simp only [Bool.and_eq_true,beq_iff_eq] at h3
     obtain ⟨h4,h5⟩:=h3
     split at h5
     · rename_i v hv;exact ⟨hu,h2,i,v,hi,hv,h4,by simpa using h5⟩
     · cases h5
   · cases h3
 · cases h
theorem b19 (hI:Inv F γ st a w) {id E sz n:Nat} {c:Nat→Nat→PV} (hm:st.mem id=.prow E sz n c):(∃ A cap,γ id=.slice A n cap∧n≤cap)∧(0 < n→∃ b cap,γ id=.slice (some ⟨b,0,none⟩) n cap):=by
 obtain ⟨vs,h1,_⟩:=hI.mem.prow id E sz n c hm
 rcases h1.2 with ⟨hv,hn⟩ | ⟨g,cap,cur,hv,_,_,hc,_⟩
 · exact ⟨⟨none,0,by rw [hv,hn],by omega⟩,fun h=>by omega⟩
 · exact ⟨⟨_,cap,hv,hc⟩,fun _=>⟨g,cap,hv⟩⟩
theorem b35 {d:Nat} (hdn:d < 900) {E sz:Nat} {x:Opd} {K':PV→St→Prop} {kx:RV→St→Prop} (hI:Inv F γ st a w) (hc:U9 P o (.plit E sz x)=true) (h:l2 st d (.plit E sz x) K') (hA:a1y F a o.dst K' kx K Q):o.wp P a w K Q:=by
 obtain ⟨dst,op,type,pos,after,guard⟩:=o
 cases op<;>simp [U9] at hc
 rename_i t n ps
 obtain ⟨⟨⟨rfl,h2⟩,h3⟩,h4⟩:=hc
 obtain ⟨hu,hsz,i,v,hi,hz,his,hvs⟩:=a71 h3
 split at h4
 · rename_i y hps
   have hy:=j5 hI h4
   obtain ⟨hs,hcl,h⟩:=h
   obtain ⟨k1,k2⟩:=V1 hI hy hs
   let base:Array Value:=(Array.range (1*i.size)).map (v.cells[· % v.cells.size]!)
   have hbs:base.size=sz:=by simp [base,his]
   have hT:=a3i base (a.eval y).cells 0 (by omega)
   let us:Array Value:=(a.eval y).cells.zipIdx.foldl (fun cs (x:Value×Nat)=>cs.setIfInBounds (0+x.2) x.1) base
   have hus:us.toList=(a.eval y).cells.toList:=by
    show ((a.eval y).cells.zipIdx.foldl _ base).toList=_
    rw [hT]
    simp only [l0,List.take_zero,List.nil_append,Nat.zero_add]
    rw [List.drop_eq_nil_of_le (by simp;omega),List.append_nil]
   have hul:us.size=sz:=by rw [← Array.length_toList,hus];simp;omega
   have hI':=hI.alloc d (.cells us E) (.slice (some ⟨w.heap.size,0,none⟩) 1 1) (.prow E sz 1 fun _ k=>((ev st x).cells.getD k .undef).kill (· == d)) rfl (fun γ' L' hγ hd hkk=>by
    refine ⟨us.toList,⟨by simp [hul],.inr ⟨w.heap.size,1,us,rfl,.inl hI.fr.size,heap_alloc_new w _,Nat.le_refl _,by unfold maxLen;omega,by omega,List.take_of_length_le (by simp [hul])⟩⟩,hsz,fun j k hj hk=>?_⟩
    obtain rfl:j=0:=by omega
    have:=k2 k (by omega)
    rw [Z4] at this
    rw [hus,Nat.zero_mul,Nat.zero_add]
    exact ⟨this.1.mono (· == d) hγ hkk,this.2⟩) rfl hdn
   refine k6 (v:=.slice (some ⟨w.heap.size,0,none⟩) 1 1) (w':=w.alloc (.cells us E)) ?_ (hA.1 _ _ _ _ _ hI' (.own d _ (l9 _ _ _).symm) h)
   simp only [execOp]
   refine P7 ?_
   refine a1i hu hi hz (by omega) ?_
   rw [if_neg (by omega)]
   have:(ps.map fun (i,x)=>(i,a.eval x)).toList=[(0,a.eval y)]:=by simp [hps]
   rw [this]
   simp only [Instr.fill]
   rw [if_neg (by simp;omega)]
   simp only [Nat.zero_mul]
   rfl
 · cases h4
theorem b36 {d:Nat} {x:Opd} {K':PV→St→Prop} {kx:RV→St→Prop} (hI:Inv F γ st a w) (hc:U9 P o (.plen x)=true) (h:l2 st d (.plen x) K') (hA:a1y F a o.dst K' kx K Q):o.wp P a w K Q:=by
 obtain ⟨dst,op,type,pos,after,guard⟩:=o
 cases op<;>simp [U9] at hc
 rename_i c
 obtain ⟨callee,args,argTypes⟩:=c
 cases callee<;>try (simp at hc;done)
 rename_i b
 cases b<;>try (simp at hc;done)
 dsimp only at hc
 split at hc
 · rename_i x' t e1 e2
   have ea:args=#[x']:=by apply Array.toList_inj.1;rw [e1]
   have et:argTypes=#[t]:=by apply Array.toList_inj.1;rw [e2]
   subst ea;subst et
   simp only [Bool.and_eq_true] at hc
   obtain ⟨h1,h2⟩:=hc
   obtain ⟨e,hu⟩:∃ e,P.underlying t=some (.slice e):=by
    split at h2
    · rename_i e he;exact ⟨e,he⟩
    · cases h2
   have hx:=j5 hI h1
   simp only [l2] at h
   split at h
   · rename_i id e3
     rw [e3] at hx
     split at h
     · rename_i E sz n cc hm
       obtain ⟨⟨A,cap,hv,_⟩,_⟩:=b19 hI hm
       refine k6 (v:=.int .i64 n) (w':=w) ?_ (hA.1 _ _ _ _ _ hI (S4 _ _) h)
       simp [execOp,resolve,invoke,builtin,Builtin.len_,hx.ownI,hv,run_underlying hu,Builtin.lenOf]
       try rfl
     · exact h.elim
   · exact h.elim
 · cases hc
theorem b00 {d:Nat} {sz:Nat} {x i:Opd} {K':PV→St→Prop} {kx:RV→St→Prop} (hI:Inv F γ st a w) (hc:U9 P o (.piaddr sz x i)=true) (h:l2 st d (.piaddr sz x i) K') (hA:a1y F a o.dst K' kx K Q):o.wp P a w K Q:=by
 obtain ⟨dst,op,type,pos,after,guard⟩:=o
 cases op<;>simp [U9] at hc
 rename_i t x' i'
 obtain ⟨⟨h1,h2⟩,h3⟩:=hc
 obtain ⟨e,inf,ht,hi,hs⟩:∃ e inf,P.underlying t=some (.slice e)∧P.info? e=some inf∧inf.size=sz:=by
  split at h3
  · rename_i e he
    split at h3
    · rename_i inf hi;exact ⟨e,inf,he,hi,by simpa using h3⟩
    · cases h3
  · cases h3
 have hx:=j5 hI h1
 have hj:=j5 hI h2
 simp only [l2] at h
 split at h
 · rename_i id k j e1 e2
   rw [e1] at hx;rw [e2] at hj
   split at h
   · rename_i E s n c hm
     obtain ⟨rfl,h0,hlt,h⟩:=h
     obtain ⟨_,hv⟩:=b19 hI hm
     obtain ⟨b,cap,hv⟩:=hv (by omega)
     refine k6 (v:=.pointer (some ((⟨b,0,none⟩:Addr).add (j.toNat*s)))) (w':=w) ?_ (hA.1 _ _ _ _ _ hI ?_ h)
     · simp only [execOp]
       refine P7 ?_
       rw [hx.ownI,hv,hj.int]
       unfold Instr.indexAt
       simp [asIntOf,run_underlying ht,h0,hlt,Q7 hi,hs]
     · rw [a0q,Nat.zero_add]
       simpa using RepP.elt (γ:=γ) (L:=i8 F.L γ st.mem) (w:=w) id j.toNat s 0 b n cap hv
   · exact h.elim
 · exact h.elim
theorem b31 (hI:Inv F γ st a w) {id E sz n j:Nat} {c:Nat→Nat→PV} (hm:st.mem id=.prow E sz n c) (hj:j < n) :
 ∃ (b cap:Nat) (f:Nat→Value),γ id=.slice (some ⟨b,0,none⟩) n cap∧(∀ k,k < sz→w.cell? ⟨b,j*sz+k,none⟩=some (f k))∧∀ k,k < sz→RepP γ (i8 F.L γ st.mem) w (c j k) (f k):=by
 obtain ⟨vs,h1,h2,h3⟩:=hI.mem.prow id E sz n c hm
 rcases h1.2 with ⟨he,h0⟩ | ⟨g,cap,cur,he,hg,hh,hn,hc,hs,ht⟩
 · omega
 · have hv:=h1.cells (g:=g) (by rw [he];rfl)
   refine ⟨g,cap,fun k=>vs.getD (j*sz+k) undef,he,fun k hk=>?_,fun k hk=>(h3 j k hj hk).1⟩
   have hlt:j*sz+k < vs.length:=by
    rw [h1.1]
    have:=Nat.mul_le_mul_right sz (show j+1≤n from hj)
    rw [Nat.add_mul] at this;omega
   have:=hv (j*sz+k) (vs.getD (j*sz+k) undef) (by simp [List.getD_eq_getElem?_getD,List.getElem?_eq_getElem hlt])
   rwa [a0q,Nat.zero_add] at this
theorem b2a {d:Nat} {agg:Bool} {n:Nat} {x:Opd} {K':PV→St→Prop} {kx:RV→St→Prop} (hI:Inv F γ st a w) (hc:U9 P o (.pload agg n x)=true) (h:l2 st d (.pload agg n x) K') (hA:a1y F a o.dst K' kx K Q):o.wp P a w K Q:=by
 obtain ⟨dst,op,type,pos,after,guard⟩:=o
 cases op<;>simp [U9] at hc
 rename_i t x'
 obtain ⟨⟨⟨h1,h2⟩,h3⟩,h4⟩:=hc
 obtain ⟨i,hi,hn⟩:∃ i,P.info? t=some i∧i.size=n:=by
  split at h2
  · rename_i i hi;exact ⟨i,hi,by simpa using h2⟩
  · cases h2
 have h4:(agg || n == 1)=true:=by simpa using h4
 have hx:=j5 hI h1
 simp only [l2] at h
 split at h
 · rename_i id j s of e
   rw [e] at hx
   obtain ⟨b,n',c',hg,hv⟩:=hx.eltI
   split at h
   · rename_i E sz nn c hm
     obtain ⟨rfl,hj,h0,hb,h⟩:=h
     obtain ⟨b',cap,f,hg',hcell,hr⟩:=b31 hI hm hj
     rw [hg] at hg'
     simp only [Value.slice.injEq,Option.some.injEq,Addr.mk.injEq,and_true] at hg'
     obtain ⟨rfl,_,_⟩:=hg'
     obtain ⟨u,hl,hq⟩:=a1b (γ:=γ) (L:=i8 F.L γ st.mem) (b:=b) (off:=j*s+of) ((List.range n).map fun k=>c j (of+k)) (fun k=>f (of+k)) hi hn h3 h4 h0 (by simp)
      (fun k hk=>by rw [Nat.add_assoc];exact hcell _ (by omega))
      (fun k hk=>by
       have:((List.range n).map fun k=>c j (of+k)).getD k .undef=c j (of+k):=by simp [List.getD_eq_getElem?_getD,List.getElem?_map,List.getElem?_range hk]
       rw [this];exact hr _ (by omega))
     refine k6 (by simp only [execOp];rw [hv];exact P7 hl) (hA.1 _ _ _ _ _ hI ?_ h)
     cases agg with
     | true=>exact hq
     | false=>
      have:((List.range n).map fun k=>c j (of+k)).getD 0 .undef=c j of:=by simp [List.getD_eq_getElem?_getD,List.getElem?_map,List.getElem?_range h0]
      simp only [Bool.false_eq_true,if_false] at hq ⊢
      rw [this] at hq;exact hq
   · exact h.elim
 · exact h.elim
theorem b30 (hI:Inv F γ st a w) {t:TypeId} {i:TypeInfo} {n id j sz off E nn b n' c':Nat} {c:Nat→Nat→PV} {p:PV} {v:Value} (hi:P.info? t=some i) (hn:i.size=n) (hg:γ id=.slice (some ⟨b,0,none⟩) n' c')
 (hm:st.mem id=.prow E sz nn c) (hj:j < nn) (hp:RepP γ (i8 F.L γ st.mem) w p v) (hs:p.solid st.mem=true) (hc:p.cells.length=n) (hfit:off+n≤sz) :
 ∃ w',(Instr.storeAt t (.pointer (some ⟨b,j*sz+off,none⟩)) v).run P w=.ok () w'∧Inv F γ { st with mem:=upd id (.prow E sz nn fun j' k=>if j'=j∧off≤k∧k < off+n then p.cells.getD (k - off) .undef else c j' k) st.mem } a w':=by
 obtain ⟨vs,h1,h2,h3⟩:=hI.mem.prow id E sz nn c hm
 rcases h1.2 with ⟨he,h0⟩ | ⟨g,cap,cur,he,hgB,hh,hnc,hcm,hcs,htake⟩
 · omega
 · rw [hg] at he
   simp only [Value.slice.injEq,Option.some.injEq,Addr.mk.injEq,and_true] at he
   obtain ⟨rfl,rfl,rfl⟩:=he
   obtain ⟨k1,k2⟩:=V1 hI hp hs
   have hle:j*sz+sz≤n'*sz:=by
    have:=Nat.mul_le_mul_right sz (show j+1≤n' from hj)
    rw [Nat.add_mul] at this;omega
   have hle2:n'*sz≤c'*sz:=Nat.mul_le_mul_right _ hnc
   have hvs:vs.length=n'*sz:=h1.1
   have hcur:∀ k,k < n'*sz→cur.toList.getD k undef=vs.getD k undef:=fun k hk=>by
    rw [← htake];simp [List.getD_eq_getElem?_getD,List.getElem?_take,hk]
   refine ⟨_,a5t hi hn (by omega) hh (by omega) (a1z k1 fun j hj=>(k2 j hj).2),?_⟩
   refine a12 hI id _ _ b (by rw [hg];rfl) (by rw [hm];rfl) rfl (fun _ h=>by cases h) (fun _ _ _ h=>by cases h) rfl rfl rfl (by simp) (fun k _ hk=>setRow_other w b k _ hk) (fun L' _ hk=>?_)
   have hlen2:(l0 cur.toList (j*sz+off) v.cells.toList).length=c'*sz:=by rw [J7 _ _ _ (by simp;omega)];simpa using hcs
   have hread:∀ k,(l0 cur.toList (j*sz+off) v.cells.toList).getD k undef=if j*sz+off≤k∧k < j*sz+off+n then v.cells.getD (k - (j*sz+off)) undef else cur.toList.getD k undef:=fun k=>by
    rw [V2 _ _ _ _ _ (by simp;omega)]
    simp only [Array.length_toList,k1,hc,Z4]
   refine ⟨(l0 cur.toList (j*sz+off) v.cells.toList).take (n'*sz),⟨by rw [List.length_take];omega,.inr ⟨b,c',_,hg,hgB,setRow_heap w b cur _ E _ hh,hnc,hcm,by rw [List.size_toArray];exact hlen2,rfl⟩⟩,h2,fun i' k hi' hk'=>?_⟩
   have hik:i'*sz+k < n'*sz:=by
    have:=Nat.mul_le_mul_right sz (show i'+1≤n' from hi')
    rw [Nat.add_mul] at this;omega
   rw [show ((l0 cur.toList (j*sz+off) v.cells.toList).take (n'*sz)).getD (i'*sz+k) undef=(l0 cur.toList (j*sz+off) v.cells.toList).getD (i'*sz+k) undef from by simp [List.getD_eq_getElem?_getD,List.getElem?_take,hik],hread]
   dsimp only
   by_cases e:i'=j
   · subst e
     by_cases cc:off≤k∧k < off+n
     · rw [if_pos ⟨rfl,cc⟩,if_pos (by omega),show i'*sz+k - (i'*sz+off)=k - off from by omega]
       have:=k2 (k - off) (by omega)
       exact ⟨this.1.keep hk,this.2⟩
     · rw [if_neg (fun h=>cc h.2),if_neg (by omega),hcur _ hik]
       exact ⟨(h3 i' k hi' hk').1.keep hk,(h3 i' k hi' hk').2⟩
   · rw [if_neg (fun h=>e h.1),if_neg,hcur _ hik]
     · exact ⟨(h3 i' k hi' hk').1.keep hk,(h3 i' k hi' hk').2⟩
     · intro hh
       rcases Nat.lt_or_gt_of_ne e with h' | h'
       · have:=Nat.mul_le_mul_right sz (show i'+1≤j from h')
         rw [Nat.add_mul] at this;omega
       · have:=Nat.mul_le_mul_right sz (show j+1≤i' from h')
         rw [Nat.add_mul] at this;omega
theorem b0z {d:Nat} {n:Nat} {x y:Opd} {K':PV→St→Prop} {kx:RV→St→Prop} (hI:Inv F γ st a w) (hc:U9 P o (.pstore n x y)=true) (h:l2 st d (.pstore n x y) K') (hA:a1y F a o.dst K' kx K Q):o.wp P a w K Q:=by
 obtain ⟨dst,op,type,pos,after,guard⟩:=o
 cases op<;>simp [U9] at hc
 rename_i t x' y'
 obtain ⟨⟨h1,h2⟩,h3⟩:=hc
 obtain ⟨i,hi,hn⟩:∃ i,P.info? t=some i∧i.size=n:=by
  split at h3
  · rename_i i hi;exact ⟨i,hi,by simpa using h3⟩
  · cases h3
 have hx:=j5 hI h1
 have hy:=j5 hI h2
 obtain ⟨hcn,h⟩:=h
 split at h
 · rename_i id j s off e
   rw [e] at hx
   obtain ⟨b,n',c',hg,hv⟩:=hx.eltI
   split at h
   · rename_i E sz nn c hm
     obtain ⟨rfl,g1,g2,g3,g4⟩:=h
     obtain ⟨w',hr,hI'⟩:=b30 hI hi hn hg hm g1 hy g2 hcn g3
     refine a25 (w':=w') ?_ (hA.1 _ _ _ _ _ hI' .skip g4)
     rw [← hv] at hr
     simp [execOp,hr]
   · exact h.elim
 · exact h.elim
theorem a6r (hI:Inv F γ st a w) (id E sz n ny iy:Nat) (h9:R4 id) (hsz:0 < sz) {c cy:Nat→Nat→PV} {vs news:List Value} {v v':Value} {w':World} (hold:((st.mem id).live=true∧γ id=v)∨v.ownBlock=none)
 (hvl:vs.length=n*sz) (hx:∀ j k,j < n→k < sz→RepP γ (i8 F.L γ st.mem) w (c j k) (vs.getD (j*sz+k) undef)∧(vs.getD (j*sz+k) undef).oneCell'=true)
 (hy:∀ j k,j < ny→k < sz→RepP γ (i8 F.L γ st.mem) w (cy j k) (news.getD (j*sz+k) undef)∧(news.getD (j*sz+k) undef).oneCell'=true)
 (hown:w'.rowAt (F.rok id) E sz v' (n+ny) (vs++news)) (hg:w.grownBy w' v.ownBlock) (hvb:∀ b,v'.ownBlock=some b→w.heap.size≤b∨v.ownBlock=some b) :
 Inv F (upd id v' γ) { env:=fun x=>(st.env x).kill (· == id),mem:=upd id (.prow E sz (n+ny) fun j k=>(if j < n then c j k else cy (j - n) k).kill (· == id)) fun x=>(st.mem x).kill (· == id) } a w':=by
 refine b23 hI id h9 _ (v:=v) hold (fun _ h=>by cases h) (b5m hown) hg hvb fun γ' L' hγ hk=>?_
 refine ⟨vs++news,hown,hsz,fun j k hj hk'=>?_⟩
 dsimp only
 by_cases hlt:j < n
 · have hik:j*sz+k < vs.length:=by
    rw [hvl]
    have:=Nat.mul_le_mul_right sz (show j+1≤n from hlt)
    rw [Nat.add_mul] at this;omega
   rw [if_pos hlt,show (vs++news).getD (j*sz+k) undef=vs.getD (j*sz+k) undef from by simp [List.getD_eq_getElem?_getD,List.getElem?_append,hik]]
   exact ⟨(hx j k hlt hk').1.mono (· == id) hγ hk,(hx j k hlt hk').2⟩
 · have hle:n≤j:=by omega
   have hm:n*sz≤j*sz:=Nat.mul_le_mul_right _ hle
   rw [if_neg hlt,show (vs++news).getD (j*sz+k) undef=news.getD ((j - n)*sz+k) undef from by
    simp only [List.getD_eq_getElem?_getD,List.getElem?_append,hvl]
    rw [if_neg (by omega),Nat.sub_mul]
    congr 2;omega]
   exact ⟨(hy (j - n) k (by omega) hk').1.mono (· == id) hγ hk,(hy (j - n) k (by omega) hk').2⟩
theorem b38 {d:Nat} (hdn:d < 900) {E sz bytes:Nat} {x y:Opd} {K':PV→St→Prop} {kx:RV→St→Prop} (hI:Inv F γ st a w) (hc:U9 P o (.papp E sz bytes x y)=true) (h:l2 st d (.papp E sz bytes x y) K') (hA:a1y F a o.dst K' kx K Q):o.wp P a w K Q:=by
 obtain ⟨dst,op,type,pos,after,guard⟩:=o
 cases op<;>simp [U9] at hc
 rename_i c
 obtain ⟨callee,args,argTypes⟩:=c
 cases callee<;>try (simp at hc;done)
 rename_i bi
 cases bi<;>try (simp at hc;done)
 dsimp only at hc
 split at hc
 · rename_i x' y' t t' e1 e2
   have ea:args=#[x',y']:=by apply Array.toList_inj.1;rw [e1]
   have et:argTypes=#[t,t']:=by apply Array.toList_inj.1;rw [e2]
   subst ea;subst et
   simp only [Bool.and_eq_true,beq_iff_eq] at hc
   obtain ⟨⟨⟨⟨rfl,h1⟩,h2⟩,h3⟩,h4⟩:=hc
   obtain ⟨hu,hsz,i,z,hi,hz,hs,hzs⟩:=a71 h3
   rw [hi] at h4
   have hby:i.bytes=bytes:=by simpa using h4
   have hx:=j5 hI h1
   have hy:=j5 hI h2
   have fin:∀ v' w',(Builtin.append_ #[t,t] type #[a.eval x',a.eval y']).run P w=.ok v' w'→K (a.put dst v') w'→Oper.wp P { dst,op:=.call { callee:=.builtin .append,args:=#[x',y'],argTypes:=#[t,t] },type,pos,after,guard } a w K Q:=fun v' w' hr hk=>by
    refine k6 (w':=w') ?_ hk
    simp [execOp,resolve,invoke,builtin,hr]
   simp only [l2] at h
   split at h
   · rename_i iy ey
     rw [ey] at hy
     split at h
     · rename_i Ey sy ny cy hmy
       obtain ⟨rfl,h⟩:=h
       obtain ⟨us,y1,y2,y3⟩:=hI.mem.prow iy Ey sy ny cy hmy
       have hus1:∀ u∈us,u.oneCell'=true:=fun u hu'=>by
        obtain ⟨q,hq,rfl⟩:=List.getElem_of_mem hu'
        have hl:=y1.1
        have hdm:q / sy < ny:=Nat.div_lt_of_lt_mul (by rw [Nat.mul_comm];omega)
        have:=(y3 (q / sy) (q % sy) hdm (Nat.mod_lt _ y2)).2
        rw [show q / sy*sy+q % sy=q from by rw [Nat.mul_comm];exact Nat.div_add_mod q sy,a7m hq] at this
        exact this
       have hsrc:(ny=0∧us=[]∧∃ A c,a.eval y'=.slice A 0 c)∨∃ ad c,0 < ny∧a.eval y'=.slice (some ad) ny c∧us.length=ny*sy∧(∀ j u,us[j]?=some u→w.cell? (ad.add j)=some u)∧∀ u∈us,u.oneCell'=true:=by
        rw [hy.ownI]
        by_cases h0:ny=0
        · subst h0
          have:us=[]:=List.eq_nil_of_length_eq_zero (by simpa using y1.1)
          rcases y1.2 with ⟨hv,_⟩ | ⟨g,cap,cur,hv,_⟩
          · exact .inl ⟨rfl,this,none,0,hv⟩
          · exact .inl ⟨rfl,this,_,cap,hv⟩
        · rcases y1.2 with ⟨hv,h0'⟩ | ⟨g,cap,cur,hv,_⟩
          · exact absurd h0' h0
          · exact .inr ⟨⟨g,0,none⟩,cap,by omega,hv,y1.1,y1.cells (by rw [hv];rfl),hus1⟩
       split at h
       · rename_i id e
         rw [e] at hx
         split at h
         · rename_i E' sz' n c hm
           obtain ⟨h9,_,rfl,rfl,g1,g2,g3⟩:=h
           obtain ⟨vs,k1,k2,k3⟩:=hI.mem.prow id E' sz' n c hm
           obtain ⟨v',w',hr,m1,m2,m6⟩:=a1x (P:=P) (ty:=type) hu hi hz hs hby hzs hsz k1.own0 hsrc g2 g1 (Nat.zero_le _)
           have hI':=a6r hI id E' sz' n ny iy h9 hsz (.inl ⟨by rw [hm];rfl,rfl⟩) k1.1 k3 y3 (World.rowAt.of m1 fun b hb=>by
            rcases m6 b hb with h | h
            · exact .inl (Nat.le_trans hI.fr.size h)
            · exact k1.ok (a2i h)) m2 m6
           exact fin v' w' (by rw [hx.ownI];exact hr) (hA.1 _ _ _ _ _ hI' (.own id v' (l9 _ _ _).symm) g3)
         · exact h.elim
       · rename_i s e
         rw [e] at hx
         obtain ⟨g1,g2,g3⟩:=h
         have k1:w.ownsRow 0 E sy (.slice none 0 0) 0 []:=World.ownsRow_nil w 0 E sy
         obtain ⟨v',w',hr,m1,m2,m6⟩:=a1x (P:=P) (ty:=type) hu hi hz hs hby hzs hsz k1 hsrc (by simpa using g2) (by simpa using g1) (Nat.zero_le _)
         have hI':=a6r hI d E sy 0 ny iy (.inl hdn) hsz (c:=fun _ _=>.undef) (vs:=[]) (v:=.slice none 0 0) (.inr rfl) (by simp) (fun j k hj=>by omega) y3 (World.rowAt.of m1 fun b hb=>by
          rcases m6 b hb with h | h
          · exact .inl (Nat.le_trans hI.fr.size h)
          · cases h) m2 m6
         simp only [Nat.zero_add,Nat.not_lt_zero,if_false,Nat.sub_zero] at hI'
         exact fin v' w' (by rw [hx.empI];exact hr) (hA.1 _ _ _ _ _ hI' (.own d v' (l9 _ _ _).symm) g3)
       · exact h.elim
     · exact h.elim
   · exact h.elim
 · cases hc
theorem b7v {p:XOp} {d:Nat} (hdn:d < 900) {K':PV→St→Prop} {kx:RV→St→Prop} (hI:Inv F γ st a w) (hc:U9 P o p=true) (h:l2 st d p K') (hA:a1y F a o.dst K' kx K Q):o.wp P a w K Q:=by
 cases p with
 | mkmap s=>exact b2h hdn hI hc h hA
 | mlook s ok z x k=>exact b2g hI hc h hA
 | mupd s x k v=>exact b4a hI hc h hA
 | ment s z x k=>exact b4d hI hc h hA
 | mest x b v=>exact b4c hI hc h hA
 | plit E sz x=>exact b35 hdn hI hc h hA
 | papp E sz bytes x y=>exact b38 hdn hI hc h hA
 | plen x=>exact b36 hI hc h hA
 | piaddr sz x i=>exact b00 hI hc h hA
 | pload agg n x=>exact b2a hI hc h hA
 | pstore n x y=>exact b0z hI hc h hA
end
end Go.PW
