/- The machine does what stepE says: appends; and the theorem for every operation. -/
import Derived.Test.YtfoapolbgpjfaaaGreatDoorPWl
import Derived.Laws.MakeOwn
set_option linter.unusedSectionVars false
set_option linter.unusedSimpArgs false
set_option linter.unusedVariables false
namespace Go.PW
variable [GF]
open Go.RowKit
section
variable {P:Program} {F:Ctx} {γ:Nat→Value} {st:St} {a:Act} {w:World} {o:Oper} {K:Act→World→Prop} {Q:Exit→Act→World→Prop}
def b1v (L:Nat→Prop) (w:World) (sz:Nat) (ys:List RV) (v:Value):Prop:=
 (ys=[]∧∃ A c,v=.slice A 0 c) ∨
 ∃ ad c news,ys≠[]∧v=.slice (some ad) ys.length c∧news.length=ys.length*sz∧(∀ j u,news[j]?=some u→w.cell? (ad.add j)=some u)∧(∀ u∈news,u.oneCell'=true)∧a3s L w sz ys news
theorem a87 {L:Nat→Prop} {sz:Nat} {ys:List RV} {news:List Value} (hsz:0 < sz) (hl:news.length=ys.length*sz) (hc:a3s L w sz ys news) (h1:∀ y∈ys,y.cells.all RV.one=true):∀ u∈news,u.oneCell'=true:=fun u hu=>by
 obtain ⟨q,hq,rfl⟩:=List.getElem_of_mem hu
 have hdm:q / sz < ys.length:=Nat.div_lt_of_lt_mul (by rw [Nat.mul_comm];omega)
 have hr:=hc.2 (q / sz) (q % sz) hdm (Nat.mod_lt _ hsz)
 rw [show q / sz*sz+q % sz=q from by rw [Nat.mul_comm];exact Nat.div_add_mod q sz,a7m hq] at hr
 have hm:ys.getD (q / sz) .nilptr∈ys:=R5 hdm
 have hcl:=hc.1 _ hm
 exact oneR hr (List.all_eq_true.1 (h1 _ hm) _ (R5 (by rw [hcl];exact Nat.mod_lt _ hsz)))
theorem b13 {L:Nat→Prop} {s sz:Nat} {ys:List RV} {v:Value} (hr:RepR L w (.list s ys) v) (hs:s=sz∨ys=[]) (h1:∀ y∈ys,y.cells.all RV.one=true):b1v L w sz ys v:=by
 cases hr with
 | list0 _ A c=>exact .inl ⟨rfl,A,c,rfl⟩
 | list _ _ b o c f h0 hsz hcap hb hc hx h=>
  obtain rfl:s=sz:=by rcases hs with h' | h';exact h';exact absurd h' h0
  have hl:((List.range (ys.length*s)).map f).length=ys.length*s:=by simp
  have hcs:a3s L w s ys ((List.range (ys.length*s)).map f):=⟨hx,fun i k hi hk=>by
   have hik:i*s+k < ys.length*s:=by
    have:=Nat.mul_le_mul_right s (show i+1≤ys.length from hi)
    rw [Nat.add_mul] at this;omega
   have:((List.range (ys.length*s)).map f).getD (i*s+k) undef=f (i*s+k):=by
    simp [List.getD_eq_getElem?_getD,List.getElem?_map,List.getElem?_range hik]
   rw [this];exact h i k hi hk⟩
  refine .inr ⟨⟨b,o,none⟩,c,(List.range (ys.length*s)).map f,h0,rfl,hl,fun j u hj=>?_,a87 hsz hl hcs h1,hcs⟩
  have hlt:j < ys.length*s:=by
   rcases Nat.lt_or_ge j (ys.length*s) with h' | h'
   · exact h'
   · rw [List.getElem?_eq_none (by simpa using h')] at hj;cases hj
  rw [List.getElem?_map,List.getElem?_range hlt] at hj
  simp only [Option.map_some,Option.some.injEq] at hj
  rw [a0q,hc j hlt,hj]
theorem b3v (hI:Inv F γ st a w) {id E sz:Nat} {ys:List RV} (hm:st.mem id=.row E sz ys):b1v (i8 F.L γ st.mem) w sz ys (γ id):=by
 obtain ⟨vs,h1,h2,h3,h4⟩:=hI.mem.row id E sz ys hm
 by_cases he:ys=[]
 · subst he
   rcases h1.2 with ⟨hv,_⟩ | ⟨g,cap,cur,hv,_⟩
   · exact .inl ⟨rfl,none,0,hv⟩
   · exact .inl ⟨rfl,_,cap,hv⟩
 · rcases h1.2 with ⟨hv,h0⟩ | ⟨g,cap,cur,hv,_⟩
   · exact absurd (List.eq_nil_of_length_eq_zero h0) he
   · exact .inr ⟨⟨g,0,none⟩,cap,vs,he,hv,h1.1,h1.cells (by rw [hv];rfl),h4,h3⟩
theorem a67 (t ty e:TypeId) (i:TypeInfo) (ht:P.underlying t=some (.slice e)) (hi:P.info? e=some i) (ht':(P.underlying t matches some (.int _))=false) (base:Option Addr) (n cap:Nat) (h:n≤cap) (A:Option Addr) (c:Nat) :
 (Builtin.append_ #[t,t] ty #[.slice base n cap,.slice A 0 c]).run P w=.ok (.slice base n cap) w:=by
 have hl:∀ (x:Addr),(loadCells x 0).run P w=.ok #[] w:=fun x=>by simpa using run_loadCells_list (P:=P) w x [] (by simp)
 cases A<;>cases base<;>simp [Builtin.append_,run_underlying ht,Builtin.lenOf,Builtin.firstCells,sizeOf,typeInfo,hi,storeCells,hl,h]
theorem a1x {t ty E:TypeId} {i:TypeInfo} {z:Value} {sz bytes:Nat} (ht:P.underlying t=some (.slice E)) (hi:P.info? E=some i) (hz:i.zero=some z) (hs:i.size=sz) (hby:i.bytes=bytes) (hzs:z.cells.size=sz) (hsz:0 < sz)
 {B n ny:Nat} {v:Value} {vs:List Value} {y:Value} {news:List Value} (hown:w.ownsRow B E sz v n vs)
 (hy:(ny=0∧news=[]∧∃ A c,y=.slice A 0 c)∨∃ ad c,0 < ny∧y=.slice (some ad) ny c∧news.length=ny*sz∧(∀ j u,news[j]?=some u→w.cell? (ad.add j)=some u)∧∀ u∈news,u.oneCell'=true)
 (h63:n+ny≤9223372036854775807) (hb:(n+ny)*bytes≤140737488355328) (hB:B≤w.heap.size) :
 ∃ v' w',(Builtin.append_ #[t,t] ty #[v,y]).run P w=.ok v' w'∧w'.ownsRow B E sz v' (n+ny) (vs++news)∧w.grownBy w' v.ownBlock∧(∀ b,v'.ownBlock=some b→w.heap.size≤b∨v.ownBlock=some b):=by
 rcases hy with ⟨rfl,rfl,A,c,rfl⟩ | ⟨ad,c,hpos,rfl,hl,hn,h1⟩
 · have hv:∃ base n cap,v=.slice base n cap∧n≤cap:=by
    rcases hown.2 with ⟨h,_⟩ | ⟨g,cap,cur,h,_,_,h',_⟩
    · exact ⟨none,0,0,h,Nat.le_refl _⟩
    · exact ⟨_,_,cap,h,h'⟩
   obtain ⟨base,n,cap,rfl,hn⟩:=hv
   exact ⟨_,w,a67 t ty E i ht hi (by rw [ht]) base n cap hn A c,by simpa using hown,⟨rfl,rfl,rfl,Nat.le_refl _,fun _ _ _=>rfl⟩,fun b hb=>.inr hb⟩
 · obtain ⟨v',w',hr,h2,h3,_⟩:=run_append_own (P:=P) w B t ty E i z sz bytes ht hi hz hs hby hzs hsz v n vs hown ad ny c news hl hn h1 (by unfold maxLen;omega) hb hB
   refine ⟨v',w',hr,h2,h3,fun b hb'=>?_⟩
   rcases hown.2 with ⟨hv,hn0⟩ | ⟨g,cap,cur,hv,hgB,hg,hnc,hcm,hcs,htk⟩
   · have hb2:(0+ny)*bytes≤140737488355328:=by rw [hn0] at hb;exact hb
     have:=run_append_nil (P:=P) w t ty E i z ht hi hz ad ny c news (by rw [hs];exact hl) hn hpos (by omega) (by rw [hby];simp only [Nat.zero_add] at hb2;omega)
     rw [hv,this] at hr
     injection hr with e1 e2
     rw [← e1] at hb'
     simp [Value.ownBlock] at hb'
     exact .inl (by omega)
   · by_cases hroom:n+ny≤cap
     · have:=run_append_room (P:=P) w t ty E i ht hi g n cap cur hg ad ny c news (by rw [hs];exact hl) hn h1 hroom (by
        rw [hs,hl,hcs,← Nat.add_mul];exact Nat.mul_le_mul_right _ hroom)
       rw [hv,this] at hr
       injection hr with e1 e2
       rw [← e1] at hb'
       exact .inr (by rw [hv];exact hb')
     · have:=run_append_grow (P:=P) w t ty E i z ht hi hz ⟨g,0,none⟩ n cap vs (by rw [hs];exact hown.1) (hown.cells (by rw [hv];rfl)) ad ny c news (by rw [hs];exact hl) hn (by omega) (by omega) (by rw [hby];exact growslice_fits (by omega) hb)
       rw [hv,this] at hr
       injection hr with e1 e2
       rw [← e1] at hb'
       simp [Value.ownBlock] at hb'
       exact .inl (by omega)
theorem a9h {t ty E:TypeId} {i:TypeInfo} {z:Value} {sz bytes:Nat} (ht:P.underlying t=some (.slice E)) (hi:P.info? E=some i) (hz:i.zero=some z) (hs:i.size=sz) (hby:i.bytes=bytes) (hzs:z.cells.size=sz) (hsz:0 < sz)
 {L:Nat→Prop} {B:Nat} {v:Value} {xs ys:List RV} {vs:List Value} {y:Value} (hown:w.ownsRow B E sz v xs.length vs) (hy:b1v L w sz ys y) (h63:xs.length+ys.length≤9223372036854775807) (hb:(xs.length+ys.length)*bytes≤140737488355328) (hB:B≤w.heap.size) :
 ∃ v' w' news,(Builtin.append_ #[t,t] ty #[v,y]).run P w=.ok v' w'∧w'.ownsRow B E sz v' (xs.length+ys.length) (vs++news)∧w.grownBy w' v.ownBlock∧news.length=ys.length*sz∧(∀ u∈news,u.oneCell'=true)∧a3s L w sz ys news∧(∀ b,v'.ownBlock=some b→w.heap.size≤b∨v.ownBlock=some b):=by
 rcases hy with ⟨rfl,A,c,rfl⟩ | ⟨ad,c,news,h0,rfl,hl,hn,h1,hc⟩
 · obtain ⟨v',w',hr,h2,h3,h4⟩:=a1x (P:=P) (ty:=ty) (news:=[]) (ny:=0) ht hi hz hs hby hzs hsz hown (.inl ⟨rfl,rfl,A,c,rfl⟩) (by simpa using h63) (by simpa using hb) hB
   exact ⟨v',w',[],hr,h2,h3,by simp,by simp,⟨by simp,fun i k hi=>by simp at hi⟩,h4⟩
 · obtain ⟨v',w',hr,h2,h3,h4⟩:=a1x (P:=P) (ty:=ty) (news:=news) (ny:=ys.length) ht hi hz hs hby hzs hsz hown (.inr ⟨ad,c,List.length_pos_iff.2 h0,rfl,hl,hn,h1⟩) h63 hb hB
   exact ⟨v',w',news,hr,h2,h3,hl,h1,hc,h4⟩
theorem b23 (hI:Inv F γ st a w) (id:Nat) (h9:R4 id) (ob:MObj) {v v':Value} {w':World} (hold:((st.mem id).live=true∧γ id=v)∨v.ownBlock=none) (hnb:∀ cs,ob≠.box cs)
 (hob:∀ b,Value.blk v'=some b→v'.ownBlock=some b) (hg:w.grownBy w' v.ownBlock) (hvb:∀ b,v'.ownBlock=some b→w.heap.size≤b∨v.ownBlock=some b)
 (ho:∀ γ' L',(∀ i,(i == id)=false→γ' i=γ i)→Keeps (i8 F.L γ st.mem) w L' w'→ObjOK F id L' γ' w' v' ob) :
 Inv F (upd id v' γ) { env:=fun x=>(st.env x).kill (· == id),mem:=upd id ob fun x=>(st.mem x).kill (· == id) } a w':=by
 have hvlive:∀ b,v.ownBlock=some b→i8 F.L γ st.mem b∧(F.B≤b∨F.wx b)∧∀ j,j≠id→(st.mem j).live=true→Value.blk (γ j)≠some b:=fun b hb=>by
  rcases hold with ⟨h1,h2⟩ | h
  · have hbk:Value.blk (γ id)=some b:=by rw [h2];exact a2i hb
    refine ⟨.inr ⟨id,h1,hbk⟩,(y7 (hI.mem.obj id) h1 hbk).2.imp _root_.id Ctx.wr.x,fun j hj hl hh=>hj (hI.mem.inj j id b hl h1 hh hbk)⟩
  · rw [h] at hb;cases hb
 have hne:∀ b,v.ownBlock≠some b→b < w.heap.size→w'.heap[b]?=w.heap[b]?:=fun b hb hlt=>hg.block b hlt (fun e=>hb e.symm)
 have hlv:∀ b,b < w.heap.size→i8 F.L (upd id v' γ) (upd id ob fun x=>(st.mem x).kill (· == id)) b→i8 F.L γ st.mem b:=fun b hlt hb=>by
  rcases hb with h | ⟨j,h1,h2⟩
  · exact .inl h
  · by_cases hj:j=id
    · subst hj
      rw [l9] at h2
      rcases hvb b (hob b h2) with h | h
      · omega
      · exact (hvlive b h).1
    · rw [l8 _ _ _ _ hj] at h1 h2
      rw [L5] at h1
      exact .inr ⟨j,h1,h2⟩
 have hk:Keeps (i8 F.L γ st.mem) w (i8 F.L (upd id v' γ) (upd id ob fun x=>(st.mem x).kill (· == id))) w':=fun b o u hb hc=>by
  have hlt:b < w.heap.size:=World.block_lt_of_cell? w _ hc
  refine ⟨fun h=>hb (hlv b hlt h),?_⟩
  rw [World.cell?_of_block (w:=w) (w':=w') (a:=⟨b,o,none⟩) (hne b (fun e=>hb (hvlive b e).1) hlt)]
  exact hc
 refine hI.change (· == id) (fun _=>false) (fun i h=>.inl (l8 _ _ _ _ (by simpa using h))) (fun i h=>by cases h) (fun i h _=>l8 _ _ _ _ (by simpa using h)) hk (fun i b h _ hl hb=>?_) (fun i h=>?_) (fun i j b h1 h2 h3 h4=>?_) ?_ (fun i cs h h9 hm=>by
  rcases h with h | h
  · obtain rfl:i=id:=by simpa using h
    rw [l9] at hm;exact absurd hm (hnb cs)
  · cases h) (fun _ _ h=>by
  rcases h with h | h
  · obtain rfl:900=id:=by simpa using h
    unfold R4 at h9;omega
  · cases h) (fun i v hv h=>by
  rcases h with h | h
  · obtain rfl:i=id:=by simpa using h
    have:=hI.fr.hpn _ v hv
    unfold R4 at h9;omega
  · cases h)
 · exact hne b (fun e=>(hvlive b e).2.2 i (by simpa using h) hl hb) (y7 (hI.mem.obj i) hl hb).1
 · rcases h with h | h
   · obtain rfl:i=id:=by simpa using h
     rw [l9,l9]
     exact ho _ _ (fun j hj=>l8 _ _ _ _ (by simpa using hj)) hk
   · cases h
 · have cross:∀ j,j≠id→((upd id ob fun x=>(st.mem x).kill (· == id)) j).live=true→Value.blk ((upd id v' γ) j)=some b→Value.blk v'=some b→False:=fun j hj h h' hv=>by
    rw [l8 _ _ _ _ hj] at h h'
    rw [L5] at h
    rcases hvb b (hob b hv) with h5 | h5
    · have:=(y7 (hI.mem.obj j) h h').1;omega
    · exact (hvlive b h5).2.2 j hj h h'
   by_cases e1:i=id
   · by_cases e2:j=id
     · rw [e1,e2]
     · subst e1;rw [l9] at h3;exact (cross j e2 h2 h4 h3).elim
   · by_cases e2:j=id
     · subst e2;rw [l9] at h4;exact (cross i e1 h1 h3 h4).elim
     · rw [l8 _ _ _ _ e1] at h1 h3
       rw [l8 _ _ _ _ e2] at h2 h4
       rw [L5] at h1 h2
       exact hI.mem.inj i j b h1 h2 h3 h4
 · refine ⟨hg.os.trans hI.fr.os,hg.tape.trans hI.fr.tape,hg.output.trans hI.fr.output,Nat.le_trans hI.fr.size hg.size,fun k hk' hp=>?_,hI.fr.hL,hI.fr.hpb,hI.fr.hn,hI.fr.hgb,hI.fr.hpo,hI.fr.hpn⟩
   refine (hne k (fun e=>?_) (Nat.lt_of_lt_of_le hk' hI.fr.size)).trans (hI.fr.block k hk' hp)
   rcases (hvlive k e).2.1 with h | h
   · omega
   · exact hp h
theorem b5m {w:World} {ok:Nat→Prop} {E sz:Nat} {v:Value} {n:Nat} {vs:List Value} (h:w.rowAt ok E sz v n vs):∀ b,Value.blk v=some b→v.ownBlock=some b:=fun b hb=>by
 rcases h.2 with ⟨hv,_⟩ | ⟨g,cap,cur,hv,_⟩
 · rw [hv] at hb;simp [Value.blk] at hb
 · rw [hv] at hb ⊢;simpa [Value.blk,Value.ownBlock] using hb
theorem a9i (hI:Inv F γ st a w) (id E sz:Nat) (h9:R4 id) (hsz:0 < sz) {xs ys:List RV} {vs news:List Value} {v v':Value} {w':World} (hold:(st.mem id=.row E sz xs∧γ id=v)∨v.ownBlock=none)
 (hx:a3s (i8 F.L γ st.mem) w sz xs vs) (hx1:∀ u∈vs,u.oneCell'=true) (hvl:vs.length=xs.length*sz) (hy:a3s (i8 F.L γ st.mem) w sz ys news) (hy1:∀ u∈news,u.oneCell'=true)
 (hown:w'.rowAt (F.rok id) E sz v' (xs.length+ys.length) (vs++news)) (hg:w.grownBy w' v.ownBlock) (hvb:∀ b,v'.ownBlock=some b→w.heap.size≤b∨v.ownBlock=some b) :
 Inv F (upd id v' γ) { env:=fun x=>(st.env x).kill (· == id),mem:=upd id (.row E sz (xs++ys)) fun x=>(st.mem x).kill (· == id) } a w':=by
 refine b23 hI id h9 (.row E sz (xs++ys)) (v:=v) (hold.imp (fun h=>⟨by rw [h.1];rfl,h.2⟩) _root_.id) (fun _ h=>by cases h) (b5m hown) hg hvb fun γ' L' _ hk=>?_
 refine ⟨vs++news,by rw [List.length_append];exact hown,hsz,⟨fun x hx'=>?_,fun i' k hi' hk'=>?_⟩,fun u hu=>?_⟩
 · rcases List.mem_append.1 hx' with h' | h'
   · exact hx.1 x h'
   · exact hy.1 x h'
 · by_cases hlt:i' < xs.length
   · have hik:i'*sz+k < vs.length:=by
      rw [hvl]
      have:=Nat.mul_le_mul_right sz (show i'+1≤xs.length from hlt)
      rw [Nat.add_mul] at this;omega
     rw [show (xs++ys).getD i' .nilptr=xs.getD i' .nilptr from by simp [List.getD_eq_getElem?_getD,List.getElem?_append,hlt],
      show (vs++news).getD (i'*sz+k) undef=vs.getD (i'*sz+k) undef from by simp [List.getD_eq_getElem?_getD,List.getElem?_append,hik]]
     exact (hx.2 i' k hlt hk').mono hk
   · have hle:xs.length≤i':=by omega
     have hm:xs.length*sz≤i'*sz:=Nat.mul_le_mul_right _ hle
     rw [show (xs++ys).getD i' .nilptr=ys.getD (i' - xs.length) .nilptr from by simp [List.getD_eq_getElem?_getD,List.getElem?_append,hlt],
      show (vs++news).getD (i'*sz+k) undef=news.getD ((i' - xs.length)*sz+k) undef from by
       simp only [List.getD_eq_getElem?_getD,List.getElem?_append,hvl]
       rw [if_neg (by omega),Nat.sub_mul]
       congr 2;omega]
     exact (hy.2 (i' - xs.length) k (by simp at hi';omega) hk').mono hk
 · rcases List.mem_append.1 hu with h' | h'
   · exact hx1 u h'
   · exact hy1 u h'
theorem b1o (hI:Inv F γ st a w) {xs:List Opd} {ys:List Operand} (h:a0h xs ys=true):(ys.map a.eval).length=(xs.map (ev st)).length ∧
 ∀ j,j < (xs.map (ev st)).length→RepP γ (i8 F.L γ st.mem) w ((xs.map (ev st)).getD j .undef) ((ys.map a.eval).getD j undef):=by
 obtain ⟨h1,h2⟩:=a2r hI h
 exact ⟨by simp [h1],fun j hj=>h2 j (by simpa using hj)⟩
theorem a04 {f:Nat} (hf:fnB P f=true) (args:Array Value):(callFunc f args).run P w=.ok (.enter f args) w:=by
 unfold fnB at hf
 split at hf
 · rename_i fn hfn
   simp only [Bool.and_eq_true,bne_iff_ne,ne_eq] at hf
   obtain ⟨h1,h2⟩:=hf
   unfold callFunc
   simp [hfn,h1]
   intro hn
   simp [hn] at h2
 · cases hf
theorem a1i {t e:TypeId} {i:TypeInfo} {v:Value} {n:Nat} {parts:Array (Nat×Value)} {us:Array Value} (hu:P.underlying t=some (.slice e)) (hi:P.info? e=some i) (hz:i.zero=some v) (hn:n*i.size≤16777216)
 (hf:Instr.fill (fun j=>some (j*i.size,i.size)) (if n*i.size=0 then ((Array.range (n*i.size)).map ((#[]:Array Value)[· % (#[]:Array Value).size]!)) else ((Array.range (n*i.size)).map (v.cells[· % v.cells.size]!))) parts.toList=some us) :
 (Instr.buildSlice t n parts).run P w=.ok (.slice (some ⟨w.heap.size,0,none⟩) n n) (w.alloc (.cells us e)):=by
 have hle:¬ (n*i.size > 2 ^ 24):=by omega
 unfold Instr.buildSlice
 simp only [Sem.run_bind,run_underlying hu,Result.andThen_ok,Q7 hi,if_neg hle]
 by_cases h0:n*i.size=0
 · simp only [if_pos h0] at hf ⊢
   simp only [Sem.run_pure,Result.andThen_ok,Sem.run_bind,hf]
   rfl
 · simp only [if_neg h0] at hf ⊢
   have hzv:(zeroValue e).run P w=.ok v w:=by simp [zeroValue,typeInfo,hi,hz]
   simp only [Sem.run_pure,Result.andThen_ok,Sem.run_bind,hzv,hf]
   rfl
def a1y (F:Ctx) (a:Act) (dst:Option Nat) (K':PV→St→Prop) (kx:RV→St→Prop) (K:Act→World→Prop) (Q:Exit→Act→World→Prop):Prop:=
 (∀ γ' st' q v w',Inv F γ' st' a w'→RepP γ' (i8 F.L γ' st'.mem) w' q v→K' q st'→K (a.put dst v) w') ∧
 (∀ γ' st' r v w',Inv F γ' st' a w'→RepR (i8 F.L γ' st'.mem) w' r v→kx r st'→Q (.panic [{ v,recovered:=false }]) a w')
theorem a7e {K':PV→St→Prop} {kx:RV→St→Prop} {f:Nat} {args:Array Value} (hrun:(execOp a.eval o).run P w=.ok (.enter f args) w) (hc:Calls P f args w (a7p F a K' kx)) (hA:a1y F a o.dst K' kx K Q):o.wp P a w K Q:=by
 unfold Oper.wp Oper.upon
 rw [hrun]
 refine hc.mono fun e w' h=>?_
 cases e with
 | returned v=>obtain ⟨γ',st',q,h1,h2,h3⟩:=h;exact hA.1 γ' st' q v w' h1 h2 h3
 | panicked chain=>obtain ⟨γ',st',r,v,rfl,h1,h2,h3⟩:=h;exact hA.2 γ' st' r v w' h1 h2 h3
 | outgrown=>exact h.elim
theorem a9o {L:Nat→Prop} {r:RV} {v:Value} (h:RepR L w r v) (h1:v.oneCell'=true):r.cells=[r]:=by
 cases h<;>first | rfl | (simp [Value.oneCell'] at h1)
theorem a8j (z:Array Value) (n j:Nat) (hj:j < n) (hz:0 < z.size):(madeCells z n).getD j undef=z.getD (j % z.size) undef:=by
 have h:j % z.size < z.size:=Nat.mod_lt _ hz
 have e:(madeCells z n)[j]?=some (z[j % z.size]!):=by
  unfold madeCells
  simp [Array.getElem?_map,Array.getElem?_range,hj]
 rw [Array.getD_eq_getD_getElem?,e,Array.getD_eq_getD_getElem?,Array.getElem?_eq_getElem h]
 simp [getElem!_pos,h]
theorem b3y {L':Nat→Prop} {L:Nat→Prop} {id:Nat} {q:PV} {v:Value} (h:RepP γ L w q v) (hp:q.plain1 id=true) (hk:Keeps L w L' w):RepP (fun _=>γ id) L' w (q.nm 0) v:=by
 cases q with
 | own i=>
  have:i=id:=by simpa [PV.plain1] using hp
  subst this
  exact .own 0 v h.ownI
 | agg cs=>
  obtain ⟨vs,rfl,hs,hr⟩:=h.aggI
  simp only [PV.nm]
  refine .agg _ vs (by rw [PV.nmL_length];exact hs) fun i hi=>?_
  rw [PV.nmL_length] at hi
  rw [PV.nmL_getD _ _ _ hi]
  have hc:=hr i hi
  have hm:=List.all_eq_true.1 (hp:cs.all (PV.pl1 id)=true) _ (R5 (d:=PV.undef) hi)
  generalize cs.getD i .undef=c at hc hm
  cases c with
  | val r=>exact .val r _ (hc.valI.mono hk)
  | emp s=>rw [hc.empI];exact .emp s
  | own j=>
   have:j=id:=by simpa [PV.pl1] using hm
   subst this
   exact .own 0 _ hc.ownI
  | _=>simp [PV.pl1] at hm
 | _=>simp [PV.plain1] at hp
theorem b6o {f id E sz:Nat} {q:PV} {v0:Value} {rs:List RV} {ps:List PV} {vs:List Value} {K':PV→St→Prop} {kx:RV→St→Prop} (hI:Inv F γ st a w) (hq:RepP γ (i8 F.L γ st.mem) w q v0) (hl:vs.length=ps.length)
 (hr:∀ j,j < ps.length→RepP γ (i8 F.L γ st.mem) w (ps.getD j .undef) (vs.getD j undef)) (hm:st.mem id=.row E sz rs) (h:b3x P st f id q E sz rs ps K'):Calls P f (v0 :: vs).toArray w (a7p F a K' kx):=by
 unfold b3x at h
 split at h
 · exact h.elim
 · rename_i as has
   obtain ⟨hpl,hb0,hno,out,rs',hok,hfl,hK⟩:=h
   obtain ⟨ms,hargs,hml,_⟩:=b1t hI (ids:=[]) (fun i hi=>by cases hi) has (fun p hp i hi=>by rw [a52 (List.all_eq_true.1 hno p hp)] at hi;cases hi) vs hl hr
   have hms:ms=[]:=List.eq_nil_of_length_eq_zero (by rw [hml,hb0];rfl)
   subst hms
   obtain ⟨us,k1,k2,k3,k4⟩:=hI.mem.row id E sz rs hm
   have hlive:(st.mem id).live=true:=by rw [hm];rfl
   refine (hok (Lc F γ st.mem []) w (γ id) v0 us vs (fun b hb=>hI.live_lt hb.1) (hI.gl.keep (Z5 [])) (fun g hg=>⟨fun hb=>(hI.gblk g hg).1 hb.1,(hI.gblk g hg).2⟩)
    (k1.mono (fun b hb _=>⟨.inr ⟨id,hlive,hb⟩,fun i hi=>by cases hi⟩) (fun _ _=>rfl)) k2 ⟨k3.1,fun i k hi hk=>(k3.2 i k hi hk).mono (Z5 [])⟩ k4 (b3y hq hpl (Z5 [])) hargs).mono fun e w' ⟨hout,u,us',he,hrep,hrow,hcells,hone⟩=>?_
   subst he
   have hI':Inv F γ { st with mem:=upd id (.row E sz rs') st.mem } a w':=by
    cases hb:Value.blk (γ id) with
    | some b=>
     rw [hb] at hout
     refine a12 hI id (.row E sz rs') w' b hb hlive rfl (fun cs e=>by cases e) (fun _ _ _ _=>⟨_,_,_,hm⟩) hout.os hout.tape hout.output hout.size (fun k hk hne=>hout.block k hk (by simpa using hne)) (fun L' hs hk=>?_)
     refine ⟨us',hrow.mono (fun c hc _=>k1.ok hc) (fun _ _=>rfl),k2,⟨hcells.1,fun i k hi hk'=>(hcells.2 i k hi hk').mono fun c o v hc hv=>⟨fun h=>hc ⟨hs c h,fun i hi=>by cases hi⟩,hv⟩⟩,hone⟩
    | none=>
     rw [hb] at hout
     have hz:∀ {w:World} {ok:Nat→Prop} {xs:List RV} {us:List Value},w.rowAt ok E sz (γ id) xs.length us→xs=[]:=fun {w ok xs us} h=>by
      rcases h.2 with ⟨_,hn⟩ | ⟨g,cap,cur,hv,_⟩
      · exact List.eq_nil_of_length_eq_zero hn
      · rw [hv] at hb;cases hb
     have e1:=hz k1
     have e2:=hz hrow
     subst e1;subst e2
     have e3:upd id (.row E sz []) st.mem=st.mem:=by
      funext x
      by_cases hx:x=id
      · subst hx;rw [l9,hm]
      · rw [l8 _ _ _ _ hx]
     rw [e3]
     exact hI.later hout.below
   exact ⟨γ,_,.val out,hI',.val _ _ (hrep.flat hfl),hK⟩
end
end Go.PW
