/- The machine does what stepE says. -/
import Derived.Test.YtfoapolbgpjfaaaGreatDoorPWi
set_option linter.unusedSectionVars false
set_option linter.unusedSimpArgs false
set_option linter.unusedVariables false
namespace Go.PW
variable [GF]
open Go.RowKit
def a2a (places:List (Nat×Nat)):List (Nat×Nat×Opd)→List (Nat×Operand)→Bool
 | [],[]=>true
 | (off,n,x) :: xs,(i,y) :: ys=>places[i]? == some (off,n) && i7 x y && a2a places xs ys
 | _,_=>false
def a6e:Nat→List Opd→List (Nat×Operand)→Bool
 | _,[],[]=>true
 | k,x :: xs,(i,y) :: ys=>i == k && i7 x y && a6e (k+1) xs ys
 | _,_,_=>false
def b09 (P:Program) (t:TypeId) (s:Bool) (z:Option PV):Bool:=match P.underlying t with
 | some (.map kt et)=>(match s,P.underlying kt with
  | true,some .string=>true
  | false,some (.int k)=>k == .i64
  | _,_=>false) && (match z with
  | none=>true
  | some p=>(match P.info? et with | some i=>(match i.zero with | some v=>a0f p v | none=>false) | none=>false))
 | _=>false
def b0v (P:Program) (t:TypeId) (E sz:Nat):Bool:=match P.underlying t with
 | some (.slice e)=>e == E && decide (0 < sz) && (match P.info? e with
  | some i=>i.size == sz && (match i.zero with | some v=>v.cells.size == sz | none=>false)
  | none=>false)
 | _=>false
def U9 (P:Program) (o:Oper) (p:XOp):Bool:=
 match p with
 | .mkmap s=>match o.op with
  | .makeMap t none=>b09 P t s none
  | _=>false
 | .mlook s ok z x k=>match o.op with
  | .lookup t x' k' ok'=>ok == ok' && i7 x x' && i7 k k' && b09 P t s (some z)
  | _=>false
 | .mupd s x k v=>match o.op with
  | .mapUpdate t x' k' v'=>i7 x x' && i7 k k' && i7 v v' && b09 P t s none
  | .insert t x' k' v'=>i7 x x' && i7 k k' && i7 v v' && b09 P t s none
  | _=>false
 | .ment s z x k=>match o.op with
  | .mapEntry t x' k'=>i7 x x' && i7 k k' && b09 P t s (some z)
  | _=>false
 | .mest x b v=>match o.op with
  | .entryStore _ x' b' v'=>i7 x x' && i7 b b' && i7 v v'
  | _=>false
 | .plit E sz x=>match o.op with
  | .buildSlice t n ps=>n == 1 && decide (sz≤16777216) && b0v P t E sz && (match ps.toList with | [(0,y)]=>i7 x y | _=>false)
  | _=>false
 | .papp E sz bytes x y=>match o.op with
  | .call { callee:=.builtin .append,args,argTypes }=>(match args.toList,argTypes.toList with
   | [x',y'],[t,t']=>t == t' && i7 x x' && i7 y y' && b0v P t E sz && (match P.info? E with | some i=>i.bytes == bytes | none=>false)
   | _,_=>false)
  | _=>false
 | .plen x=>match o.op with
  | .call { callee:=.builtin .len,args,argTypes }=>(match args.toList,argTypes.toList with
   | [x'],[t]=>i7 x x' && (match P.underlying t with | some (.slice _)=>true | _=>false)
   | _,_=>false)
  | _=>false
 | .piaddr sz x i=>match o.op with
  | .indexAddr t x' i'=>i7 x x' && i7 i i' && (match P.underlying t with
   | some (.slice e)=>(match P.info? e with | some inf=>inf.size == sz | none=>false)
   | _=>false)
  | _=>false
 | .pload agg n x=>match o.op with
  | .load t x'=>i7 x x' && (match P.info? t with | some i=>i.size == n | none=>false) && a6h P t == some agg && (agg || n == 1)
  | _=>false
 | .pstore n x y=>match o.op with
  | .store t x' y'=>i7 x x' && i7 y y' && (match P.info? t with | some i=>i.size == n | none=>false)
  | _=>false
def a3m (P:Program) (o:Oper) (p:POp):Bool:=
 match p with
 | .alloc z=>match o.op with
  | .alloc t=>(match P.info? t with | some i=>(match i.zero with | some v=>D5 z v.cells.toList | none=>false) | none=>false)
  | _=>false
 | .box x=>match o.op with
  | .box _ y=>i7 x y
  | _=>false
 | .build z parts=>match o.op with
  | .build t ps=>(match P.info? t,P.underlying t with
   | some i,some (.struct fs)=>(match i.zero,fs.toList.mapM (fun f=>(P.info? f.type).map fun i=>(f.offset,i.size)) with
    | some v,some places=>D5 z v.cells.toList && a2a places parts ps.toList
    | _,_=>false)
   | _,_=>false)
  | _=>false
 | .lit E sz xs=>match o.op with
  | .buildSlice t n ps=>(match P.underlying t with
   | some (.slice e)=>e == E && n == xs.length && n*sz≤16777216 && 0 < sz && a6e 0 xs ps.toList && (match P.info? e with
    | some i=>i.size == sz && (match i.zero with | some v=>v.cells.size == sz | none=>false)
    | none=>false)
   | _=>false)
  | _=>false
 | .store n x y=>match o.op with
  | .store t x' y'=>i7 x x' && i7 y y' && (match P.info? t with | some i=>i.size == n | none=>false)
  | _=>false
 | .app E sz bytes x y=>match o.op with
  | .call { callee:=.builtin .append,args,argTypes }=>(match args.toList,argTypes.toList with
   | [x',y'],[t,t']=>t == t' && i7 x x' && i7 y y' && (match P.underlying t with
    | some (.slice e)=>e == E && 0 < sz && (match P.info? e with
     | some i=>i.size == sz && i.bytes == bytes && (match i.zero with | some v=>v.cells.size == sz | none=>false)
     | none=>false)
    | _=>false)
   | _,_=>false)
  | _=>false
 | .call f xs=>match o.op with
  | .call { callee:=.value (.func f'),args,argTypes }=>f == f' && a0h xs args.toList && fnB P f
  | _=>false
 | .callv x xs=>match o.op with
  | .call { callee:=.value y,args,argTypes }=>i7 x y && a0h xs args.toList
  | _=>false
 | .callr f x xs=>match o.op with
  | .call { callee:=.value (.func f'),args,argTypes }=>f == f' && a0h (x :: xs) args.toList && fnB P f
  | _=>false
 | .pan x=>match o.op with
  | .panic y=>i7 x y
  | _=>false
 | .mks E sz bytes agg z x=>match o.op with
  | .makeSlice t l c=>i7 x c && i7 x l && (match P.underlying t with
   | some (.slice e)=>e == E && decide (0 < sz) && a6h P e == some agg && (agg || sz == 1) && (match P.info? e with
    | some i=>i.size == sz && i.bytes == bytes && (match i.zero with | some v=>v.cells.size == sz && D5 z v.cells.toList | none=>false)
    | none=>false)
   | _=>false)
  | _=>false
 | .isnil iface neg x=>match o.op with
  | .binOp op' t x' (.const v) _=>op' == (if neg then BinOp.neq else BinOp.eql) && i7 x x' && (match iface,v,P.underlying t with
   | true,.nilIface,some (.interface _)=>true
   | false,.slice none 0 0,some (.slice _)=>true
   | _,_,_=>false)
  | _=>false
 | .xop x=>U9 P o x
 | p=>m8 P o p
section
variable {P:Program} {F:Ctx} {γ:Nat→Value} {st:St} {a:Act} {w:World} {o:Oper} {K:Act→World→Prop} {Q:Exit→Act→World→Prop}
theorem oneR {L:Nat→Prop} {r:RV} {v:Value} (h:RepR L w r v) (ho:r.one=true):v.oneCell'=true:=by
 cases h<;>first | rfl | assumption | (simp [RV.one] at ho)
theorem b7d {v:Value} (h:v.oneCell'=true):v.cells=#[v]:=by
 cases v<;>first | rfl | (simp [Value.oneCell'] at h)
theorem a7h (hI:Inv F γ st a w) {p:PV} {v:Value} (h:RepP γ (i8 F.L γ st.mem) w p v) (ho:p.one st.mem=true):v.oneCell'=true:=by
 cases p with
 | val r=>exact oneR h.valI ho
 | emp s=>rw [h.empI];rfl
 | own id=>
  simp only [PV.one] at ho
  split at ho
  · rename_i E sz xs hm
    rw [h.ownI]
    obtain ⟨vs,h1,_⟩:=hI.mem.row id E sz xs hm
    rcases h1.2 with ⟨he,_⟩ | ⟨g,cap,cur,he,_⟩<;>(rw [he];rfl)
  · rename_i E sz n c hm
    rw [h.ownI]
    obtain ⟨vs,h1,_⟩:=hI.mem.prow id E sz n c hm
    rcases h1.2 with ⟨he,_⟩ | ⟨g,cap,cur,he,_⟩<;>(rw [he];rfl)
  · rename_i s clk m hm
    rw [h.ownI]
    obtain ⟨b,es,h1,_⟩:=hI.mem.map id s clk m hm
    rw [h1];rfl
  · cases ho
 | ptr id off=>obtain ⟨b,_,hv⟩:=h.ptrI;rw [hv];rfl
 | elt id j s off=>obtain ⟨b,_,_,_,hv⟩:=h.eltI;rw [hv];rfl
 | «at» cs=>obtain ⟨b,_,_,hv,_⟩:=h.atI;rw [hv];rfl
 | fn f cs=>obtain ⟨vs,hv,_⟩:=h.fnI;rw [hv];rfl
 | _=>simp [PV.one] at ho
theorem V1 (hI:Inv F γ st a w) {p:PV} {v:Value} (h:RepP γ (i8 F.L γ st.mem) w p v) (hs:p.solid st.mem=true) :
 v.cells.size=p.cells.length∧∀ j,j < p.cells.length→RepP γ (i8 F.L γ st.mem) w (p.cells.getD j .undef) (v.cells.getD j undef)∧(v.cells.getD j undef).oneCell'=true:=by
 have plain:p.cells=[p]→p.one st.mem=true→v.cells.size=p.cells.length∧∀ j,j < p.cells.length→RepP γ (i8 F.L γ st.mem) w (p.cells.getD j .undef) (v.cells.getD j undef)∧(v.cells.getD j undef).oneCell'=true:=fun hc ho=>by
  have h1:=a7h hI h ho
  rw [b7d h1,hc]
  refine ⟨rfl,fun j hj=>?_⟩
  obtain rfl:j=0:=by simpa using hj
  exact ⟨by simpa using h,by simpa using h1⟩
 cases p with
 | val r=>
  cases r with
  | agg cs=>
   obtain ⟨vs,hv,hl,hr⟩:=h.vaggI
   rw [hv]
   simp only [PV.cells,Value.cells,List.length_map]
   refine ⟨hl,fun j hj=>?_⟩
   rw [Q4 _ _ hj]
   have ho:(cs.getD j .nilptr).one=true:=by
    simp only [PV.solid,List.all_eq_true] at hs
    exact hs _ (R5 hj)
   exact ⟨.val _ _ (hr j hj),oneR (hr j hj) ho⟩
  | _=>exact plain rfl hs
 | agg cs=>
  obtain ⟨vs,hv,hl,hr⟩:=h.aggI
  rw [hv]
  simp only [PV.cells,Value.cells]
  refine ⟨hl,fun j hj=>?_⟩
  have ho:(cs.getD j .undef).one st.mem=true:=by
   simp only [PV.solid,List.all_eq_true] at hs
   exact hs _ (R5 hj)
  exact ⟨hr j hj,a7h hI (hr j hj) ho⟩
 | _=>exact plain rfl hs
theorem J7 {α:Type} (cs ps:List α) (off:Nat) (h:off+ps.length≤cs.length):(l0 cs off ps).length=cs.length:=by
 simp [l0];omega
theorem V2 {α:Type} (cs ps:List α) (off j:Nat) (d:α) (h:off+ps.length≤cs.length) :
 (l0 cs off ps).getD j d=if off≤j∧j < off+ps.length then ps.getD (j - off) d else cs.getD j d:=by
 simp only [l0,List.getD_eq_getElem?_getD,List.append_assoc]
 rw [List.getElem?_append]
 simp only [List.length_take]
 by_cases h1:j < off
 · rw [if_pos (by omega),if_neg (by omega),List.getElem?_take,if_pos h1]
 · rw [if_neg (by omega),List.getElem?_append,show j - min off cs.length=j - off from by omega]
   by_cases h2:j < off+ps.length
   · rw [if_pos (by omega),if_pos (by omega)]
   · rw [if_neg (by omega),if_neg (by omega),List.getElem?_drop]
     congr 2;omega
theorem b0i (cs:Array Value) (off:Nat):∀ (ps:List Value) (k:Nat) (acc:Array Value),acc.size=cs.size→off+k+ps.length≤cs.size →
 ((ps.zipIdx k).foldl (fun (acc:Array Value) (x:Value×Nat)=>acc.setIfInBounds (off+x.2) x.1) acc).toList=acc.toList.take (off+k)++ps++acc.toList.drop (off+k+ps.length)
 | [],k,acc,h,_=>by simp
 | p :: ps,k,acc,h,hb=>by
  simp only [List.length_cons] at hb
  rw [List.zipIdx_cons,List.foldl_cons,b0i cs off ps (k+1) _ (by simp [h]) (by omega)]
  simp only [Array.toList_setIfInBounds,List.length_cons]
  have hlen:acc.toList.length=cs.size:=by simp [h]
  have hlt:off+k < acc.toList.length:=by omega
  apply List.ext_getElem?
  intro j
  simp only [List.getElem?_append,List.length_take,List.length_set,List.getElem?_take,List.getElem?_drop,List.getElem?_set]
  have hm:min (off+(k+1)) acc.toList.length=off+k+1:=Nat.min_eq_left (by omega)
  have hm2:min (off+k) acc.toList.length=off+k:=Nat.min_eq_left (by omega)
  simp only [List.length_append,List.length_take,List.length_set,hm,hm2,List.length_cons]
  by_cases c1:j < off+k
  · simp [c1,show j < off+(k+1) by omega,show j < off+k+1 by omega,show j < off+k+1+ps.length by omega,show j < off+k+(ps.length+1) by omega,show off+k≠j by omega]
  · by_cases c2:j=off+k
    · subst c2
      have h5:off+k < acc.size:=by simpa using hlt
      simp [show off+k < off+(k+1) by omega,h5,show off+k < off+k+1+ps.length by omega]
    · by_cases c3:j < off+k+1+ps.length
      · simp [c1,show ¬ j < off+k+1 by omega,c3,show j < off+k+(ps.length+1) by omega,show j - (off+k)=(j - (off+k+1))+1 by omega]
      · simp [c3,show ¬ j < off+k+(ps.length+1) by omega]
        rw [if_neg (by omega)]
        congr 1;omega
theorem a3i (cs vs:Array Value) (off:Nat) (h:off+vs.size≤cs.size) :
 (vs.zipIdx.foldl (fun cs (x:Value×Nat)=>cs.setIfInBounds (off+x.2) x.1) cs).toList=l0 cs.toList off vs.toList:=by
 rw [← Array.foldl_toList,Array.toList_zipIdx,b0i cs off vs.toList 0 cs rfl (by simpa using h)]
 simp [l0]
theorem a8w (hI:Inv F γ st a w) {places:List (Nat×Nat)} {K':List PV→Prop}:∀ {parts:List (Nat×Nat×Opd)} {ps:List (Nat×Operand)} {cs:List PV} {vs:Array Value},a2a places parts ps=true→a0o st cs parts K' →
 vs.size=cs.length→(∀ j,j < cs.length→RepP γ (i8 F.L γ st.mem) w (cs.getD j .undef) (vs.getD j undef)) →
 ∃ cs' us,Instr.fill (places.toArray[·]?) vs (ps.map fun (i,x)=>(i,a.eval x))=some us∧us.size=cs'.length∧(∀ j,j < cs'.length→RepP γ (i8 F.L γ st.mem) w (cs'.getD j .undef) (us.getD j undef))∧K' cs'
 | [],[],cs,vs,_,h,hs,hr=>⟨cs,vs,rfl,hs,hr,h⟩
 | (off,n,x) :: parts,(i,y) :: ps,cs,vs,hc,h,hs,hr=>by
  simp only [a2a,Bool.and_eq_true,beq_iff_eq] at hc
  obtain ⟨⟨h1,h2⟩,h3⟩:=hc
  obtain ⟨g1,g2,g3,g4⟩:=h
  obtain ⟨k1,k2⟩:=V1 hI (j5 hI h2) g1
  have hsz:(a.eval y).cells.size=n:=by omega
  have hT:=a3i vs (a.eval y).cells off (by omega)
  have hlen:((a.eval y).cells.zipIdx.foldl (fun cs (x:Value×Nat)=>cs.setIfInBounds (off+x.2) x.1) vs).size=(l0 cs off (ev st x).cells).length:=by
   rw [← Array.length_toList,hT,J7 _ _ _ (by simp;omega),J7 _ _ _ (by omega)]
   simpa using hs
  obtain ⟨cs',us,e1,e2,e3,e4⟩:=a8w hI (vs:=(a.eval y).cells.zipIdx.foldl (fun cs (x:Value×Nat)=>cs.setIfInBounds (off+x.2) x.1) vs) h3 g4 hlen (fun j hj=>by
   rw [J7 _ _ _ (by omega)] at hj
   rw [V2 _ _ _ _ _ (by omega)]
   have:(((a.eval y).cells.zipIdx.foldl (fun cs (x:Value×Nat)=>cs.setIfInBounds (off+x.2) x.1) vs)).getD j undef=(l0 vs.toList off (a.eval y).cells.toList).getD j undef:=by
    rw [← hT];simp [Array.getD_eq_getD_getElem?,List.getD_eq_getElem?_getD]
   rw [this,V2 _ _ _ _ _ (by simp;omega)]
   simp only [Array.length_toList,k1]
   split
   · rename_i hh
     have:=(k2 (j - off) (by omega)).1
     simpa [Array.getD_eq_getD_getElem?,List.getD_eq_getElem?_getD] using this
   · have:=hr j hj
     simpa [Array.getD_eq_getD_getElem?,List.getD_eq_getElem?_getD] using this)
  refine ⟨cs',us,?_,e2,e3,e4⟩
  have hpl:places.toArray[i]?=some (off,n):=by simpa using h1
  show Instr.fill (places.toArray[·]?) vs ((i,a.eval y) :: ps.map fun (i,x)=>(i,a.eval x))=some us
  simp only [Instr.fill,hpl]
  rw [if_neg (by simp;omega)]
  exact e1
 | [],_ :: _,_,_,hc,_,_,_=>by simp [a2a] at hc
 | _ :: _,[],_,_,hc,_,_,_=>by simp [a2a] at hc
theorem a4v {γ:Nat→Value} {L:Nat→Prop} {w:World} {z:List PV} {vs:Array Value} (h:D5 z vs.toList=true):vs.size=z.length∧∀ j,j < z.length→RepP γ L w (z.getD j .undef) (vs.getD j undef)∧(vs.getD j undef).oneCell'=true:=by
 refine ⟨by have:=a0u h;simpa using this.symm,fun j hj=>?_⟩
 have:=a10 h j hj
 have e:vs.toList.getD j undef=vs.getD j undef:=by simp [Array.getD_eq_getD_getElem?,List.getD_eq_getElem?_getD]
 rw [e] at this
 exact ⟨V4 this,a60 this⟩
theorem a25 {w':World} (h:(execOp a.eval o).run P w=.ok .skip w') (hk:K (a.put o.dst undef) w'):o.wp P a w K Q:=by
 unfold Oper.wp Oper.upon
 rw [h]
 exact hk
theorem b5w (hI:Inv F γ st a w) (d:Nat) (hdn:d < 900) (cs:List PV) (vs:Array Value) (T:TypeId) (hs:vs.size=cs.length) (hk:PV.killL (· == d) cs=cs)
 (hr:∀ j,j < cs.length→RepP γ (i8 F.L γ st.mem) w (cs.getD j .undef) (vs.getD j undef)∧(vs.getD j undef).oneCell'=true) :
 Inv F (upd d (.pointer (some ⟨w.heap.size,0,none⟩)) γ) { env:=fun x=>(st.env x).kill (· == d),mem:=upd d (.box cs) fun x=>(st.mem x).kill (· == d) } a (w.alloc (.cells vs T)):=by
 refine hI.alloc d (.cells vs T) _ (.box cs) rfl (fun γ' L' hγ hd hkk=>?_) rfl hdn
 refine ⟨w.heap.size,vs,T,rfl,heap_alloc_new w _,hs,.inl hI.fr.size,fun j hj=>⟨?_,(hr j hj).2⟩⟩
 have:=(hr j hj).1.mono (· == d) hγ hkk
 rw [← PV.killL_getD _ _ _ hj,hk] at this
 exact this
theorem a8d (T:TypeId) (v:Value):(newVar T v).run P w=.ok ⟨w.heap.size,0,none⟩ (w.alloc (.cells v.cells T)):=by
 rfl
end
end Go.PW
