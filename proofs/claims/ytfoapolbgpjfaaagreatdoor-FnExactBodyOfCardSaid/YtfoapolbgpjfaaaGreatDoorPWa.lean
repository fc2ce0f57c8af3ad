/- A pure account of values, cells and calls: what a Go value stands for, independent of addresses, draws and capacities. -/
import Derived.Calls
import Derived.Below
import Derived.Laws.AppendOwn
import Derived.Laws.Rows
import Derived.Laws.Cells
import Derived.Laws.Tables
import Derived.WalkKit
set_option linter.unusedSectionVars false
set_option linter.unusedSimpArgs false
set_option linter.unusedVariables false
namespace Go.PW
open Go.RowKit
inductive RV where
 | bool (b:Bool)
 | int (k:IntKind) (n:Int)
 | str (s:ByteArray)
 | agg (cs:List RV)
 | list (sz:Nat) (xs:List RV)
 | nilptr
 | nilfn
 | nilif
 | ifc (t:TypeId) (r:RV)
 | opq
 deriving Inhabited
def RV.cells:RV→List RV
 | .agg cs=>cs
 | r=>[r]
inductive RepR (L:Nat→Prop) (w:World):RV→Value→Prop
 | bool (b:Bool):RepR L w (.bool b) (.bool b)
 | int (k:IntKind) (n:Int):RepR L w (.int k n) (.int k n)
 | str (s:ByteArray):RepR L w (.str s) (.string s)
 | agg (cs:List RV) (vs:Array Value) (hs:vs.size=cs.length) (h:∀ i,i < cs.length→RepR L w (cs.getD i .nilptr) (vs.getD i undef)):RepR L w (.agg cs) (.agg vs)
 | list0 (sz:Nat) (A:Option Addr) (c:Nat):RepR L w (.list sz []) (.slice A 0 c)
 | list (sz:Nat) (xs:List RV) (b o c:Nat) (f:Nat→Value) (h0:xs≠[]) (hsz:0 < sz) (hcap:xs.length≤c) (hb:¬ L b)
  (hc:∀ j,j < xs.length*sz→w.cell? ⟨b,o+j,none⟩=some (f j))
  (hx:∀ x∈xs,x.cells.length=sz) (h:∀ i k,i < xs.length→k < sz→RepR L w ((xs.getD i .nilptr).cells.getD k .nilptr) (f (i*sz+k))) :
  RepR L w (.list sz xs) (.slice (some ⟨b,o,none⟩) xs.length c)
 | nilptr:RepR L w .nilptr (.pointer none)
 | nilfn:RepR L w .nilfn .nilFunc
 | nilif:RepR L w .nilif .nilIface
 | ifc (t:TypeId) (r:RV) (v:Value) (h:RepR L w r v):RepR L w (.ifc t r) (.iface t v)
 | opq (v:Value) (h:v.oneCell'=true):RepR L w .opq v
def Keeps (L:Nat→Prop) (w:World) (L':Nat→Prop) (w':World):Prop:=
 ∀ b o v,¬ L b→w.cell? ⟨b,o,none⟩=some v→¬ L' b∧w'.cell? ⟨b,o,none⟩=some v
theorem Keeps.refl (L:Nat→Prop) (w:World):Keeps L w L w:=fun _ _ _ h1 h2=>⟨h1,h2⟩
theorem RepR.mono {L L':Nat→Prop} {w w':World} (hk:Keeps L w L' w') {r:RV} {v:Value} (h:RepR L w r v):RepR L' w' r v:=by
 induction h with
 | bool b=>exact .bool b
 | int k n=>exact .int k n
 | str s=>exact .str s
 | agg cs vs hs _ ih=>exact .agg cs vs hs ih
 | list0 sz A c=>exact .list0 sz A c
 | list sz xs b o c f h0 hsz hcap hb hc hx _ ih=>
  have hpos:0 < xs.length*sz:=Nat.mul_pos (List.length_pos_iff.2 h0) hsz
  exact .list sz xs b o c f h0 hsz hcap (hk b _ _ hb (hc 0 hpos)).1 (fun j hj=>(hk b _ _ hb (hc j hj)).2) hx ih
 | nilptr=>exact .nilptr
 | nilfn=>exact .nilfn
 | nilif=>exact .nilif
 | ifc t r v _ ih=>exact .ifc t r v ih
 | opq v h=>exact .opq v h
inductive PV where
 | undef
 | skip
 | val (r:RV)
 | emp (sz:Nat)
 | own (id:Nat)
 | ptr (id off:Nat)
 | elt (id j sz off:Nat)
 | at (cells:List RV)
 | agg (cs:List PV)
 | tup (vs:List PV)
 | fn (f:Nat) (caps:List PV)
 deriving Inhabited
inductive RepP (γ:Nat→Value) (L:Nat→Prop) (w:World):PV→Value→Prop
 | undef (v:Value):RepP γ L w .undef v
 | skip:RepP γ L w .skip Go.undef
 | val (r:RV) (v:Value) (h:RepR L w r v):RepP γ L w (.val r) v
 | emp (sz:Nat):RepP γ L w (.emp sz) (.slice none 0 0)
 | own (id:Nat) (v:Value) (h:v=γ id):RepP γ L w (.own id) v
 | ptr (id off b:Nat) (h:γ id=.pointer (some ⟨b,0,none⟩)):RepP γ L w (.ptr id off) (.pointer (some ⟨b,off,none⟩))
 | elt (id j sz off b n c:Nat) (h:γ id=.slice (some ⟨b,0,none⟩) n c):RepP γ L w (.elt id j sz off) (.pointer (some ⟨b,j*sz+off,none⟩))
 | at (cells:List RV) (b o:Nat) (f:Nat→Value) (hb:¬ L b) (h0:cells≠[]) (hc:∀ j,j < cells.length→w.cell? ⟨b,o+j,none⟩=some (f j))
  (h:∀ j,j < cells.length→RepR L w (cells.getD j .nilptr) (f j)):RepP γ L w (.at cells) (.pointer (some ⟨b,o,none⟩))
 | agg (cs:List PV) (vs:Array Value) (hs:vs.size=cs.length) (h:∀ i,i < cs.length→RepP γ L w (cs.getD i .undef) (vs.getD i Go.undef)):RepP γ L w (.agg cs) (.agg vs)
 | tup (cs:List PV) (vs:Array Value) (hs:vs.size=cs.length) (h:∀ i,i < cs.length→RepP γ L w (cs.getD i .undef) (vs.getD i Go.undef)):RepP γ L w (.tup cs) (.tuple vs)
 | fn (f:Nat) (cs:List PV) (vs:Array Value) (hs:vs.size=cs.length) (h:∀ i,i < cs.length→RepP γ L w (cs.getD i .undef) (vs.getD i Go.undef)):RepP γ L w (.fn f cs) (.func (.func f) #[] vs)
mutual
def PV.kill (d:Nat→Bool):PV→PV
 | .own i=>if d i then .undef else .own i
 | .ptr i o=>if d i then .undef else .ptr i o
 | .elt i j s o=>if d i then .undef else .elt i j s o
 | .agg cs=>.agg (PV.killL d cs)
 | .tup cs=>.tup (PV.killL d cs)
 | .fn f cs=>.fn f (PV.killL d cs)
 | .undef=>.undef
 | .skip=>.skip
 | .val r=>.val r
 | .emp s=>.emp s
 | .at cs=>.at cs
def PV.killL (d:Nat→Bool):List PV→List PV
 | []=>[]
 | p :: ps=>p.kill d :: PV.killL d ps
end
theorem PV.killL_map (d:Nat→Bool) (ps:List PV):PV.killL d ps=ps.map (PV.kill d):=by
 induction ps with
 | nil=>rfl
 | cons p ps ih=>simp [PV.killL,ih]
theorem PV.killL_length (d:Nat→Bool) (ps:List PV):(PV.killL d ps).length=ps.length:=by simp [PV.killL_map]
theorem PV.killL_getD (d:Nat→Bool) (ps:List PV) (i:Nat) (h:i < ps.length):(PV.killL d ps).getD i .undef=(ps.getD i .undef).kill d:=by
 simp [PV.killL_map,List.getD_eq_getElem?_getD,List.getElem?_map,List.getElem?_eq_getElem h]
theorem RepP.mono {γ γ':Nat→Value} {L L':Nat→Prop} {w w':World} (d:Nat→Bool) (hγ:∀ i,d i=false→γ' i=γ i) (hk:Keeps L w L' w') {p:PV} {v:Value} (h:RepP γ L w p v):RepP γ' L' w' (p.kill d) v:=by
 induction h with
 | undef v=>exact .undef v
 | skip=>exact .skip
 | val r v h=>exact .val r v (h.mono hk)
 | emp s=>exact .emp s
 | own id v h=>
  simp only [PV.kill]
  cases hd:d id with
  | true=>exact .undef _
  | false=>exact .own id v (by rw [h,hγ id hd])
 | ptr id off b h=>
  simp only [PV.kill]
  cases hd:d id with
  | true=>exact .undef _
  | false=>exact .ptr id off b (by rw [hγ id hd,h])
 | elt id j sz off b n c h=>
  simp only [PV.kill]
  cases hd:d id with
  | true=>exact .undef _
  | false=>exact .elt id j sz off b n c (by rw [hγ id hd,h])
 | «at» cells b o f hb h0 hc h=>
  have hpos:=List.length_pos_iff.2 h0
  exact .at cells b o f (hk b _ _ hb (hc 0 hpos)).1 h0 (fun j hj=>(hk b _ _ hb (hc j hj)).2) (fun j hj=>(h j hj).mono hk)
 | agg cs vs hs _ ih=>exact .agg _ vs (by rw [PV.killL_length];exact hs) (fun i hi=>by rw [PV.killL_length] at hi;rw [PV.killL_getD _ _ _ hi];exact ih i hi)
 | tup cs vs hs _ ih=>exact .tup _ vs (by rw [PV.killL_length];exact hs) (fun i hi=>by rw [PV.killL_length] at hi;rw [PV.killL_getD _ _ _ hi];exact ih i hi)
 | fn f cs vs hs _ ih=>exact .fn f _ vs (by rw [PV.killL_length];exact hs) (fun i hi=>by rw [PV.killL_length] at hi;rw [PV.killL_getD _ _ _ hi];exact ih i hi)
mutual
theorem PV.kill_none:∀ p:PV,p.kill (fun _=>false)=p
 | .own i=>by simp [PV.kill]
 | .ptr i o=>by simp [PV.kill]
 | .elt i j s o=>by simp [PV.kill]
 | .agg cs=>by simp [PV.kill,PV.killL_none cs]
 | .tup cs=>by simp [PV.kill,PV.killL_none cs]
 | .fn f cs=>by simp [PV.kill,PV.killL_none cs]
 | .undef=>rfl
 | .skip=>rfl
 | .val r=>rfl
 | .emp s=>rfl
 | .at cs=>rfl
theorem PV.killL_none:∀ ps:List PV,PV.killL (fun _=>false) ps=ps
 | []=>rfl
 | p :: ps=>by simp [PV.killL,PV.kill_none p,PV.killL_none ps]
end
theorem RepP.keep {γ:Nat→Value} {L L':Nat→Prop} {w w':World} (hk:Keeps L w L' w') {p:PV} {v:Value} (h:RepP γ L w p v):RepP γ L' w' p v:=by
 have:=h.mono (γ':=γ) (fun _=>false) (fun _ _=>rfl) hk
 rwa [PV.kill_none] at this
mutual
def PV.ren (ι:Nat→Nat):PV→PV
 | .own i=>.own (ι i)
 | .ptr i o=>.ptr (ι i) o
 | .elt i j s o=>.elt (ι i) j s o
 | .agg cs=>.agg (PV.renL ι cs)
 | .tup cs=>.tup (PV.renL ι cs)
 | .fn f cs=>.fn f (PV.renL ι cs)
 | .undef=>.undef
 | .skip=>.skip
 | .val r=>.val r
 | .emp s=>.emp s
 | .at cs=>.at cs
def PV.renL (ι:Nat→Nat):List PV→List PV
 | []=>[]
 | p :: ps=>p.ren ι :: PV.renL ι ps
end
theorem PV.renL_map (ι:Nat→Nat) (ps:List PV):PV.renL ι ps=ps.map (PV.ren ι):=by
 induction ps with
 | nil=>rfl
 | cons p ps ih=>simp [PV.renL,ih]
theorem PV.renL_length (ι:Nat→Nat) (ps:List PV):(PV.renL ι ps).length=ps.length:=by simp [PV.renL_map]
theorem PV.renL_getD (ι:Nat→Nat) (ps:List PV) (i:Nat) (h:i < ps.length):(PV.renL ι ps).getD i .undef=(ps.getD i .undef).ren ι:=by
 simp [PV.renL_map,List.getD_eq_getElem?_getD,List.getElem?_map,List.getElem?_eq_getElem h]
mutual
theorem RepP.ren {γ:Nat→Value} {L:Nat→Prop} {w:World} {ι:Nat→Nat}:∀ (p:PV) {v:Value},RepP γ L w (p.ren ι) v→RepP (fun i=>γ (ι i)) L w p v
 | .own i,v,h=>by simp only [PV.ren] at h;cases h with | own _ _ h=>exact .own i v h
 | .ptr i o,v,h=>by simp only [PV.ren] at h;cases h with | ptr _ _ b h=>exact .ptr i o b h
 | .elt i j s o,v,h=>by simp only [PV.ren] at h;cases h with | elt _ _ _ _ b n c h=>exact .elt i j s o b n c h
 | .agg cs,v,h=>by
  simp only [PV.ren] at h
  cases h with
  | agg _ vs hs h=>
   rw [PV.renL_length] at hs h
   exact .agg cs vs hs (renL cs (fun j=>vs.getD j Go.undef) fun j hj=>by have:=h j hj;rwa [PV.renL_getD _ _ _ hj] at this)
 | .tup cs,v,h=>by
  simp only [PV.ren] at h
  cases h with
  | tup _ vs hs h=>
   rw [PV.renL_length] at hs h
   exact .tup cs vs hs (renL cs (fun j=>vs.getD j Go.undef) fun j hj=>by have:=h j hj;rwa [PV.renL_getD _ _ _ hj] at this)
 | .fn f cs,v,h=>by
  simp only [PV.ren] at h
  cases h with
  | fn _ _ vs hs h=>
   rw [PV.renL_length] at hs h
   exact .fn f cs vs hs (renL cs (fun j=>vs.getD j Go.undef) fun j hj=>by have:=h j hj;rwa [PV.renL_getD _ _ _ hj] at this)
 | .undef,v,_=>.undef v
 | .skip,v,h=>by simp only [PV.ren] at h;cases h;exact .skip
 | .val r,v,h=>by simp only [PV.ren] at h;cases h with | val _ _ h=>exact .val r v h
 | .emp s,v,h=>by simp only [PV.ren] at h;cases h;exact .emp s
 | .at cs,v,h=>by simp only [PV.ren] at h;cases h with | «at» _ b o f hb h0 hc h=>exact .at cs b o f hb h0 hc h
theorem renL {γ:Nat→Value} {L:Nat→Prop} {w:World} {ι:Nat→Nat}:∀ (ps:List PV) (f:Nat→Value),(∀ j,j < ps.length→RepP γ L w ((ps.getD j .undef).ren ι) (f j))→∀ j,j < ps.length→RepP (fun i=>γ (ι i)) L w (ps.getD j .undef) (f j)
 | [],f,_,j,hj=>by simp at hj
 | p :: ps,f,h,j,hj=>by
  cases j with
  | zero=>exact RepP.ren p (by simpa using h 0 (by simp))
  | succ j=>exact renL ps (fun j=>f (j+1)) (fun j hj=>by simpa using h (j+1) (by simpa using hj)) j (by simpa using hj)
end
theorem RepP.renTo {γ γ':Nat→Value} {L:Nat→Prop} {w:World} {ι:Nat→Nat} (hγ:∀ i,γ' (ι i)=γ i) {p:PV} {v:Value} (h:RepP γ L w p v):RepP γ' L w (p.ren ι) v:=by
 induction h with
 | undef v=>exact .undef v
 | skip=>exact .skip
 | val r v h=>exact .val r v h
 | emp s=>exact .emp s
 | own id v h=>exact .own _ v (by rw [hγ];exact h)
 | ptr id off b h=>exact .ptr _ off b (by rw [hγ];exact h)
 | elt id j sz off b n c h=>exact .elt _ j sz off b n c (by rw [hγ];exact h)
 | «at» cells b o f hb h0 hc h=>exact .at cells b o f hb h0 hc h
 | agg cs vs hs _ ih=>exact .agg _ vs (by rw [PV.renL_length];exact hs) (fun i hi=>by rw [PV.renL_length] at hi;rw [PV.renL_getD _ _ _ hi];exact ih i hi)
 | tup cs vs hs _ ih=>exact .tup _ vs (by rw [PV.renL_length];exact hs) (fun i hi=>by rw [PV.renL_length] at hi;rw [PV.renL_getD _ _ _ hi];exact ih i hi)
 | fn f cs vs hs _ ih=>exact .fn f _ vs (by rw [PV.renL_length];exact hs) (fun i hi=>by rw [PV.renL_length] at hi;rw [PV.renL_getD _ _ _ hi];exact ih i hi)
inductive MKey where
 | i (n:Int)
 | s (t:ByteArray)
 deriving DecidableEq
inductive MObj where
 | dead
 | box (cs:List PV)
 | row (E sz:Nat) (xs:List RV)
 | prow (E sz n:Nat) (c:Nat→Nat→PV)
 | map (str:Bool) (clk:Nat) (m:MKey→Option (PV×Nat))
 deriving Inhabited
def MObj.kill (d:Nat→Bool):MObj→MObj
 | .box cs=>.box (PV.killL d cs)
 | .prow E sz n c=>.prow E sz n fun j k=>(c j k).kill d
 | .map s clk m=>.map s clk fun k=>(m k).map fun p=>(p.1.kill d,p.2)
 | .row E sz xs=>.row E sz xs
 | .dead=>.dead
def MObj.ren (ι:Nat→Nat):MObj→MObj
 | .box cs=>.box (PV.renL ι cs)
 | .prow E sz n c=>.prow E sz n fun j k=>(c j k).ren ι
 | .map s clk m=>.map s clk fun k=>(m k).map fun p=>(p.1.ren ι,p.2)
 | .row E sz xs=>.row E sz xs
 | .dead=>.dead
def MObj.kind:MObj→Nat
 | .dead=>0
 | .box _=>1
 | .row _ _ _=>2
 | .prow _ _ _ _=>3
 | .map _ _ _=>4
def MObj.live:MObj→Bool
 | .dead=>false
 | _=>true
def Value.blk:Value→Option Nat
 | .pointer (some a)=>some a.block
 | .slice (some a) _ _=>some a.block
 | .map (some b)=>some b
 | _=>none
structure Ctx where
 L:Nat→Prop
 w0:World
 pb:List Nat
 n:Nat
 /-- The row that was handed over to be written. -/
 pv:Option Value:=none
 /-- The block that was handed over under an id;the value that an id keeps. -/
 po:Nat→Option Nat:=fun _=>none
 pn:Nat→Option Value:=fun _=>none
 /-- The calls that the frame has put off already. -/
 dl:List Deferred:=[]
def Ctx.B (F:Ctx):Nat:=F.w0.heap.size
def Ctx.wr (F:Ctx) (i b:Nat):Prop:=b∈F.pb∨F.po i=some b
def Ctx.wx (F:Ctx) (b:Nat):Prop:=b∈F.pb∨∃ i,F.po i=some b
theorem Ctx.wr.x {F:Ctx} {i b:Nat} (h:F.wr i b):F.wx b:=h.imp id fun h=>⟨i,h⟩
def okId (i:Nat):Bool:=decide (i < 900) || (decide (1000≤i) && decide (i < 1000000))
def Ctx.rok (F:Ctx) (id b:Nat):Prop:=F.B≤b∨(id=900∧F.pv.isSome=true∧b∈F.pb)∨F.po id=some b
theorem Ctx.rok.own {F:Ctx} {id b:Nat} (h:F.rok id b) (h9:id≠900∨F.pv=none) (ho:F.po id=none):F.B≤b:=by
 rcases h with h | ⟨h1,h2,_⟩ | h
 · exact h
 · rcases h9 with h9 | h9
   · exact absurd h1 h9
   · rw [h9] at h2;cases h2
 · rw [ho] at h;cases h
theorem Ctx.rok.wr {F:Ctx} {id b:Nat} (h:F.rok id b):F.B≤b∨F.wr id b:=by
 rcases h with h | ⟨_,_,h⟩ | h
 · exact .inl h
 · exact .inr (.inl h)
 · exact .inr (.inr h)
def i8 (L:Nat→Prop) (γ:Nat→Value) (M:Nat→MObj) (b:Nat):Prop:=L b∨∃ id,(M id).live=true∧Value.blk (γ id)=some b
def _root_.Go.World.rowAt (w:World) (ok:Nat→Prop) (e:TypeId) (size:Nat) (v:Value) (n:Nat) (xs:List Value):Prop:=
 xs.length=n*size ∧
 ((v=.slice none 0 0∧n=0) ∨
  ∃ g cap cur,v=.slice (some ⟨g,0,none⟩) n cap∧ok g∧w.heap[g]?=some (.cells cur e (0,0))∧n≤cap∧cap≤maxLen∧cur.size=cap*size∧cur.toList.take (n*size)=xs)
theorem _root_.Go.World.rowAt.own0 {w:World} {ok:Nat→Prop} {e:TypeId} {size:Nat} {v:Value} {n:Nat} {xs:List Value} (h:w.rowAt ok e size v n xs):w.ownsRow 0 e size v n xs:=by
 refine ⟨h.1,?_⟩
 rcases h.2 with hn | ⟨g,cap,cur,hv,_,r⟩
 · exact .inl hn
 · exact .inr ⟨g,cap,cur,hv,Nat.zero_le _,r⟩
theorem _root_.Go.World.rowAt.of {w:World} {ok:Nat→Prop} {B:Nat} {e:TypeId} {size:Nat} {v:Value} {n:Nat} {xs:List Value} (h:w.ownsRow B e size v n xs) (hok:∀ b,v.ownBlock=some b→ok b):w.rowAt ok e size v n xs:=by
 refine ⟨h.1,?_⟩
 rcases h.2 with hn | ⟨g,cap,cur,hv,_,r⟩
 · exact .inl hn
 · exact .inr ⟨g,cap,cur,hv,hok g (by rw [hv];rfl),r⟩
theorem _root_.Go.World.rowAt.ok {w:World} {ok:Nat→Prop} {e:TypeId} {size:Nat} {v:Value} {n:Nat} {xs:List Value} (h:w.rowAt ok e size v n xs) {b:Nat} (hb:Value.blk v=some b):ok b:=by
 rcases h.2 with ⟨hn,_⟩ | ⟨g,cap,cur,hv,hg,r⟩
 · rw [hn] at hb;cases hb
 · rw [hv] at hb
   simp only [Value.blk,Option.some.injEq] at hb
   exact hb ▸ hg
theorem _root_.Go.World.rowAt.mono {w w':World} {ok ok':Nat→Prop} {e:TypeId} {size:Nat} {v:Value} {n:Nat} {xs:List Value} (h:w.rowAt ok e size v n xs) (hok:∀ b,Value.blk v=some b→ok b→ok' b) (hb:∀ b,Value.blk v=some b→w'.heap[b]?=w.heap[b]?):w'.rowAt ok' e size v n xs:=by
 refine ⟨h.1,?_⟩
 rcases h.2 with hn | ⟨g,cap,cur,hv,hg,hh,r⟩
 · exact .inl hn
 · exact .inr ⟨g,cap,cur,hv,hok g (by rw [hv];rfl) hg,by rw [hb g (by rw [hv];rfl)];exact hh,r⟩
theorem _root_.Go.World.rowAt.cells {w:World} {ok:Nat→Prop} {e:TypeId} {size:Nat} {v:Value} {n:Nat} {xs:List Value} (h:w.rowAt ok e size v n xs) {g:Nat} (hg:v.ownBlock=some g) (k:Nat) (y:Value) (hk:xs[k]?=some y):w.cell? ((⟨g,0,none⟩:Addr).add k)=some y:=h.own0.cells hg k y hk
def a3s (L:Nat→Prop) (w:World) (sz:Nat) (xs:List RV) (vs:List Value):Prop:=
 (∀ x∈xs,x.cells.length=sz)∧∀ i k,i < xs.length→k < sz→RepR L w ((xs.getD i .nilptr).cells.getD k .nilptr) (vs.getD (i*sz+k) undef)
def K3:Value→Option MKey
 | .int .i64 n=>some (.i n)
 | .string s=>some (.s s)
 | _=>none
def MKey.isS:MKey→Bool
 | .i _=>false
 | .s _=>true
structure MapOK (γ:Nat→Value) (L:Nat→Prop) (w:World) (s:Bool) (clk:Nat) (m:MKey→Option (PV×Nat)) (es:List MapEntry):Prop where
 key:∀ e∈es,∃ k,K3 e.key=some k∧k.isS=s
 one:es.Pairwise fun a b=>K3 a.key≠K3 b.key
 val:∀ e∈es,∀ k,K3 e.key=some k→∃ p,m k=some (p,e.born)∧RepP γ L w p e.val∧e.val.oneCell'=true
 out:∀ k,(∀ e∈es,K3 e.key≠some k)→m k=none
 lt:∀ e∈es,e.born < clk
 born:es.Pairwise fun a b=>a.born≠b.born
structure MemInv (F:Ctx) (γ:Nat→Value) (M:Nat→MObj) (w:World):Prop where
 box:∀ id cs,M id=.box cs→∃ b arr T,γ id=.pointer (some ⟨b,0,none⟩)∧w.heap[b]?=some (.cells arr T (0,0))∧arr.size=cs.length∧(F.B≤b∨F.wr id b) ∧
  ∀ j,j < cs.length→RepP γ (i8 F.L γ M) w (cs.getD j .undef) (arr.getD j undef)∧(arr.getD j undef).oneCell'=true
 row:∀ id E sz xs,M id=.row E sz xs→∃ vs,w.rowAt (F.rok id) E sz (γ id) xs.length vs∧0 < sz∧a3s (i8 F.L γ M) w sz xs vs∧∀ v∈vs,v.oneCell'=true
 prow:∀ id E sz n c,M id=.prow E sz n c→∃ vs,w.rowAt (F.rok id) E sz (γ id) n vs∧0 < sz∧∀ j k,j < n→k < sz→RepP γ (i8 F.L γ M) w (c j k) (vs.getD (j*sz+k) undef)∧(vs.getD (j*sz+k) undef).oneCell'=true
 map:∀ id s clk m,M id=.map s clk m→∃ b es,γ id=.map (some b)∧w.heap[b]?=some (.map es clk)∧(F.B≤b∨F.wr id b)∧MapOK γ (i8 F.L γ M) w s clk m es.toList
 inj:∀ id id' b,(M id).live=true→(M id').live=true→Value.blk (γ id)=some b→Value.blk (γ id')=some b→id=id'
class GF where
 gs:List (Nat×Nat×Value)
 bs:List (Nat×Obj)
variable [GF]
def a9l (L:Nat→Prop) (w:World):Prop:=∀ g∈GF.bs,¬ L g.1∧w.heap[g.1]?=some g.2
structure Frame0 (F:Ctx) (w:World):Prop where
 os:w.os=F.w0.os
 tape:w.tape=F.w0.tape
 output:w.output=F.w0.output
 size:F.B≤w.heap.size
 block:∀ k,k < F.B→¬ F.wx k→w.heap[k]?=F.w0.heap[k]?
 hL:∀ b,F.L b→b < F.B
 hpb:∀ b,F.wx b→F.L b
 hn:F.n≤900
 hgb:a9l F.L F.w0
 hpo:∀ i b,F.po i=some b→okId i=false
 hpn:∀ i v,F.pn i=some v→900≤i∧i < 1000
structure St where
 env:Nat→PV
 mem:Nat→MObj
def Globs (L:Nat→Prop) (w:World):Prop:=∀ g∈GF.gs,¬ L g.1∧w.cell? ⟨g.1,g.2.1,none⟩=some g.2.2
theorem Globs.keep {L L':Nat→Prop} {w w':World} (h:Globs L w) (hk:Keeps L w L' w'):Globs L' w':=fun g hg=>hk _ _ _ (h g hg).1 (h g hg).2
structure Inv (F:Ctx) (γ:Nat→Value) (st:St) (a:Act) (w:World):Prop where
 sz:a.tmps.size=F.n
 df:a.defers=F.dl
 env:∀ x,RepP γ (i8 F.L γ st.mem) w (st.env x) (a.tmps.getD x undef)
 mem:MemInv F γ st.mem w
 fr:Frame0 F w
 gl:Globs (i8 F.L γ st.mem) w
 pin:∀ k b cs,F.pb[k]?=some b→st.mem (900+k)=.box cs→γ (900+k)=.pointer (some ⟨b,0,none⟩)
 pinr:∀ v E sz xs,F.pv=some v→st.mem 900=.row E sz xs→γ 900=v
 pinn:∀ i v,F.pn i=some v→(st.mem i).live=true→γ i=v
def upd {α:Type} (d:Nat) (v:α) (f:Nat→α):Nat→α:=fun x=>if x=d then v else f x
theorem l9 {α:Type} (d:Nat) (v:α) (f:Nat→α):upd d v f d=v:=by simp [upd]
theorem l8 {α:Type} (d:Nat) (v:α) (f:Nat→α) (x:Nat) (h:x≠d):upd d v f x=f x:=by simp [upd,h]
def St.set (st:St) (d:Nat) (p:PV):St:={ st with env:=upd d p st.env }
def St.kill (st:St) (d:Nat→Bool):St:={ env:=fun x=>(st.env x).kill d,mem:=fun x=>if d x then .dead else (st.mem x).kill d }
theorem Inv.put {F:Ctx} {γ:Nat→Value} {st:St} {a:Act} {w:World} (h:Inv F γ st a w) (d:Nat) (hd:d < F.n) {p:PV} {v:Value} (hp:RepP γ (i8 F.L γ st.mem) w p v) :
 Inv F γ (st.set d p) (a.put (some d) v) w:=by
 refine ⟨by simp [Act.put,h.sz],h.df,fun x=>?_,h.mem,h.fr,h.gl,h.pin,h.pinr,h.pinn⟩
 simp only [St.set,Act.put]
 by_cases hx:x=d
 · subst hx
   rw [l9]
   have:(a.tmps.setIfInBounds x v).getD x undef=v:=by
    simp [Array.getD_eq_getD_getElem?,Array.getElem?_setIfInBounds,h.sz,hd]
   rw [this]
   exact hp
 · rw [l8 _ _ _ _ hx]
   have:(a.tmps.setIfInBounds d v).getD x undef=a.tmps.getD x undef:=by
    simp [Array.getD_eq_getD_getElem?,Array.getElem?_setIfInBounds,Ne.symm hx]
   rw [this]
   exact h.env x
theorem Inv.put_none {F:Ctx} {γ:Nat→Value} {st:St} {a:Act} {w:World} (h:Inv F γ st a w) (v:Value):Inv F γ st (a.put none v) w:=h
theorem Keeps.later {L:Nat→Prop} {w w':World} (h:Below w.heap.size w w'):Keeps L w L w':=fun b o v h1 h2=>
 ⟨h1,(h.cell (World.block_lt_of_cell? w _ h2)).trans h2⟩
theorem MapOK.kept {γ γ':Nat→Value} {L L':Nat→Prop} {w w':World} (d:Nat→Bool) (hγ:∀ i,d i=false→γ' i=γ i) (hk:Keeps L w L' w') {s:Bool} {clk:Nat} {m:MKey→Option (PV×Nat)} {es:List MapEntry}
 (h:MapOK γ L w s clk m es):MapOK γ' L' w' s clk (fun k=>(m k).map fun p=>(p.1.kill d,p.2)) es:=
 ⟨h.key,h.one,fun e he k hek=>by
  obtain ⟨p,h1,h2,h3⟩:=h.val e he k hek
  exact ⟨p.kill d,by rw [h1];rfl,h2.mono d hγ hk,h3⟩,fun k hn=>by rw [h.out k hn];rfl,h.lt,h.born⟩
theorem MapOK.keep {γ:Nat→Value} {L L':Nat→Prop} {w w':World} (hk:Keeps L w L' w') {s:Bool} {clk:Nat} {m:MKey→Option (PV×Nat)} {es:List MapEntry} (h:MapOK γ L w s clk m es):MapOK γ L' w' s clk m es:=
 ⟨h.key,h.one,fun e he k hek=>by
  obtain ⟨p,h1,h2,h3⟩:=h.val e he k hek
  exact ⟨p,h1,h2.keep hk,h3⟩,h.out,h.lt,h.born⟩
theorem MemInv.later {F:Ctx} {γ:Nat→Value} {M:Nat→MObj} {w w':World} (h:MemInv F γ M w) (hb:Below w.heap.size w w'):MemInv F γ M w':=by
 have hrow:∀ (ok:Nat→Prop) E sz v n vs,w.rowAt ok E sz v n vs→w'.rowAt ok E sz v n vs:=fun ok E sz v n vs h1=>h1.mono (fun _ _ h=>h) fun b hbb=>by
  rcases h1.2 with ⟨hn,_⟩ | ⟨g,cap,cur,hv,hg,hh,r⟩
  · rw [hn] at hbb;cases hbb
  · rw [hv] at hbb
    simp only [Value.blk,Option.some.injEq] at hbb
    exact hb.block b (hbb ▸ (Array.getElem?_eq_some_iff.1 hh).1)
 refine ⟨fun id cs hid=>?_,fun id E sz xs hid=>?_,fun id E sz n c hid=>?_,fun id s clk m hid=>?_,h.inj⟩
 · obtain ⟨b,arr,T,h1,h2,h3,h4,h5⟩:=h.box id cs hid
   have hlt:b < w.heap.size:=(Array.getElem?_eq_some_iff.1 h2).1
   exact ⟨b,arr,T,h1,by rw [hb.block b hlt];exact h2,h3,h4,fun j hj=>⟨(h5 j hj).1.keep (Keeps.later hb),(h5 j hj).2⟩⟩
 · obtain ⟨vs,h1,h2,h3,h4⟩:=h.row id E sz xs hid
   exact ⟨vs,hrow _ _ _ _ _ _ h1,h2,⟨h3.1,fun i k hi hk=>(h3.2 i k hi hk).mono (Keeps.later hb)⟩,h4⟩
 · obtain ⟨vs,h1,h2,h3⟩:=h.prow id E sz n c hid
   exact ⟨vs,hrow _ _ _ _ _ _ h1,h2,fun j k hj hk=>⟨(h3 j k hj hk).1.keep (Keeps.later hb),(h3 j k hj hk).2⟩⟩
 · obtain ⟨b,es,h1,h2,h3,h4⟩:=h.map id s clk m hid
   exact ⟨b,es,h1,by rw [hb.block b (Array.getElem?_eq_some_iff.1 h2).1];exact h2,h3,h4.keep (Keeps.later hb)⟩
theorem Frame0.later {F:Ctx} {w w':World} (h:Frame0 F w) (hb:Below w.heap.size w w'):Frame0 F w':=
 ⟨hb.os.trans h.os,hb.tape.trans h.tape,hb.output.trans h.output,Nat.le_trans h.size hb.size,fun k hk hp=>(hb.block k (Nat.lt_of_lt_of_le hk h.size)).trans (h.block k hk hp),h.hL,h.hpb,h.hn,h.hgb,h.hpo,h.hpn⟩
theorem Inv.later {F:Ctx} {γ:Nat→Value} {st:St} {a:Act} {w w':World} (h:Inv F γ st a w) (hb:Below w.heap.size w w'):Inv F γ st a w':=
 ⟨h.sz,h.df,fun x=>(h.env x).keep (Keeps.later hb),h.mem.later hb,h.fr.later hb,h.gl.keep (Keeps.later hb),h.pin,h.pinr,h.pinn⟩
end Go.PW
