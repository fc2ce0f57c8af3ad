/- Contracts of calls, and the operations of a function's code as data. -/
import Derived.Test.YtfoapolbgpjfaaaGreatDoorPWa
set_option linter.unusedSectionVars false
set_option linter.unusedSimpArgs false
set_option linter.unusedVariables false
namespace Go.PW
variable [GF]
open Go.RowKit
inductive AV where
 | val (r:RV)
 | box (cells:List RV)
 | fn (f:Nat) (caps:List AV)
 deriving Inhabited
mutual
inductive ArgRep (L:Nat→Prop) (w:World):AV→Value→List Nat→Prop
 | val (r:RV) (v:Value) (h:RepR L w r v):ArgRep L w (.val r) v []
 | box (cells:List RV) (b:Nat) (arr:Array Value) (T:TypeId) (hb:w.heap[b]?=some (.cells arr T (0,0))) (hs:arr.size=cells.length) (hL:L b)
  (h:∀ j,j < cells.length→RepR L w (cells.getD j .nilptr) (arr.getD j undef)) (h1:∀ j,j < cells.length→(arr.getD j undef).oneCell'=true):ArgRep L w (.box cells) (.pointer (some ⟨b,0,none⟩)) [b]
 | fn (f:Nat) (caps:List AV) (vs:List Value) (ms:List Nat) (h:ArgsRep L w caps vs ms):ArgRep L w (.fn f caps) (.func (.func f) #[] vs.toArray) ms
inductive ArgsRep (L:Nat→Prop) (w:World):List AV→List Value→List Nat→Prop
 | nil:ArgsRep L w [] [] []
 | cons (a:AV) (as:List AV) (v:Value) (vs:List Value) (ms ms':List Nat) (h:ArgRep L w a v ms) (hs:ArgsRep L w as vs ms'):ArgsRep L w (a :: as) (v :: vs) (ms++ms')
end
structure Outside (ms:List Nat) (w w':World):Prop where
 os:w'.os=w.os
 tape:w'.tape=w.tape
 output:w'.output=w.output
 size:w.heap.size≤w'.heap.size
 block:∀ k,k < w.heap.size→k∉ms→w'.heap[k]?=w.heap[k]?
theorem Outside.of_below {w w':World} (h:Below w.heap.size w w'):Outside [] w w':=⟨h.os,h.tape,h.output,h.size,fun k hk _=>h.block k hk⟩
theorem Outside.below {w w':World} (h:Outside [] w w'):Below w.heap.size w w':=⟨h.os,h.tape,h.output,h.size,fun k hk=>h.block k hk (by simp)⟩
structure Row where
 E:Nat
 sz:Nat
 xs:List RV
def l7 (rows:List Row):Nat→MObj:=fun i=>match rows[i]? with | some r=>.row r.E r.sz r.xs | none=>.dead
inductive Out where
 | ret (p:PV) (rows:List Row)
 | pan (r:RV)
def a2c (L:Nat→Prop) (w:World) (bs:List (List RV)) (ms:List Nat):Prop:=
 bs.length=ms.length∧∀ (i b:Nat) (cells:List RV),ms[i]?=some b→bs[i]?=some cells→∃ (arr:Array Value) (T:TypeId),w.heap[b]?=some (.cells arr T (0,0))∧arr.size=cells.length ∧
  ∀ j,j < cells.length→RepR L w (cells.getD j .nilptr) (arr.getD j undef)∧(arr.getD j undef).oneCell'=true
def f9 (P:Program) (f:Nat) (as:List AV) (out:Out) (bs:List (List RV)):Prop:=
 ∀ (L:Nat→Prop) (w:World) (vs:List Value) (ms:List Nat),(∀ b,L b→b < w.heap.size)→Globs L w→a9l L w→ArgsRep L w as vs ms→ms.Nodup →
  Calls P f vs.toArray w fun e w'=>Outside ms w w' ∧
   match out with
   | .ret p rows=>∃ v γ,e=.returned v∧RepP γ (i8 L γ (l7 rows)) w' p v∧MemInv { L:=L,w0:=w,pb:=[],n:=0 } γ (l7 rows) w'∧a2c (i8 L γ (l7 rows)) w' bs ms
   | .pan r=>∃ v,e=.panicked [{ v,recovered:=false }]∧RepR L w' r v∧a2c L w' bs ms
def a5q (P:Program) (f:Nat) (p:PV) (E sz:Nat) (xs:List RV) (as:List AV) (out:RV) (xs':List RV):Prop:=
 ∀ (L:Nat→Prop) (w:World) (v v0:Value) (us vs:List Value),(∀ b,L b→b < w.heap.size)→Globs L w→a9l L w→w.rowAt L E sz v xs.length us→0 < sz→a3s L w sz xs us→(∀ u∈us,u.oneCell'=true)→RepP (fun _=>v) L w p v0→ArgsRep L w as vs [] →
  Calls P f (v0 :: vs).toArray w fun e w'=>Outside (Value.blk v).toList w w'∧∃ u us',e=.returned u∧RepR L w' out u∧w'.rowAt L E sz v xs'.length us'∧a3s L w' sz xs' us'∧∀ u∈us',u.oneCell'=true
def b9n (γ:Nat→Value) (M:Nat→MObj) (b:Nat):Prop:=∃ i,(M i).live=true∧Value.blk (γ i)=some b
structure OutsideP (X:Nat→Prop) (w w':World):Prop where
 os:w'.os=w.os
 tape:w'.tape=w.tape
 output:w'.output=w.output
 size:w.heap.size≤w'.heap.size
 block:∀ k,k < w.heap.size→¬ X k→w'.heap[k]?=w.heap[k]?
def hand (L:Nat→Prop) (w:World) (γ:Nat→Value) (M:Nat→MObj):Ctx:={ L:=L,w0:=w,pb:=[],n:=0,po:=fun i=>if (M i).live=true then Value.blk (γ i) else none }
def b07:Bool→Value→Ending
 | false,v=>.returned v
 | true,v=>.panicked [{ v,recovered:=false }]
def a5r (P:Program) (f:Nat) (ps:List PV) (M:Nat→MObj) (pin:Nat→Bool) (out:PV) (M':Nat→MObj) (pn:Bool:=false):Prop:=
 ∀ (L:Nat→Prop) (w:World) (vs:List Value) (γ:Nat→Value),(∀ b,L b→b < w.heap.size)→(∀ b,b9n γ M b→L b)→Globs L w→a9l L w→vs.length=ps.length→(∀ j,j < ps.length→RepP γ L w (ps.getD j .undef) (vs.getD j undef)) →
  MemInv (hand L w γ M) γ M w→Calls P f vs.toArray w fun e w'=>OutsideP (b9n γ M) w w'∧∃ v γ',e=b07 pn v∧(∀ i,pin i=true→γ' i=γ i)∧RepP γ' (i8 L γ' M') w' out v∧MemInv (hand L w γ M) γ' M' w'
inductive Opd where
 | t (s:Nat)
 | k (p:PV)
 deriving Inhabited
inductive XOp where
 | mkmap (s:Bool)
 | mlook (s ok:Bool) (z:PV) (x k:Opd)
 | mupd (s:Bool) (x k v:Opd)
 | ment (s:Bool) (z:PV) (x k:Opd)
 | mest (x b v:Opd)
 | plit (E sz:Nat) (x:Opd)
 | papp (E sz bytes:Nat) (x y:Opd)
 | plen (x:Opd)
 | piaddr (sz:Nat) (x i:Opd)
 | pload (agg:Bool) (n:Nat) (x:Opd)
 | pstore (n:Nat) (a x:Opd)
 deriving Inhabited
inductive POp where
 | mov (x:Opd)
 | pick (c a b:Opd)
 | alloc (z:List PV)
 | box (x:Opd)
 | build (z:List PV) (parts:List (Nat×Nat×Opd))
 | lit (E sz:Nat) (parts:List Opd)
 | load (agg:Bool) (n:Nat) (x:Opd)
 | store (n:Nat) (a x:Opd)
 | nilck (x:Opd)
 | bin (op:BinOp) (x y:Opd)
 | eqb (neg:Bool) (x y:Opd)
 | eqs (neg:Bool) (ks:List Nat) (x y:Opd)
 | un (op:UnOp) (x:Opd)
 | conv (k:IntKind) (x:Opd)
 | tostr (x:Opd)
 | faddr (off:Nat) (x:Opd)
 | fld (agg:Bool) (off n:Nat) (x:Opd)
 | iaddr (sz:Nat) (x i:Opd)
 | idx (x i:Opd)
 | slc (sz:Nat) (x:Opd) (lo hi:Option Opd)
 | ext (i:Nat) (x:Opd)
 | call (f:Nat) (xs:List Opd)
 | callv (x:Opd) (xs:List Opd)
 | callr (f:Nat) (x:Opd) (xs:List Opd)
 | lens (x:Opd)
 | len (x:Opd)
 | app (E sz bytes:Nat) (x y:Opd)
 | mn (x y:Opd)
 | mx (x y:Opd)
 | mx4 (x y z u:Opd)
 | mkfn (f:Nat) (caps:List Opd)
 | ifc (t:Nat) (x:Opd)
 | pan (x:Opd)
 | mks (E sz bytes:Nat) (agg:Bool) (z:List PV) (x:Opd)
 | isnil (iface neg:Bool) (x:Opd)
 | xop (o:XOp)
 deriving Inhabited
structure POper where
 dst:Option Nat
 op:POp
 g:Option (Nat×Bool)
 deriving Inhabited
inductive POT where
 | done
 | stop
 | alt (i:Nat) (o:POper) (t r:POT)
 deriving Inhabited
inductive POM where
 | done
 | early (i:Nat) (o:POper) (t:POM)
 | step (i:Nat) (o:POper) (ws:List Nat) (t:POM)
 /-- One of several that may come next: this one (then t),or one of r. -/
 | alt (i:Nat) (o:POper) (ws:List Nat) (t r:POM)
 | stop
 deriving Inhabited
inductive PC where
 | skip
 | reg (ops:List POper)
 | draw (pre post:List POper)
 | any (t:POT)
 | mix (t:POM)
 | seq (a b:PC)
 | cond (c:Opd) (a b:PC)
 | block (id:Nat) (c:PC)
 | loop (c:PC)
 | exit (id:Nat)
 | ret
 | ghost (c:PC)
 deriving Inhabited
def a0f:PV→Value→Bool
 | .val (.bool b),.bool b'=>b == b'
 | .val (.int k n),.int k' n'=>k == k' && n == n'
 | .val (.str s),.string s'=>s.data.toList == s'.data.toList
 | .emp _,.slice none 0 0=>true
 | .val .nilptr,.pointer none=>true
 | .val .nilfn,.nilFunc=>true
 | .val .nilif,.nilIface=>true
 | .undef,.map none=>true
 | _,_=>false
def D5:List PV→List Value→Bool
 | [],[]=>true
 | p :: ps,v :: vs=>a0f p v && D5 ps vs
 | _,_=>false
theorem V4 {γ:Nat→Value} {L:Nat→Prop} {w:World} {p:PV} {v:Value} (h:a0f p v=true):RepP γ L w p v:=by
 unfold a0f at h
 split at h
 · simp at h;subst h;exact .val _ _ (.bool _)
 · simp at h;obtain ⟨rfl,rfl⟩:=h;exact .val _ _ (.int _ _)
 · rename_i s s'
   simp only [beq_iff_eq] at h
   have:s=s':=by
    cases s with | mk a=>cases s' with | mk b=>exact congrArg ByteArray.mk (Array.toList_inj.1 h)
   subst this
   exact .val _ _ (.str _)
 · exact .emp _
 · exact .val _ _ .nilptr
 · exact .val _ _ .nilfn
 · exact .val _ _ .nilif
 · exact .undef _
 · cases h
theorem a60 {p:PV} {v:Value} (h:a0f p v=true):v.oneCell'=true:=by
 unfold a0f at h
 split at h<;>first | rfl | cases h
theorem a0u:∀ {ps:List PV} {vs:List Value},D5 ps vs=true→ps.length=vs.length
 | [],[],_=>rfl
 | p :: ps,v :: vs,h=>by simp [D5] at h;simp [a0u h.2]
 | [],_ :: _,h=>by simp [D5] at h
 | _ :: _,[],h=>by simp [D5] at h
theorem a10:∀ {ps:List PV} {vs:List Value},D5 ps vs=true→∀ j,j < ps.length→a0f (ps.getD j .undef) (vs.getD j undef)=true
 | [],[],_,j,hj=>by simp at hj
 | p :: ps,v :: vs,h,j,hj=>by
  simp [D5] at h
  cases j with
  | zero=>simpa using h.1
  | succ j=>simpa using a10 h.2 j (by simpa using hj)
 | [],_ :: _,h,_,_=>by simp [D5] at h
 | _ :: _,[],h,_,_=>by simp [D5] at h
def i7:Opd→Operand→Bool
 | .t s,.tmp t=>s == t
 | .k (.fn f []),.func g=>f == g
 | .k (.agg ps),.const (.agg vs)=>D5 ps vs.toList
 | .k p,.const v=>a0f p v
 | _,_=>false
def ev (st:St):Opd→PV
 | .t s=>st.env s
 | .k p=>p
theorem j5 {F:Ctx} {γ:Nat→Value} {st:St} {a:Act} {w:World} (h:Inv F γ st a w) {x:Opd} {y:Operand} (hc:i7 x y=true) :
 RepP γ (i8 F.L γ st.mem) w (ev st x) (a.eval y):=by
 unfold i7 at hc
 split at hc
 · simp at hc;subst hc;exact h.env _
 · simp at hc;subst hc;exact .fn _ [] #[] rfl (fun i hi=>by simp at hi)
 · rename_i ps vs
   refine .agg ps vs (by have:=a0u hc;simpa using this.symm) fun i hi=>?_
   have:=V4 (γ:=γ) (L:=i8 F.L γ st.mem) (w:=w) (a10 hc i hi)
   have e:vs.toList.getD i undef=vs.getD i undef:=by simp [Array.getD_eq_getD_getElem?,List.getD_eq_getElem?_getD]
   rwa [e] at this
 · exact V4 hc
 · cases hc
namespace I
abbrev o (d:Nat) (x:POp):POper:=⟨some d,x,none⟩
abbrev n (x:POp):POper:=⟨none,x,none⟩
abbrev g (d s:Nat) (b:Bool) (x:POp):POper:=⟨some d,x,some (s,b)⟩
abbrev m (d s:Nat):POper:=⟨some d,.mov (.t s),none⟩
abbrev l (d s:Nat):POper:=⟨some d,.load false 1 (.t s),none⟩
abbrev i (k:Int):Opd:=.k (.val (.int .i64 k))
abbrev T:Opd:=.k (.val (.bool true))
abbrev F:Opd:=.k (.val (.bool false))
abbrev z (a:Array UInt8):Opd:=.k (.val (.str ⟨a⟩))
end I
end Go.PW
