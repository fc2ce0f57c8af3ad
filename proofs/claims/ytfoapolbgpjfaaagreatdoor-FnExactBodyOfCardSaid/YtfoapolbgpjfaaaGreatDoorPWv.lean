/- Words for proofs about functions: texts as lists of bytes, states as lists of slots. -/
import Derived.Test.YtfoapolbgpjfaaaGreatDoorPWu
set_option linter.unusedSectionVars false
set_option linter.unusedSimpArgs false
set_option linter.unusedVariables false
namespace Go.PW
open Go.RowKit
def bs (l:List UInt8):ByteArray:=⟨l.toArray⟩
theorem b7 (l:List UInt8):(bs l).size=l.length:=by simp [bs,ByteArray.size]
theorem l5 {a b:List UInt8}:bs a=bs b↔a=b:=by
 constructor
 · intro h;have:=congrArg (fun s=>s.data.toList) h;simpa [bs] using this
 · rintro rfl;rfl
theorem j9 (a b:List UInt8):bs a++bs b=bs (a++b):=by
 apply ByteArray.ext;simp [bs,ByteArray.data_append]
theorem bs_eta (s:ByteArray):bs s.data.toList=s:=by cases s;simp [bs]
theorem a3q (a:Array UInt8):(⟨a⟩:ByteArray)=bs a.toList:=by simp [bs]
theorem f6 (l:List UInt8) (i:Nat):a3p (bs l) i=((l.getD i 0).toNat:Int):=by
 unfold a3p bs
 simp [List.getD_eq_getElem?_getD,Array.getD_eq_getD_getElem?]
theorem l6 (l:List UInt8) (i j:Nat):(bs l).extract i j=bs ((l.take j).drop i):=by
 apply ByteArray.ext
 simp [bs,ByteArray.data_extract,List.extract_eq_take_drop,List.drop_take]
def D2:List (Nat×PV)→Nat→PV
 | [],_=>.undef
 | (k,p) :: l,x=>if x=k then p else D2 l x
def D0:List (Nat×MObj)→Nat→MObj
 | [],_=>.dead
 | (k,p) :: l,x=>if x=k then p else D0 l x
variable [GF]
theorem Le.mk {st:St} (le:List (Nat×PV)) (lm:List (Nat×MObj)) (h1:∀ kp∈le,st.env kp.1=kp.2) (h2:∀ kp∈lm,st.mem kp.1=kp.2):Le st ⟨D2 le,D0 lm⟩:=by
 refine Le.drop (fun i=>?_) (fun x=>?_)
 · show D0 lm i=st.mem i∨D0 lm i=.dead
   induction lm with
   | nil=>exact .inr rfl
   | cons kp lm ih=>
    obtain ⟨k,o⟩:=kp
    simp only [D0]
    split
    · rename_i e;subst e;exact .inl (h2 (i,o) (by simp)).symm
    · exact ih fun kp hkp=>h2 kp (by simp [hkp])
 · show Wk (st.env x) (D2 le x)
   induction le with
   | nil=>exact .undef _
   | cons kp le ih=>
    obtain ⟨k,p⟩:=kp
    simp only [D2]
    split
    · rename_i e;subst e;rw [h1 (x,p) (by simp)];exact .refl p
    · exact ih fun kp hkp=>h1 kp (by simp [hkp])
def POp.isStill:POp→Bool
 | .alloc _ | .box _ | .build _ _ | .lit _ _ _ | .store _ _ _ | .call _ _ | .callv _ _ | .callr _ _ _ | .app _ _ _ _ _ | .pan _ | .mks _ _ _ _ _ _ | .isnil _ _ _ | .xop _=>false
 | _=>true
class Kx (α:Type) where
 k:α
def a5i (c:Prop) [A:Kx Prop] [B:Kx Prop]:Prop:=(c→A.k)∧(¬c→B.k)
@[simp] theorem I0 {A B:Kx Prop}:a5i True (A:=A) (B:=B)=A.k:=by simp [a5i]
@[simp] theorem B4 {A B:Kx Prop}:a5i False (A:=A) (B:=B)=B.k:=by simp [a5i]
theorem j7 {c:Prop} {A B:Kx Prop} (h1:c→A.k) (h2:¬c→B.k):a5i c (A:=A) (B:=B):=⟨h1,h2⟩
theorem b52 {c A B:Prop} [Decidable c]:(if c then A else B)=a5i c (A:=⟨A⟩) (B:=⟨B⟩):=by by_cases h:c<;>simp [h,a5i]
def a5z (p:PV) [B:Kx Prop] [K:Kx (Bool→Prop)]:Prop:=match p with
 | .val (.bool b')=>K.k b'
 | .skip=>B.k
 | _=>False
def a54 (p:PV) [K:Kx (PV→Prop)]:Prop:=match p with
 | .ptr i o=>K.k (.ptr i o)
 | .elt i j s o=>K.k (.elt i j s o)
 | .at cs=>K.k (.at cs)
 | .fn f cs=>K.k (.fn f cs)
 | _=>False
def eqbK (neg:Bool) (p q:PV) [K:Kx (PV→Prop)]:Prop:=match p,q with
 | .val (.bool a),.val (.bool b)=>K.k (.val (.bool (if neg then a != b else a == b)))
 | _,_=>False
def eqsK (neg:Bool) (ks:List Nat) (p q:PV) [K:Kx (PV→Prop)]:Prop:=match p,q with
 | .val (.agg as),.val (.agg bs)=>a8a (p5 ks as bs) fun b=>K.k (.val (.bool (if neg then !b else b)))
 | _,_=>False
def b89 (k:IntKind) (p:PV) [K:Kx (PV→Prop)]:Prop:=match p with
 | .val (.int _ n)=>K.k (.val (.int k (k.wrap n)))
 | _=>False
def a8z (off:Nat) (p:PV) [K:Kx (PV→Prop)]:Prop:=match p with
 | .ptr i o=>K.k (.ptr i (o+off))
 | .elt i j s o=>K.k (.elt i j s (o+off))
 | .at cs=>off < cs.length∧K.k (.at (cs.drop off))
 | _=>False
def fldK (agg:Bool) (off n:Nat) (p:PV) [K:Kx (PV→Prop)]:Prop:=match p with
 | .val (.agg cs)=>off+n≤cs.length∧0 < n∧K.k (.val (if agg then .agg ((cs.drop off).take n) else cs.getD off .nilptr))
 | .agg cs=>off+n≤cs.length∧0 < n∧K.k (if agg then l4 ((cs.drop off).take n) else cs.getD off .undef)
 | _=>False
def b1c (m:MObj) (agg:Bool) (n o:Nat) [K:Kx (PV→Prop)]:Prop:=match m with
 | .box cs=>o+n≤cs.length∧0 < n∧K.k (if agg then l4 ((cs.drop o).take n) else cs.getD o .undef)
 | _=>False
def b1b (m:MObj) (agg:Bool) (n j s o:Nat) [K:Kx (PV→Prop)]:Prop:=match m with
 | .row E sz xs=>s=sz∧j < xs.length∧0 < n∧o+n≤sz∧K.k (.val (if agg then .agg (((xs.getD j .nilptr).cells.drop o).take n) else (xs.getD j .nilptr).cells.getD o .nilptr))
 | _=>False
def b2p (M:Nat→MObj) (agg:Bool) (n:Nat) (p:PV) [K:Kx (PV→Prop)]:Prop:=match p with
 | .ptr i o=>b1c (M i) agg n o (K:=K)
 | .elt i j s o=>b1b (M i) agg n j s o (K:=K)
 | .at cs=>n≤cs.length∧0 < n∧K.k (.val (if agg then .agg (cs.take n) else cs.getD 0 .nilptr))
 | _=>False
def a8q (m:MObj) (id sz:Nat) (j:Int) [K:Kx (PV→Prop)]:Prop:=match m with
 | .row E s xs=>s=sz∧0≤j∧j < xs.length∧K.k (.elt id j.toNat sz 0)
 | _=>False
def b1m (M:Nat→MObj) (sz:Nat) (p q:PV) [K:Kx (PV→Prop)]:Prop:=match p,q with
 | .val (.list s xs),.val (.int _ j)=>s=sz∧0≤j∧j < xs.length∧K.k (.at (xs.getD j.toNat .nilptr).cells)
 | .own id,.val (.int _ j)=>a8q (M id) id sz j (K:=K)
 | _,_=>False
def idxK (p q:PV) [K:Kx (PV→Prop)]:Prop:=match p,q with
 | .val (.str s),.val (.int _ j)=>0≤j∧j < s.size∧K.k (.val (.int .u8 (a3p s j.toNat)))
 | _,_=>False
def extK (i:Nat) (p:PV) [K:Kx (PV→Prop)]:Prop:=match p with
 | .tup vs=>i < vs.length∧K.k (vs.getD i .undef)
 | _=>False
def b8l (p:PV) [K:Kx (PV→Prop)]:Prop:=match p with
 | .val (.str s)=>K.k (.val (.int .i64 s.size))
 | _=>False
def b4l (m:MObj) [K:Kx (PV→Prop)]:Prop:=match m with
 | .row _ _ xs=>K.k (.val (.int .i64 xs.length))
 | _=>False
def b8m (M:Nat→MObj) (p:PV) [K:Kx (PV→Prop)]:Prop:=match p with
 | .val (.list _ xs)=>K.k (.val (.int .i64 xs.length))
 | .emp _=>K.k (.val (.int .i64 0))
 | .own id=>b4l (M id) (K:=K)
 | _=>False
def a7r (m:MObj) [K:Kx (PV→Prop)]:Prop:=match m with
 | .row _ s xs=>s=1∧xs.all RV.isU8=true∧K.k (.val (.str (P5 xs)))
 | _=>False
def a7s (M:Nat→MObj) (p:PV) [K:Kx (PV→Prop)]:Prop:=match p with
 | .val (.list s xs)=>s=1∧xs.all RV.isU8=true∧K.k (.val (.str (P5 xs)))
 | .emp _=>K.k (.val (.str (P5 [])))
 | .own id=>a7r (M id) (K:=K)
 | _=>False
def ifcK (t:Nat) (p:PV) [K:Kx (PV→Prop)]:Prop:=match p with
 | .val r=>K.k (.val (.ifc t r))
 | _=>False
def mnK (p q:PV) [K:Kx (PV→Prop)]:Prop:=match p,q with
 | .val (.int k a),.val (.int k' b)=>K.k (.val (.int k (if b < a then b else a)))
 | _,_=>False
def mxK (p q:PV) [K:Kx (PV→Prop)]:Prop:=match p,q with
 | .val (.int k a),.val (.int k' b)=>K.k (.val (.int k (if a < b then b else a)))
 | _,_=>False
def mx4K (p q r t:PV) [K:Kx (PV→Prop)]:Prop:=match p,q,r,t with
 | .val (.int k a),.val (.int _ b),.val (.int _ c),.val (.int _ d)=>K.k (.val (.int k (b2l a b c d)))
 | _,_,_,_=>False
def litK (o:Option (List RV)) [K:Kx (List RV→Prop)]:Prop:=match o with
 | some rs=>K.k rs
 | none=>False
def fnK (p:PV) [K:Kx (Nat→List PV→Prop)]:Prop:=match p with
 | .fn f caps=>K.k f caps
 | _=>False
def mksK (bytes:Nat) (p:PV) (z:Option (List RV)) [K:Kx (Int→List RV→Prop)]:Prop:=match p,z with
 | .val (.int _ n),some zs=>0≤n∧bytes*n.toNat≤281474976710656∧n.toNat≤9223372036854775807∧K.k n zs
 | _,_=>False
def a8p (m:MObj) (neg:Bool) [K:Kx (PV→Prop)]:Prop:=match m with
 | .row _ _ xs=>(xs=[]→K.k (.val (.bool !neg)))∧K.k (.val (.bool neg))
 | _=>False
def a6b (M:Nat→MObj) (iface neg:Bool) (p:PV) [K:Kx (PV→Prop)]:Prop:=match iface,p with
 | true,.val .nilif=>K.k (.val (.bool !neg))
 | true,.val (.ifc _ _)=>K.k (.val (.bool neg))
 | false,.emp _=>K.k (.val (.bool !neg))
 | false,.val (.list _ xs)=>(xs=[]→K.k (.val (.bool !neg)))∧K.k (.val (.bool neg))
 | false,.own id=>a8p (M id) neg (K:=K)
 | _,_=>False
def a7x (st:St) (id off:Nat) (m:MObj) (p:PV) [K:Kx (St→Prop)]:Prop:=match m with
 | .box cs=>p.solid st.mem=true∧off+p.cells.length≤cs.length∧K.k ⟨st.env,upd id (.box (l0 cs off p.cells)) st.mem⟩
 | _=>False
def a7w (st:St) (id j s off:Nat) (m:MObj) (p:PV) (o:Option (List RV)) [K:Kx (St→Prop)]:Prop:=match m with
 | .row E sz xs=>(match o with
  | some rs=>s=sz∧j < xs.length∧p.solid st.mem=true∧off+rs.length≤sz∧K.k ⟨st.env,upd id (.row E sz (xs.set j ((xs.getD j .nilptr).ofCells (l0 (xs.getD j .nilptr).cells off rs)))) st.mem⟩
  | none=>False)
 | _=>False
def b3t (st:St) (q p:PV) [K:Kx (St→Prop)]:Prop:=match q with
 | .ptr id off=>a7x st id off (st.mem id) p (K:=K)
 | .elt id j s off=>a7w st id j s off (st.mem id) p (o9 p.cells) (K:=K)
 | _=>False
def addK (o:Option (List RV)) [K:Kx (List RV→Prop)]:Prop:=match o with
 | none=>False
 | some ys=>K.k ys
def b5f (st:St) (id E sz bytes:Nat) (q:PV) (m:MObj) (ys:List RV) [K:Kx (PV→St→Prop)]:Prop:=match m with
 | .row E' sz' xs=>R4 id∧q≠.own id∧E'=E∧sz'=sz∧(xs.length+ys.length)*bytes≤140737488355328∧xs.length+ys.length≤9223372036854775807 ∧
  K.k (.own id) ⟨fun x=>(st.env x).kill (· == id),upd id (.row E sz (xs++ys)) fun x=>(st.mem x).kill (· == id)⟩
 | _=>False
def appK (st:St) (d E sz bytes:Nat) (p q:PV) (ys:List RV) [K:Kx (PV→St→Prop)]:Prop:=match p with
 | .own id=>b5f st id E sz bytes q (st.mem id) ys (K:=K)
 | .emp _=>ys.length*bytes≤140737488355328∧ys.length≤9223372036854775807 ∧
  K.k (.own d) ⟨fun x=>(st.env x).kill (· == d),upd d (.row E sz ys) fun x=>(st.mem x).kill (· == d)⟩
 | _=>False
def b75 (m:MObj) (sz:Nat):Option (List RV):=match m with
 | .row _ s ys=>if s=sz then some ys else none
 | _=>none
@[simp] theorem H2 {E s ys sz}:b75 (.row E s ys) sz=if s=sz then some ys else none:=by rfl
def b6g (st:St) (sz:Nat) (p:PV):Option (List RV):=match p with
 | .val (.list s ys)=>if s=sz∨ys=[] then some ys else none
 | .emp _=>some []
 | .own id=>b75 (st.mem id) sz
 | _=>none
@[simp] theorem C7 {st:St} {s sz ys}:b6g st sz (.val (.list s ys))=if s=sz∨ys=[] then some ys else none:=by rfl
@[simp] theorem J5 {st:St} {s sz}:b6g st sz (.emp s)=some []:=by rfl
@[simp] theorem J4 {st:St} {id sz}:b6g st sz (.own id)=b75 (st.mem id) sz:=by rfl
section
variable {K:Kx (PV→Prop)} {M:Nat→MObj}
@[simp] theorem A9 {b} {B:Kx Prop} {K:Kx (Bool→Prop)}:a5z (.val (.bool b)) (B:=B) (K:=K)=K.k b:=by rfl
@[simp] theorem u9 {B:Kx Prop} {K:Kx (Bool→Prop)}:a5z .skip (B:=B) (K:=K)=B.k:=by rfl
@[simp] theorem H3 {i o}:a54 (.ptr i o) (K:=K)=K.k (.ptr i o):=by rfl
@[simp] theorem H4 {i j s o}:a54 (.elt i j s o) (K:=K)=K.k (.elt i j s o):=by rfl
@[simp] theorem M6 {cs}:a54 (.at cs) (K:=K)=K.k (.at cs):=by rfl
@[simp] theorem M5 {f cs}:a54 (.fn f cs) (K:=K)=K.k (.fn f cs):=by rfl
@[simp] theorem U3 {neg a b}:eqbK neg (.val (.bool a)) (.val (.bool b)) (K:=K)=K.k (.val (.bool (if neg then a != b else a == b))):=by rfl
@[simp] theorem U2 {neg ks as bs}:eqsK neg ks (.val (.agg as)) (.val (.agg bs)) (K:=K)=a8a (p5 ks as bs) fun b=>K.k (.val (.bool (if neg then !b else b))):=by rfl
@[simp] theorem N8 {k k' n}:b89 k (.val (.int k' n)) (K:=K)=K.k (.val (.int k (k.wrap n))):=by rfl
@[simp] theorem I7 {off i o}:a8z off (.ptr i o) (K:=K)=K.k (.ptr i (o+off)):=by rfl
@[simp] theorem I8 {off i j s o}:a8z off (.elt i j s o) (K:=K)=K.k (.elt i j s (o+off)):=by rfl
@[simp] theorem N7 {off cs}:a8z off (.at cs) (K:=K)=(off < cs.length∧K.k (.at (cs.drop off))):=by rfl
@[simp] theorem T9 {agg off n cs}:fldK agg off n (.val (.agg cs)) (K:=K)=(off+n≤cs.length∧0 < n∧K.k (.val (if agg then .agg ((cs.drop off).take n) else cs.getD off .nilptr))):=by rfl
@[simp] theorem U0 {agg off n cs}:fldK agg off n (.agg cs) (K:=K)=(off+n≤cs.length∧0 < n∧K.k (if agg then l4 ((cs.drop off).take n) else cs.getD off .undef)):=by rfl
@[simp] theorem M8 {agg n i o}:b2p M agg n (.ptr i o) (K:=K)=b1c (M i) agg n o (K:=K):=by rfl
@[simp] theorem v8 {agg n o cs}:b1c (.box cs) agg n o (K:=K)=(o+n≤cs.length∧0 < n∧K.k (if agg then l4 ((cs.drop o).take n) else cs.getD o .undef)):=by rfl
@[simp] theorem M9 {agg n i j s o}:b2p M agg n (.elt i j s o) (K:=K)=b1b (M i) agg n j s o (K:=K):=by rfl
@[simp] theorem v7 {agg n j s o E sz xs}:b1b (.row E sz xs) agg n j s o (K:=K)=(s=sz∧j < xs.length∧0 < n∧o+n≤sz∧K.k (.val (if agg then .agg (((xs.getD j .nilptr).cells.drop o).take n) else (xs.getD j .nilptr).cells.getD o .nilptr))):=by rfl
@[simp] theorem S8 {agg n cs}:b2p M agg n (.at cs) (K:=K)=(n≤cs.length∧0 < n∧K.k (.val (if agg then .agg (cs.take n) else cs.getD 0 .nilptr))):=by rfl
@[simp] theorem I5 {sz s xs k j}:b1m M sz (.val (.list s xs)) (.val (.int k j)) (K:=K)=(s=sz∧0≤j∧j < xs.length∧K.k (.at (xs.getD j.toNat .nilptr).cells)):=by rfl
@[simp] theorem I4 {sz id k j}:b1m M sz (.own id) (.val (.int k j)) (K:=K)=a8q (M id) id sz j (K:=K):=by rfl
@[simp] theorem o3 {id sz j E s xs}:a8q (.row E s xs) id sz j (K:=K)=(s=sz∧0≤j∧j < xs.length∧K.k (.elt id j.toNat sz 0)):=by rfl
@[simp] theorem T5 {s k j}:idxK (.val (.str s)) (.val (.int k j)) (K:=K)=(0≤j∧j < s.size∧K.k (.val (.int .u8 (a3p s j.toNat)))):=by rfl
@[simp] theorem U1 {i vs}:extK i (.tup vs) (K:=K)=(i < vs.length∧K.k (vs.getD i .undef)):=by rfl
@[simp] theorem N1 {s}:b8l (.val (.str s)) (K:=K)=K.k (.val (.int .i64 s.size)):=by rfl
@[simp] theorem S9 {s xs}:b8m M (.val (.list s xs)) (K:=K)=K.k (.val (.int .i64 xs.length)):=by rfl
@[simp] theorem T1 {s}:b8m M (.emp s) (K:=K)=K.k (.val (.int .i64 0)):=by rfl
@[simp] theorem T0 {id}:b8m M (.own id) (K:=K)=b4l (M id) (K:=K):=by rfl
@[simp] theorem B1 {E s xs}:b4l (.row E s xs) (K:=K)=K.k (.val (.int .i64 xs.length)):=by rfl
@[simp] theorem D6 {s xs}:a7s M (.val (.list s xs)) (K:=K)=(s=1∧xs.all RV.isU8=true∧K.k (.val (.str (P5 xs)))):=by rfl
@[simp] theorem D8 {s}:a7s M (.emp s) (K:=K)=K.k (.val (.str (P5 []))):=by rfl
@[simp] theorem D7 {id}:a7s M (.own id) (K:=K)=a7r (M id) (K:=K):=by rfl
@[simp] theorem n6 {E s xs}:a7r (.row E s xs) (K:=K)=(s=1∧xs.all RV.isU8=true∧K.k (.val (.str (P5 xs)))):=by rfl
@[simp] theorem T4 {t r}:ifcK t (.val r) (K:=K)=K.k (.val (.ifc t r)):=by rfl
@[simp] theorem Y1 {k a k' b}:mnK (.val (.int k a)) (.val (.int k' b)) (K:=K)=K.k (.val (.int k (if b < a then b else a))):=by rfl
@[simp] theorem S6 {k a k2 b k3 c k4 d}:mx4K (.val (.int k a)) (.val (.int k2 b)) (.val (.int k3 c)) (.val (.int k4 d)) (K:=K)=K.k (.val (.int k (b2l a b c d))):=by rfl
@[simp] theorem Y0 {k a k' b}:mxK (.val (.int k a)) (.val (.int k' b)) (K:=K)=K.k (.val (.int k (if a < b then b else a))):=by rfl
@[simp] theorem N0 {rs} {K:Kx (List RV→Prop)}:litK (some rs) (K:=K)=K.k rs:=by rfl
@[simp] theorem a1f {f caps} {K:Kx (Nat→List PV→Prop)}:fnK (.fn f caps) (K:=K)=K.k f caps:=by rfl
@[simp] theorem S7 {bytes k n zs} {K:Kx (Int→List RV→Prop)}:mksK bytes (.val (.int k n)) (some zs) (K:=K)=(0≤n∧bytes*n.toNat≤281474976710656∧n.toNat≤9223372036854775807∧K.k n zs):=by rfl
@[simp] theorem w6 {neg}:a6b M true neg (.val .nilif) (K:=K)=K.k (.val (.bool !neg)):=by rfl
@[simp] theorem I2 {neg t r}:a6b M true neg (.val (.ifc t r)) (K:=K)=K.k (.val (.bool neg)):=by rfl
@[simp] theorem I3 {neg s}:a6b M false neg (.emp s) (K:=K)=K.k (.val (.bool !neg)):=by rfl
@[simp] theorem B5 {neg s xs}:a6b M false neg (.val (.list s xs)) (K:=K)=((xs=[]→K.k (.val (.bool !neg)))∧K.k (.val (.bool neg))):=by rfl
@[simp] theorem I1 {neg id}:a6b M false neg (.own id) (K:=K)=a8p (M id) neg (K:=K):=by rfl
@[simp] theorem o1 {neg E s xs}:a8p (.row E s xs) neg (K:=K)=((xs=[]→K.k (.val (.bool !neg)))∧K.k (.val (.bool neg))):=by rfl
@[simp] theorem y9 {st:St} {id off p} {K:Kx (St→Prop)}:b3t st (.ptr id off) p (K:=K)=a7x st id off (st.mem id) p (K:=K):=by rfl
@[simp] theorem n8 {st:St} {id off p cs} {K:Kx (St→Prop)}:a7x st id off (.box cs) p (K:=K)=(p.solid st.mem=true∧off+p.cells.length≤cs.length∧K.k ⟨st.env,upd id (.box (l0 cs off p.cells)) st.mem⟩):=by rfl
@[simp] theorem z6 {st:St} {id j s off p} {K:Kx (St→Prop)}:b3t st (.elt id j s off) p (K:=K)=a7w st id j s off (st.mem id) p (o9 p.cells) (K:=K):=by rfl
@[simp] theorem n7 {st:St} {id j s off p E sz xs rs} {K:Kx (St→Prop)}:a7w st id j s off (.row E sz xs) p (some rs) (K:=K)=(s=sz∧j < xs.length∧p.solid st.mem=true∧off+rs.length≤sz∧K.k ⟨st.env,upd id (.row E sz (xs.set j ((xs.getD j .nilptr).ofCells (l0 (xs.getD j .nilptr).cells off rs)))) st.mem⟩):=by rfl
@[simp] theorem P2 {ys} {K:Kx (List RV→Prop)}:addK (some ys) (K:=K)=K.k ys:=by rfl
@[simp] theorem U5 {st:St} {d E sz bytes id q ys} {K:Kx (PV→St→Prop)}:appK st d E sz bytes (.own id) q ys (K:=K)=b5f st id E sz bytes q (st.mem id) ys (K:=K):=by rfl
@[simp] theorem U6 {st:St} {d E sz bytes s q ys} {K:Kx (PV→St→Prop)}:appK st d E sz bytes (.emp s) q ys (K:=K)=(ys.length*bytes≤140737488355328∧ys.length≤9223372036854775807 ∧
 K.k (.own d) ⟨fun x=>(st.env x).kill (· == d),upd d (.row E sz ys) fun x=>(st.mem x).kill (· == d)⟩):=by rfl
@[simp] theorem C6 {st:St} {id E sz bytes q E' sz' xs ys} {K:Kx (PV→St→Prop)}:b5f st id E sz bytes q (.row E' sz' xs) ys (K:=K)=(R4 id∧q≠.own id∧E'=E∧sz'=sz∧(xs.length+ys.length)*bytes≤140737488355328∧xs.length+ys.length≤9223372036854775807 ∧
 K.k (.own id) ⟨fun x=>(st.env x).kill (· == id),upd id (.row E sz (xs++ys)) fun x=>(st.mem x).kill (· == id)⟩):=by rfl
end
def EC (P:Program) (c:PC) (st:St) [K:Kx (PExit→St→Prop)]:Prop:=P9 P c st K.k
def ET (e:PExit) (st:St) [Ks:Kx (St→Prop)] [K:Kx (PExit→St→Prop)]:Prop:=e.then st Ks.k K.k
def EB (id:Nat) (e:PExit) (st:St) [K:Kx (PExit→St→Prop)]:Prop:=e.inBlock id st K.k
def EO (P:Program) (ops:List POper) (st:St) [Ks:Kx (St→Prop)] [kx:Kx (RV→St→Prop)]:Prop:=X4 P ops st Ks.k kx.k
def EM (P:Program) (t:POM) (D:List (Nat×POper)) (st:St) [Ks:Kx (St→Prop)] [kx:Kx (RV→St→Prop)]:Prop:=W8 P t D st Ks.k kx.k
def WM (P:Program) (D:List (Nat×POper)) (st:St):Prop:=a2y P D st
def b5h (P:Program) (t:POT) (st:St) [Ks:Kx (St→Prop)] [kx:Kx (RV→St→Prop)]:Prop:=a4h P t st Ks.k kx.k
def EX (P:Program) (ops:List POper) (st:St) [Ks:Kx (St→Prop)]:Prop:=a4g P ops st Ks.k
def SE (P:Program) (st:St) (d:Nat) (op:POp) [Ke:Kx (PV→St→Prop)] [kx:Kx (RV→St→Prop)]:Prop:=P6 P st d op Ke.k kx.k
def SX (P:Program) (st:St) (op:POp) [Kp:Kx (PV→Prop)]:Prop:=V0 P st op Kp.k
def GS (st:St) (g:Option (Nat×Bool)) [A:Kx Prop] [B:Kx Prop]:Prop:=D1 st g A.k B.k
def CD (p:PV) [A:Kx Prop] [B:Kx Prop]:Prop:=b3b p A.k B.k
def BS (op:BinOp) (p q:PV) [K:Kx (PV→Prop)]:Prop:=b5c op p q K.k
def BI (op:BinOp) (k:IntKind) (x y:Int) [K:Kx (RV→Prop)]:Prop:=b7l op k x y K.k
def BT (op:BinOp) (x y:ByteArray) [K:Kx (RV→Prop)]:Prop:=a6g op x y K.k
def US (op:UnOp) (p:PV) [K:Kx (PV→Prop)]:Prop:=unS op p K.k
def SLS (z:Nat) (p:PV) (lo hi:Option PV) [K:Kx (PV→Prop)]:Prop:=a66 z p lo hi K.k
def FP (st:St) (cs:List PV) (parts:List (Nat×Nat×Opd)) [K:Kx (List PV→Prop)]:Prop:=a0o st cs parts K.k
def KC (P:Program) (st:St) (d f:Nat) (ps:List PV) [Ke:Kx (PV→St→Prop)] [kx:Kx (RV→St→Prop)]:Prop:=a3o P st d f ps Ke.k kx.k
def RC (P:Program) (st:St) (f id:Nat) (q:PV) (E sz:Nat) (rs:List RV) (ps:List PV) [Ke:Kx (PV→St→Prop)]:Prop:=b3x P st f id q E sz rs ps Ke.k
def RCm (P:Program) (st:St) (f id:Nat) (q:PV) (m:MObj) (ps:List PV) [Ke:Kx (PV→St→Prop)]:Prop:=match m with
 | .row E sz rs=>RC P st f id q E sz rs ps (Ke:=Ke)
 | _=>False
def RCp (P:Program) (st:St) (d f:Nat) (q:PV) (o:Option Nat) (ps:List PV) [Ke:Kx (PV→St→Prop)] [kx:Kx (RV→St→Prop)]:Prop:=match o with
 | some id=>RCm P st f id q (st.mem id) ps (Ke:=Ke)
 | none=>KC P st d f (q :: ps) (Ke:=Ke) (kx:=kx)
@[simp] theorem rowIn_nil:a48 []=none:=rfl
@[simp] theorem rowIn_own {i cs}:a48 (.own i :: cs)=some i:=rfl
@[simp] theorem rowIn_val {r cs}:a48 (.val r :: cs)=a48 cs:=rfl
@[simp] theorem rowIn_emp {s cs}:a48 (.emp s :: cs)=a48 cs:=rfl
@[simp] theorem rowId_own {i}:(PV.own i).rowId=some i:=rfl
@[simp] theorem rowId_val {r}:(PV.val r).rowId=none:=rfl
@[simp] theorem rowId_emp {s}:(PV.emp s).rowId=none:=rfl
@[simp] theorem rowId_agg {cs}:(PV.agg cs).rowId=a48 cs:=rfl
def KX (P:Program) (st:St) (f:Nat) (ps:List PV) [Kp:Kx (PV→Prop)]:Prop:=a0y P st f ps Kp.k
section
variable {P:Program} {st st':St} {K:Kx (PExit→St→Prop)} {Ks:Kx (St→Prop)} {kx:Kx (RV→St→Prop)} {Kp:Kx (PV→Prop)} {Ke:Kx (PV→St→Prop)}
@[simp] theorem n5 {α:Type} (d:Nat) (v:α) (f:Nat→α) (x:Nat):upd d v f x=if x=d then v else f x:=by rfl
theorem d8 {K:PExit→St→Prop} {c}:P9 P c st K=EC P c st (K:=⟨K⟩):=by rfl
@[simp] theorem a42 {α:Type} {f:α}:(Kx.mk f).k=f:=by rfl
@[simp] theorem B8:EC P .skip st (K:=K)=K.k .normal st:=by rfl
@[simp] theorem J2 {ops}:EC P (.reg ops) st (K:=K)=EO P ops st (Ks:=⟨K.k .normal⟩) (kx:=⟨fun r=>K.k (.pan r)⟩):=by rfl
@[simp] theorem C0 {pre post}:EC P (.draw pre post) st (K:=K)=EX P pre st (Ks:=⟨fun st'=>EO P post st' (Ks:=⟨K.k .normal⟩) (kx:=⟨fun r=>K.k (.pan r)⟩)⟩):=by rfl
@[simp] theorem evalC_any {t}:EC P (.any t) st (K:=K)=b5h P t st (Ks:=⟨K.k .normal⟩) (kx:=⟨fun r=>K.k (.pan r)⟩):=by rfl
@[simp] theorem evalC_mix {t}:EC P (.mix t) st (K:=K)=EM P t [] st (Ks:=⟨K.k .normal⟩) (kx:=⟨fun r=>K.k (.pan r)⟩):=by rfl
@[simp] theorem evalM_done {D}:EM P .done D st (Ks:=Ks) (kx:=kx)=Ks.k st:=by rfl
@[simp] theorem evalM_early {i d op g t D}:EM P (.early i ⟨d,op,g⟩ t) D st (Ks:=Ks) (kx:=kx)=GS st g (A:=⟨SX P st op (Kp:=⟨fun p=>EM P t ((i,⟨d,op,g⟩) :: D) (x9 st d p) (Ks:=Ks) (kx:=kx)⟩)⟩) (B:=⟨EM P t ((i,⟨d,op,g⟩) :: D) (x9 st d .skip) (Ks:=Ks) (kx:=kx)⟩):=by rfl
@[simp] theorem evalM_step {i d op g ws t D}:EM P (.step i ⟨d,op,g⟩ ws t) D st (Ks:=Ks) (kx:=kx)=GS st g (A:=⟨SE P st (d.getD 0) op (Ke:=⟨fun p st'=>WM P (D4 ws D) (x9 st' d p)∧EM P t (D4 ws D) (x9 st' d p) (Ks:=Ks) (kx:=kx)⟩) (kx:=⟨fun r s=>kx.k r ⟨fun _=>.undef,s.mem⟩⟩)⟩)
 (B:=⟨WM P (D4 ws D) (x9 st d .skip)∧EM P t (D4 ws D) (x9 st d .skip) (Ks:=Ks) (kx:=kx)⟩):=by rfl
@[simp] theorem evalM_alt {i d op g ws t r D}:EM P (.alt i ⟨d,op,g⟩ ws t r) D st (Ks:=Ks) (kx:=kx)=(GS st g (A:=⟨SE P st (d.getD 0) op (Ke:=⟨fun p st'=>WM P (D4 ws D) (x9 st' d p)∧EM P t (D4 ws D) (x9 st' d p) (Ks:=Ks) (kx:=kx)⟩) (kx:=⟨fun r s=>kx.k r ⟨fun _=>.undef,s.mem⟩⟩)⟩)
 (B:=⟨WM P (D4 ws D) (x9 st d .skip)∧EM P t (D4 ws D) (x9 st d .skip) (Ks:=Ks) (kx:=kx)⟩)∧EM P r D st (Ks:=Ks) (kx:=kx)):=by rfl
@[simp] theorem evalM_stop {D}:EM P .stop D st (Ks:=Ks) (kx:=kx)=True:=by rfl
@[simp] theorem watch_nil:WM P [] st=True:=by rfl
@[simp] theorem watch_cons {i d op g D}:WM P ((i,⟨d,op,g⟩) :: D) st=(GS st g (A:=⟨SX P st op (Kp:=⟨hit st d⟩)⟩) (B:=⟨hit st d .skip⟩)∧WM P D st):=by rfl
@[simp] theorem hit_some {d q}:hit st (some d) q=(q=st.env d):=by rfl
@[simp] theorem keepW_nil {ws}:D4 ws []=[]:=by rfl
@[simp] theorem keepW_cons {ws k D}:D4 ws (k :: D)=if ws.contains k.1 then k :: D4 ws D else D4 ws D:=by simp [D4,List.filter_cons]
@[simp] theorem evalT_done:b5h P .done st (Ks:=Ks) (kx:=kx)=Ks.k st:=by rfl
@[simp] theorem evalT_stop:b5h P .stop st (Ks:=Ks) (kx:=kx)=True:=by rfl
@[simp] theorem evalT_alt {i d op g t r}:b5h P (.alt i ⟨d,op,g⟩ t r) st (Ks:=Ks) (kx:=kx)=(GS st g (A:=⟨SE P st (d.getD 0) op (Ke:=⟨fun p st'=>b5h P t (x9 st' d p) (Ks:=Ks) (kx:=kx)⟩) (kx:=kx)⟩) (B:=⟨b5h P t (x9 st d .skip) (Ks:=Ks) (kx:=kx)⟩)∧b5h P r st (Ks:=Ks) (kx:=kx)):=by rfl
@[simp] theorem J0 {a b}:EC P (.seq a b) st (K:=K)=EC P a st (K:=⟨fun e st'=>ET e st' (Ks:=⟨fun st'=>EC P b st' (K:=K)⟩) (K:=K)⟩):=by rfl
@[simp] theorem C1 {c a b}:EC P (.cond c a b) st (K:=K)=CD (ev st c) (A:=⟨EC P a st (K:=K)⟩) (B:=⟨EC P b st (K:=K)⟩):=by rfl
@[simp] theorem x3 {id c}:EC P (.block id c) st (K:=K)=EC P c st (K:=⟨fun e st'=>EB id e st' (K:=K)⟩):=by rfl
@[simp] theorem B9 {id}:EC P (.exit id) st (K:=K)=K.k (.exit id) st:=by rfl
@[simp] theorem J1:EC P .ret st (K:=K)=K.k .ret st:=by rfl
@[simp] theorem p7:ET .normal st (Ks:=Ks) (K:=K)=Ks.k st:=by rfl
@[simp] theorem D9 {id}:ET (.exit id) st (Ks:=Ks) (K:=K)=K.k (.exit id) st:=by rfl
@[simp] theorem L6:ET .ret st (Ks:=Ks) (K:=K)=K.k .ret st:=by rfl
@[simp] theorem L7 {r}:ET (.pan r) st (Ks:=Ks) (K:=K)=K.k (.pan r) st:=by rfl
@[simp] theorem l3 {id}:EB id .normal st (K:=K)=K.k .normal st:=by rfl
@[simp] theorem w7 {id}:EB id .ret st (K:=K)=K.k .ret st:=by rfl
@[simp] theorem w8 {id r}:EB id (.pan r) st (K:=K)=K.k (.pan r) st:=by rfl
@[simp] theorem o2 {id j}:EB id (.exit j) st (K:=K)=a5i (j=id) (A:=⟨K.k .normal st⟩) (B:=⟨K.k (.exit j) st⟩):=by
  unfold EB PExit.inBlock;exact b52
@[simp] theorem C2 {t:Bool} {A B:Kx Prop}:CD (.val (.bool t)) (A:=A) (B:=B)=a5i (t=true) (A:=A) (B:=B):=by
  cases t<;>simp [CD,b3b,a5i]
@[simp] theorem x2:EO P [] st (Ks:=Ks) (kx:=kx)=Ks.k st:=by rfl
@[simp] theorem o4 {d op g os}:EO P (⟨d,op,g⟩ :: os) st (Ks:=Ks) (kx:=kx)=GS st g (A:=⟨SE P st (d.getD 0) op (Ke:=⟨fun p st'=>EO P os (x9 st' d p) (Ks:=Ks) (kx:=kx)⟩) (kx:=kx)⟩) (B:=⟨EO P os (x9 st d .skip) (Ks:=Ks) (kx:=kx)⟩):=by rfl
@[simp] theorem I9:EX P [] st (Ks:=Ks)=Ks.k st:=by rfl
@[simp] theorem B7 {d op g os}:EX P (⟨d,op,g⟩ :: os) st (Ks:=Ks)=GS st g (A:=⟨SX P st op (Kp:=⟨fun p=>EX P os (x9 st d p) (Ks:=Ks)⟩)⟩) (B:=⟨EX P os (x9 st d .skip) (Ks:=Ks)⟩):=by rfl
@[simp] theorem x1 {A B:Kx Prop}:GS st none (A:=A) (B:=B)=A.k:=by rfl
@[simp] theorem w9 {s b} {A B:Kx Prop}:GS st (some (s,b)) (A:=A) (B:=B)=a5z (st.env s) (B:=B) (K:=⟨fun b'=>a5i (b'=b) (A:=A) (B:=B)⟩):=by
  show (match st.env s with | .val (.bool b')=>if b'=b then A.k else B.k | .skip=>B.k | _=>False)=_
  generalize st.env s=p
  cases p with
  | val r=>cases r with
   | bool t=>exact b52
   | _=>rfl
  | _=>rfl
@[simp] theorem H0 {d p}:x9 st (some d) p=⟨upd d p st.env,st.mem⟩:=by rfl
@[simp] theorem H1 {p}:x9 st none p=st:=by rfl
@[simp] theorem a4s {s}:ev st (.t s)=st.env s:=by rfl
@[simp] theorem a4t {p}:ev st (.k p)=p:=by rfl
@[simp] theorem F7 {d x}:SE P st d (.mov x) (Ke:=Ke) (kx:=kx)=Ke.k (ev st x) st:=by rfl
@[simp] theorem x8 {d c a b}:SE P st d (.pick c a b) (Ke:=Ke) (kx:=kx)=a5z (ev st c) (B:=⟨False⟩) (K:=⟨fun t=>a5i (t=true) (A:=⟨Ke.k (ev st a) st⟩) (B:=⟨Ke.k (ev st b) st⟩)⟩):=by
  show (match ev st c with | .val (.bool t)=>Ke.k (if t then ev st a else ev st b) st | _=>False)=_
  generalize ev st c=p
  cases p with
  | val r=>cases r with
   | bool t=>cases t<;>simp [a5z,a5i]
   | _=>rfl
  | _=>rfl
@[simp] theorem u7 {d z}:SE P st d (.alloc z) (Ke:=Ke) (kx:=kx)=Ke.k (.ptr d 0) ⟨fun x=>(st.env x).kill (· == d),upd d (.box z) fun x=>(st.mem x).kill (· == d)⟩:=by rfl
@[simp] theorem G7 {d x}:SE P st d (.box x) (Ke:=Ke) (kx:=kx)=((ev st x).solid st.mem=true∧(PV.killL (· == d) (ev st x).cells=(ev st x).cells) ∧
 Ke.k (.ptr d 0) ⟨fun x=>(st.env x).kill (· == d),upd d (.box (ev st x).cells) fun x=>(st.mem x).kill (· == d)⟩):=by rfl
@[simp] theorem u6 {d z parts}:SE P st d (.build z parts) (Ke:=Ke) (kx:=kx)=FP st z parts (K:=⟨fun cs=>Ke.k (l4 cs) st⟩):=by rfl
@[simp] theorem u1 {d x}:SE P st d (.nilck x) (Ke:=Ke) (kx:=kx)=a54 (ev st x) (K:=⟨fun p=>Ke.k p st⟩):=by rfl
@[simp] theorem G8 {d op x y}:SE P st d (.bin op x y) (Ke:=Ke) (kx:=kx)=BS op (ev st x) (ev st y) (K:=⟨fun p=>Ke.k p st⟩):=by rfl
@[simp] theorem G6 {d neg x y}:SE P st d (.eqb neg x y) (Ke:=Ke) (kx:=kx)=eqbK neg (ev st x) (ev st y) (K:=⟨fun p=>Ke.k p st⟩):=by rfl
@[simp] theorem G5 {d neg ks x y}:SE P st d (.eqs neg ks x y) (Ke:=Ke) (kx:=kx)=eqsK neg ks (ev st x) (ev st y) (K:=⟨fun p=>Ke.k p st⟩):=by rfl
@[simp] theorem M1 {d op x}:SE P st d (.un op x) (Ke:=Ke) (kx:=kx)=US op (ev st x) (K:=⟨fun p=>Ke.k p st⟩):=by rfl
@[simp] theorem A7 {d k x}:SE P st d (.conv k x) (Ke:=Ke) (kx:=kx)=b89 k (ev st x) (K:=⟨fun p=>Ke.k p st⟩):=by rfl
@[simp] theorem u4 {d off x}:SE P st d (.faddr off x) (Ke:=Ke) (kx:=kx)=a8z off (ev st x) (K:=⟨fun p=>Ke.k p st⟩):=by rfl
@[simp] theorem G3 {d agg off n x}:SE P st d (.fld agg off n x) (Ke:=Ke) (kx:=kx)=fldK agg off n (ev st x) (K:=⟨fun p=>Ke.k p st⟩):=by rfl
@[simp] theorem A5 {d agg n x}:SE P st d (.load agg n x) (Ke:=Ke) (kx:=kx)=b2p st.mem agg n (ev st x) (K:=⟨fun p=>Ke.k p st⟩):=by rfl
@[simp] theorem u3 {d sz x i}:SE P st d (.iaddr sz x i) (Ke:=Ke) (kx:=kx)=b1m st.mem sz (ev st x) (ev st i) (K:=⟨fun p=>Ke.k p st⟩):=by rfl
@[simp] theorem G2 {d x i}:SE P st d (.idx x i) (Ke:=Ke) (kx:=kx)=idxK (ev st x) (ev st i) (K:=⟨fun p=>Ke.k p st⟩):=by rfl
@[simp] theorem F5 {d z x lo hi}:SE P st d (.slc z x lo hi) (Ke:=Ke) (kx:=kx)=SLS z (ev st x) (lo.map (ev st)) (hi.map (ev st)) (K:=⟨fun p=>Ke.k p st⟩):=by rfl
@[simp] theorem G4 {d i x}:SE P st d (.ext i x) (Ke:=Ke) (kx:=kx)=extK i (ev st x) (K:=⟨fun p=>Ke.k p st⟩):=by rfl
@[simp] theorem A6 {d x}:SE P st d (.lens x) (Ke:=Ke) (kx:=kx)=b8l (ev st x) (K:=⟨fun p=>Ke.k p st⟩):=by rfl
@[simp] theorem G0 {d x}:SE P st d (.len x) (Ke:=Ke) (kx:=kx)=b8m st.mem (ev st x) (K:=⟨fun p=>Ke.k p st⟩):=by rfl
@[simp] theorem t8 {d x}:SE P st d (.tostr x) (Ke:=Ke) (kx:=kx)=a7s st.mem (ev st x) (K:=⟨fun p=>Ke.k p st⟩):=by rfl
@[simp] theorem A4 {d f caps}:SE P st d (.mkfn f caps) (Ke:=Ke) (kx:=kx)=Ke.k (.fn f (caps.map (ev st))) st:=by rfl
@[simp] theorem G1 {d t x}:SE P st d (.ifc t x) (Ke:=Ke) (kx:=kx)=ifcK t (ev st x) (K:=⟨fun p=>Ke.k p st⟩):=by rfl
@[simp] theorem M3 {d x y}:SE P st d (.mn x y) (Ke:=Ke) (kx:=kx)=mnK (ev st x) (ev st y) (K:=⟨fun p=>Ke.k p st⟩):=by rfl
@[simp] theorem F6 {d x y z u}:SE P st d (.mx4 x y z u) (Ke:=Ke) (kx:=kx)=mx4K (ev st x) (ev st y) (ev st z) (ev st u) (K:=⟨fun p=>Ke.k p st⟩):=by rfl
@[simp] theorem M2 {d x y}:SE P st d (.mx x y) (Ke:=Ke) (kx:=kx)=mxK (ev st x) (ev st y) (K:=⟨fun p=>Ke.k p st⟩):=by rfl
@[simp] theorem F9 {d E sz xs}:SE P st d (.lit E sz xs) (Ke:=Ke) (kx:=kx)=litK (elems st sz xs) (K:=⟨fun rs=>Ke.k (.own d) ⟨fun x=>(st.env x).kill (· == d),upd d (.row E sz rs) fun x=>(st.mem x).kill (· == d)⟩⟩):=by rfl
@[simp] theorem A8 {d f xs}:SE P st d (.call f xs) (Ke:=Ke) (kx:=kx)=KC P st d f (xs.map (ev st)) (Ke:=Ke) (kx:=kx):=by rfl
@[simp] theorem stepE_callr {d f x xs}:SE P st d (.callr f x xs) (Ke:=Ke) (kx:=kx)=RCp P st d f (ev st x) (ev st x).rowId (xs.map (ev st)) (Ke:=Ke) (kx:=kx):=by rfl
@[simp] theorem RCp_some {d f q id ps}:RCp P st d f q (some id) ps (Ke:=Ke) (kx:=kx)=RCm P st f id q (st.mem id) ps (Ke:=Ke):=by rfl
@[simp] theorem RCp_none {d f q ps}:RCp P st d f q none ps (Ke:=Ke) (kx:=kx)=KC P st d f (q :: ps) (Ke:=Ke) (kx:=kx):=by rfl
@[simp] theorem RCm_row {f id q E sz rs ps}:RCm P st f id q (.row E sz rs) ps (Ke:=Ke)=RC P st f id q E sz rs ps (Ke:=Ke):=by rfl
@[simp] theorem u5 {d x xs}:SE P st d (.callv x xs) (Ke:=Ke) (kx:=kx)=fnK (ev st x) (K:=⟨fun f caps=>fnB P f=true∧KC P st d f (xs.map (ev st)++caps) (Ke:=Ke) (kx:=kx)⟩):=by rfl
@[simp] theorem F8 {d E sz bytes agg z x}:SE P st d (.mks E sz bytes agg z x) (Ke:=Ke) (kx:=kx)=mksK bytes (ev st x) (o9 z) (K:=⟨fun n zs=>Ke.k (.own d) ⟨fun x=>(st.env x).kill (· == d),upd d (.row E sz (List.replicate n.toNat (if agg then .agg zs else zs.getD 0 .nilptr))) fun x=>(st.mem x).kill (· == d)⟩⟩):=by rfl
@[simp] theorem u2 {d iface neg x}:SE P st d (.isnil iface neg x) (Ke:=Ke) (kx:=kx)=a6b st.mem iface neg (ev st x) (K:=⟨fun p=>Ke.k p st⟩):=by rfl
@[simp] theorem u0 {d n a x}:SE P st d (.store n a x) (Ke:=Ke) (kx:=kx)=((ev st x).cells.length=n∧b3t st (ev st a) (ev st x) (K:=⟨fun st'=>Ke.k .skip st'⟩)):=by rfl
@[simp] theorem G9 {d E sz bytes x y}:SE P st d (.app E sz bytes x y) (Ke:=Ke) (kx:=kx)=addK (b6g st sz (ev st y)) (K:=⟨fun ys=>(∀ y'∈ys,y'.cells.all RV.one=true)∧appK st d E sz bytes (ev st x) (ev st y) ys (K:=Ke)⟩):=by rfl
def XS (st:St) (d:Nat) (o:XOp) [Ke:Kx (PV→St→Prop)]:Prop:=l2 st d o Ke.k
@[simp] theorem stepE_xop {d o}:SE P st d (.xop o) (Ke:=Ke) (kx:=kx)=XS st d o (Ke:=Ke):=by simp only [SE,P6,XS]
def a5d (o:Option (PV×Nat)) [K1:Kx (PV×Nat→Prop)] [K0:Kx Prop]:Prop:=match o with
 | some p=>K1.k p
 | none=>K0.k
@[simp] theorem onEntry_some {p} {K1:Kx (PV×Nat→Prop)} {K0:Kx Prop}:a5d (some p) (K1:=K1) (K0:=K0)=K1.k p:=by rfl
@[simp] theorem onEntry_none {K1:Kx (PV×Nat→Prop)} {K0:Kx Prop}:a5d none (K1:=K1) (K0:=K0)=K0.k:=by rfl
def a8c (st:St) (p:PV) (k:Option MKey) [K:Kx (Nat→MKey→Bool→Nat→(MKey→Option (PV×Nat))→Prop)]:Prop:=match p,k with
 | .own id,some key=>(match st.mem id with
  | .map s clk m=>K.k id key s clk m
  | _=>False)
 | _,_=>False
def b8c (id:Nat) (key:MKey) (m:MObj) [K:Kx (Nat→MKey→Bool→Nat→(MKey→Option (PV×Nat))→Prop)]:Prop:=match m with
 | .map s clk m=>K.k id key s clk m
 | _=>False
@[simp] theorem onMap_own {id key} {K:Kx (Nat→MKey→Bool→Nat→(MKey→Option (PV×Nat))→Prop)}:a8c st (.own id) (some key) (K:=K)=b8c id key (st.mem id) (K:=K):=by rfl
@[simp] theorem onMapM_map {id key s clk m} {K:Kx (Nat→MKey→Bool→Nat→(MKey→Option (PV×Nat))→Prop)}:b8c id key (.map s clk m) (K:=K)=K.k id key s clk m:=by rfl
@[simp] theorem key_int {n}:(PV.val (.int .i64 n)).key?=some (.i n):=by rfl
@[simp] theorem key_str {t}:(PV.val (.str t)).key?=some (.s t):=by rfl
@[simp] theorem isS_i {n}:(MKey.i n).isS=false:=by rfl
@[simp] theorem isS_s {t}:(MKey.s t).isS=true:=by rfl
@[simp] theorem XS_mkmap {d s}:XS st d (.mkmap s) (Ke:=Ke)=Ke.k (.own d) ⟨fun x=>(st.env x).kill (· == d),upd d (.map s 0 fun _=>none) fun x=>(st.mem x).kill (· == d)⟩:=by rfl
@[simp] theorem XS_mlook {d s ok z x k}:XS st d (.mlook s ok z x k) (Ke:=Ke)=a8c st (ev st x) (ev st k).key? (K:=⟨fun _ key s' _ m=>s'=s∧key.isS=s∧a5d (m key) (K1:=⟨fun p=>Ke.k (if ok then .tup [p.1,.val (.bool true)] else p.1) st⟩) (K0:=⟨Ke.k (if ok then .tup [z,.val (.bool false)] else z) st⟩)⟩):=by
  simp only [XS,l2,a8c]
  generalize ev st x=p
  cases p<;>rfl
@[simp] theorem XS_mupd {d s x k v}:XS st d (.mupd s x k v) (Ke:=Ke)=a8c st (ev st x) (ev st k).key? (K:=⟨fun id key s' clk m=>s'=s∧key.isS=s∧(ev st v).one st.mem=true∧a5d (m key) (K1:=⟨fun p=>Ke.k .skip ⟨st.env,upd id (.map s clk (a1m m key (ev st v) p.2)) st.mem⟩⟩) (K0:=⟨Ke.k .skip ⟨st.env,upd id (.map s (clk+1) (a1m m key (ev st v) clk)) st.mem⟩⟩)⟩):=by
  simp only [XS,l2,a8c]
  generalize ev st x=p
  cases p<;>rfl
@[simp] theorem XS_ment {d s z x k}:XS st d (.ment s z x k) (Ke:=Ke)=a8c st (ev st x) (ev st k).key? (K:=⟨fun id key s' clk m=>s'=s∧key.isS=s∧a5d (m key) (K1:=⟨fun p=>Ke.k (.tup [p.1,.val (.int .i64 p.2)]) st⟩) (K0:=⟨Ke.k (.tup [z,.val (.int .i64 clk)]) ⟨st.env,upd id (.map s (clk+1) (a1m m key z clk)) st.mem⟩⟩)⟩):=by
  simp only [XS,l2,a8c]
  generalize ev st x=p
  cases p<;>rfl
def b04 (st:St) (p q:PV) [K:Kx (Nat→Int→Bool→Nat→(MKey→Option (PV×Nat))→Prop)]:Prop:=match p,q with
 | .own id,.val (.int .i64 n)=>(match st.mem id with
  | .map s clk m=>K.k id n s clk m
  | _=>False)
 | _,_=>False
def b2f (id:Nat) (n:Int) (m:MObj) [K:Kx (Nat→Int→Bool→Nat→(MKey→Option (PV×Nat))→Prop)]:Prop:=match m with
 | .map s clk m=>K.k id n s clk m
 | _=>False
@[simp] theorem onStamp_own {id n} {K:Kx (Nat→Int→Bool→Nat→(MKey→Option (PV×Nat))→Prop)}:b04 st (.own id) (.val (.int .i64 n)) (K:=K)=b2f id n (st.mem id) (K:=K):=by rfl
@[simp] theorem onStampM_map {id n s clk m} {K:Kx (Nat→Int→Bool→Nat→(MKey→Option (PV×Nat))→Prop)}:b2f id n (.map s clk m) (K:=K)=K.k id n s clk m:=by rfl
def exEntry (m:MKey→Option (PV×Nat)) (n:Int) [K:Kx (MKey→Nat→Prop)]:Prop:=∃ key p,m key=some p∧(p.2:Int)=n∧K.k key p.2
@[simp] theorem XS_mest {d x b v}:XS st d (.mest x b v) (Ke:=Ke)=b04 st (ev st x) (ev st b) (K:=⟨fun id n s clk m=>(ev st v).one st.mem=true∧exEntry m n (K:=⟨fun key b=>Ke.k .skip ⟨st.env,upd id (.map s clk (a1m m key (ev st v) b)) st.mem⟩⟩)⟩):=by
  simp only [XS,l2,b04]
  generalize ev st x=p
  cases p<;>rfl
@[simp] theorem mput_same {m k v b}:a1m m k v b k=some (v,b):=by simp [a1m]
@[simp] theorem XS_plit {d E sz x}:XS st d (.plit E sz x) (Ke:=Ke)=((ev st x).solid st.mem=true∧(ev st x).cells.length=sz ∧
 Ke.k (.own d) ⟨fun x=>(st.env x).kill (· == d),upd d (.prow E sz 1 fun _ k=>((ev st x).cells.getD k .undef).kill (· == d)) fun x=>(st.mem x).kill (· == d)⟩):=by rfl
def a8b (st:St) (p:PV) [K:Kx (Nat→Nat→Nat→Nat→(Nat→Nat→PV)→Prop)]:Prop:=match p with
 | .own id=>(match st.mem id with
  | .prow E sz n c=>K.k id E sz n c
  | _=>False)
 | _=>False
def b5u (id:Nat) (m:MObj) [K:Kx (Nat→Nat→Nat→Nat→(Nat→Nat→PV)→Prop)]:Prop:=match m with
 | .prow E sz n c=>K.k id E sz n c
 | _=>False
@[simp] theorem onProw_own {id} {K:Kx (Nat→Nat→Nat→Nat→(Nat→Nat→PV)→Prop)}:a8b st (.own id) (K:=K)=b5u id (st.mem id) (K:=K):=by rfl
@[simp] theorem onProwM_prow {id E sz n c} {K:Kx (Nat→Nat→Nat→Nat→(Nat→Nat→PV)→Prop)}:b5u id (.prow E sz n c) (K:=K)=K.k id E sz n c:=by rfl
def b8a (st:St) (p:PV) (d E sz bytes iy ny:Nat) (cy:Nat→Nat→PV) [Ke:Kx (PV→St→Prop)]:Prop:=match p with
 | .own id=>(match st.mem id with
  | .prow E' sz' n c=>R4 id∧iy≠id∧E'=E∧sz'=sz∧(n+ny)*bytes≤140737488355328∧n+ny≤9223372036854775807 ∧
   Ke.k (.own id) ⟨fun x=>(st.env x).kill (· == id),upd id (.prow E sz (n+ny) fun j k=>(if j < n then c j k else cy (j - n) k).kill (· == id)) fun x=>(st.mem x).kill (· == id)⟩
  | _=>False)
 | .emp _=>ny*bytes≤140737488355328∧ny≤9223372036854775807 ∧
  Ke.k (.own d) ⟨fun x=>(st.env x).kill (· == d),upd d (.prow E sz ny fun j k=>(cy j k).kill (· == d)) fun x=>(st.mem x).kill (· == d)⟩
 | _=>False
def pappM (st:St) (id:Nat) (m:MObj) (E sz bytes iy ny:Nat) (cy:Nat→Nat→PV) [Ke:Kx (PV→St→Prop)]:Prop:=match m with
 | .prow E' sz' n c=>R4 id∧iy≠id∧E'=E∧sz'=sz∧(n+ny)*bytes≤140737488355328∧n+ny≤9223372036854775807 ∧
  Ke.k (.own id) ⟨fun x=>(st.env x).kill (· == id),upd id (.prow E sz (n+ny) fun j k=>(if j < n then c j k else cy (j - n) k).kill (· == id)) fun x=>(st.mem x).kill (· == id)⟩
 | _=>False
@[simp] theorem pappK_own {id d E sz bytes iy ny cy}:b8a st (.own id) d E sz bytes iy ny cy (Ke:=Ke)=pappM st id (st.mem id) E sz bytes iy ny cy (Ke:=Ke):=by rfl
@[simp] theorem pappK_emp {s d E sz bytes iy ny cy}:b8a st (.emp s) d E sz bytes iy ny cy (Ke:=Ke)=(ny*bytes≤140737488355328∧ny≤9223372036854775807 ∧
 Ke.k (.own d) ⟨fun x=>(st.env x).kill (· == d),upd d (.prow E sz ny fun j k=>(cy j k).kill (· == d)) fun x=>(st.mem x).kill (· == d)⟩):=by rfl
@[simp] theorem pappM_prow {id E sz bytes iy ny cy E' sz' n c}:pappM st id (.prow E' sz' n c) E sz bytes iy ny cy (Ke:=Ke)=(R4 id∧iy≠id∧E'=E∧sz'=sz∧(n+ny)*bytes≤140737488355328∧n+ny≤9223372036854775807 ∧
 Ke.k (.own id) ⟨fun x=>(st.env x).kill (· == id),upd id (.prow E sz (n+ny) fun j k=>(if j < n then c j k else cy (j - n) k).kill (· == id)) fun x=>(st.mem x).kill (· == id)⟩):=by rfl
@[simp] theorem XS_papp {d E sz bytes x y}:XS st d (.papp E sz bytes x y) (Ke:=Ke)=a8b st (ev st y) (K:=⟨fun iy _ sy ny cy=>sy=sz∧b8a st (ev st x) d E sz bytes iy ny cy (Ke:=Ke)⟩):=by
  simp only [XS,l2,a8b]
  generalize ev st y=p
  cases p<;>rfl
@[simp] theorem XS_plen {d x}:XS st d (.plen x) (Ke:=Ke)=a8b st (ev st x) (K:=⟨fun _ _ _ n _=>Ke.k (.val (.int .i64 n)) st⟩):=by
  simp only [XS,l2,a8b]
  generalize ev st x=p
  cases p<;>rfl
def b5t (st:St) (p i:PV) (sz:Nat) [Ke:Kx (PV→St→Prop)]:Prop:=match p,i with
 | .own id,.val (.int _ j)=>(match st.mem id with
  | .prow _ s n _=>s=sz∧0≤j∧j < n∧Ke.k (.elt id j.toNat sz 0) st
  | _=>False)
 | _,_=>False
def b5s (st:St) (id:Nat) (m:MObj) (j:Int) (sz:Nat) [Ke:Kx (PV→St→Prop)]:Prop:=match m with
 | .prow _ s n _=>s=sz∧0≤j∧j < n∧Ke.k (.elt id j.toNat sz 0) st
 | _=>False
@[simp] theorem piaddrK_own {id k j sz}:b5t st (.own id) (.val (.int k j)) sz (Ke:=Ke)=b5s st id (st.mem id) j sz (Ke:=Ke):=by rfl
@[simp] theorem piaddrM_prow {id E s n c j sz}:b5s st id (.prow E s n c) j sz (Ke:=Ke)=(s=sz∧0≤j∧j < n∧Ke.k (.elt id j.toNat sz 0) st):=by rfl
@[simp] theorem XS_piaddr {d sz x i}:XS st d (.piaddr sz x i) (Ke:=Ke)=b5t st (ev st x) (ev st i) sz (Ke:=Ke):=by rfl
def b79 (st:St) (p:PV) (agg:Bool) (n:Nat) [Ke:Kx (PV→St→Prop)]:Prop:=match p with
 | .elt id j s o=>(match st.mem id with
  | .prow _ sz nn c=>s=sz∧j < nn∧0 < n∧o+n≤sz∧Ke.k (if agg then l4 ((List.range n).map fun k=>c j (o+k)) else c j o) st
  | _=>False)
 | _=>False
def b78 (st:St) (m:MObj) (j s o:Nat) (agg:Bool) (n:Nat) [Ke:Kx (PV→St→Prop)]:Prop:=match m with
 | .prow _ sz nn c=>s=sz∧j < nn∧0 < n∧o+n≤sz∧Ke.k (if agg then l4 ((List.range n).map fun k=>c j (o+k)) else c j o) st
 | _=>False
@[simp] theorem ploadK_elt {id j s o agg n}:b79 st (.elt id j s o) agg n (Ke:=Ke)=b78 st (st.mem id) j s o agg n (Ke:=Ke):=by rfl
@[simp] theorem ploadM_prow {E sz nn c j s o agg n}:b78 st (.prow E sz nn c) j s o agg n (Ke:=Ke)=(s=sz∧j < nn∧0 < n∧o+n≤sz∧Ke.k (if agg then l4 ((List.range n).map fun k=>c j (o+k)) else c j o) st):=by rfl
@[simp] theorem XS_pload {d agg n x}:XS st d (.pload agg n x) (Ke:=Ke)=b79 st (ev st x) agg n (Ke:=Ke):=by rfl
def b5r (st:St) (a p:PV) (n:Nat) [Ke:Kx (PV→St→Prop)]:Prop:=match a with
 | .elt id j s o=>(match st.mem id with
  | .prow E sz nn c=>s=sz∧j < nn∧p.solid st.mem=true∧o+n≤sz ∧
   Ke.k .skip ⟨st.env,upd id (.prow E sz nn fun j' k=>if j'=j∧o≤k∧k < o+n then p.cells.getD (k - o) .undef else c j' k) st.mem⟩
  | _=>False)
 | _=>False
def b5q (st:St) (id:Nat) (m:MObj) (j s o:Nat) (p:PV) (n:Nat) [Ke:Kx (PV→St→Prop)]:Prop:=match m with
 | .prow E sz nn c=>s=sz∧j < nn∧p.solid st.mem=true∧o+n≤sz ∧
  Ke.k .skip ⟨st.env,upd id (.prow E sz nn fun j' k=>if j'=j∧o≤k∧k < o+n then p.cells.getD (k - o) .undef else c j' k) st.mem⟩
 | _=>False
@[simp] theorem pstoreK_elt {id j s o p n}:b5r st (.elt id j s o) p n (Ke:=Ke)=b5q st id (st.mem id) j s o p n (Ke:=Ke):=by rfl
@[simp] theorem pstoreM_prow {id E sz nn c j s o p n}:b5q st id (.prow E sz nn c) j s o p n (Ke:=Ke)=(s=sz∧j < nn∧p.solid st.mem=true∧o+n≤sz ∧
 Ke.k .skip ⟨st.env,upd id (.prow E sz nn fun j' k=>if j'=j∧o≤k∧k < o+n then p.cells.getD (k - o) .undef else c j' k) st.mem⟩):=by rfl
@[simp] theorem XS_pstore {d n a x}:XS st d (.pstore n a x) (Ke:=Ke)=((ev st x).cells.length=n∧b5r st (ev st a) (ev st x) n (Ke:=Ke)):=by rfl
@[simp] theorem stepX_xop {o}:SX P st (.xop o) (Kp:=Kp)=(o.reads=true∧XS st 0 o (Ke:=⟨fun p _=>Kp.k p⟩)):=by rfl
@[simp] theorem reads_mlook {s ok z x k}:(XOp.mlook s ok z x k).reads=true:=by rfl
@[simp] theorem reads_plen {x}:(XOp.plen x).reads=true:=by rfl
@[simp] theorem reads_piaddr {sz x i}:(XOp.piaddr sz x i).reads=true:=by rfl
@[simp] theorem reads_pload {agg n x}:(XOp.pload agg n x).reads=true:=by rfl
theorem b11 {op} (h:op.isStill=true):SX P st op (Kp:=Kp)=SE P st 0 op (Ke:=⟨fun p _=>Kp.k p⟩) (kx:=⟨fun _ _=>False⟩):=by
 cases op<;>first | rfl | (simp [POp.isStill] at h)
@[simp] theorem E5 {x}:SX P st (.mov x) (Kp:=Kp)=Kp.k (ev st x):=by rfl
@[simp] theorem p9 {x}:SX P st (.nilck x) (Kp:=Kp)=a54 (ev st x) (K:=⟨Kp.k⟩):=by rfl
@[simp] theorem F4 {op x y}:SX P st (.bin op x y) (Kp:=Kp)=BS op (ev st x) (ev st y) (K:=⟨Kp.k⟩):=by rfl
@[simp] theorem F3 {neg x y}:SX P st (.eqb neg x y) (Kp:=Kp)=eqbK neg (ev st x) (ev st y) (K:=⟨Kp.k⟩):=by rfl
@[simp] theorem F2 {neg ks x y}:SX P st (.eqs neg ks x y) (Kp:=Kp)=eqsK neg ks (ev st x) (ev st y) (K:=⟨Kp.k⟩):=by rfl
@[simp] theorem L8 {op x}:SX P st (.un op x) (Kp:=Kp)=US op (ev st x) (K:=⟨Kp.k⟩):=by rfl
@[simp] theorem A2 {k x}:SX P st (.conv k x) (Kp:=Kp)=b89 k (ev st x) (K:=⟨Kp.k⟩):=by rfl
@[simp] theorem q8 {off x}:SX P st (.faddr off x) (Kp:=Kp)=a8z off (ev st x) (K:=⟨Kp.k⟩):=by rfl
@[simp] theorem F0 {agg off n x}:SX P st (.fld agg off n x) (Kp:=Kp)=fldK agg off n (ev st x) (K:=⟨Kp.k⟩):=by rfl
@[simp] theorem A0 {agg n x}:SX P st (.load agg n x) (Kp:=Kp)=b2p st.mem agg n (ev st x) (K:=⟨Kp.k⟩):=by rfl
@[simp] theorem q7 {sz x i}:SX P st (.iaddr sz x i) (Kp:=Kp)=b1m st.mem sz (ev st x) (ev st i) (K:=⟨Kp.k⟩):=by rfl
@[simp] theorem E9 {x i}:SX P st (.idx x i) (Kp:=Kp)=idxK (ev st x) (ev st i) (K:=⟨Kp.k⟩):=by rfl
@[simp] theorem E3 {z x lo hi}:SX P st (.slc z x lo hi) (Kp:=Kp)=SLS z (ev st x) (lo.map (ev st)) (hi.map (ev st)) (K:=⟨Kp.k⟩):=by rfl
@[simp] theorem F1 {i x}:SX P st (.ext i x) (Kp:=Kp)=extK i (ev st x) (K:=⟨Kp.k⟩):=by rfl
@[simp] theorem A1 {x}:SX P st (.lens x) (Kp:=Kp)=b8l (ev st x) (K:=⟨Kp.k⟩):=by rfl
@[simp] theorem E7 {x}:SX P st (.len x) (Kp:=Kp)=b8m st.mem (ev st x) (K:=⟨Kp.k⟩):=by rfl
@[simp] theorem p8 {x}:SX P st (.tostr x) (Kp:=Kp)=a7s st.mem (ev st x) (K:=⟨Kp.k⟩):=by rfl
@[simp] theorem z8 {f caps}:SX P st (.mkfn f caps) (Kp:=Kp)=Kp.k (.fn f (caps.map (ev st))):=by rfl
@[simp] theorem E8 {t x}:SX P st (.ifc t x) (Kp:=Kp)=ifcK t (ev st x) (K:=⟨Kp.k⟩):=by rfl
@[simp] theorem M0 {x y}:SX P st (.mn x y) (Kp:=Kp)=mnK (ev st x) (ev st y) (K:=⟨Kp.k⟩):=by rfl
@[simp] theorem E4 {x y z u}:SX P st (.mx4 x y z u) (Kp:=Kp)=mx4K (ev st x) (ev st y) (ev st z) (ev st u) (K:=⟨Kp.k⟩):=by rfl
@[simp] theorem L9 {x y}:SX P st (.mx x y) (Kp:=Kp)=mxK (ev st x) (ev st y) (K:=⟨Kp.k⟩):=by rfl
@[simp] theorem z7 {c a b}:SX P st (.pick c a b) (Kp:=Kp)=a5z (ev st c) (B:=⟨False⟩) (K:=⟨fun t=>a5i (t=true) (A:=⟨Kp.k (ev st a)⟩) (B:=⟨Kp.k (ev st b)⟩)⟩):=(b11 (P:=P) rfl).trans x8
@[simp] theorem s9 {z parts}:SX P st (.build z parts) (Kp:=Kp)=FP st z parts (K:=⟨fun cs=>Kp.k (l4 cs)⟩):=by rfl
@[simp] theorem E6 {E sz xs}:SX P st (.lit E sz xs) (Kp:=Kp)=litK (elems st sz xs) (K:=⟨fun rs=>Kp.k (.val (.list sz rs))⟩):=by rfl
@[simp] theorem A3 {f xs}:SX P st (.call f xs) (Kp:=Kp)=KX P st f (xs.map (ev st)) (Kp:=Kp):=by rfl
@[simp] theorem q9 {x xs}:SX P st (.callv x xs) (Kp:=Kp)=fnK (ev st x) (K:=⟨fun f caps=>fnB P f=true∧KX P st f (xs.map (ev st)++caps) (Kp:=Kp)⟩):=by rfl
@[simp] theorem N2 {r d}:(PV.val r).kill d=.val r:=by rfl
@[simp] theorem N5 {r d}:(PV.emp r).kill d=.emp r:=by rfl
@[simp] theorem T3 {r d}:(PV.at r).kill d=.at r:=by rfl
@[simp] theorem B2 {d}:PV.undef.kill d=.undef:=by rfl
@[simp] theorem H7 {d}:PV.skip.kill d=.skip:=by rfl
@[simp] theorem T2 {f cs d}:(PV.fn f cs).kill d=.fn f (PV.killL d cs):=by rfl
@[simp] theorem N4 {i d}:(PV.own i).kill d=if d i then .undef else .own i:=by rfl
@[simp] theorem N3 {i o d}:(PV.ptr i o).kill d=if d i then .undef else .ptr i o:=by rfl
@[simp] theorem N6 {i j s o d}:(PV.elt i j s o).kill d=if d i then .undef else .elt i j s o:=by rfl
@[simp] theorem H8 {E sz xs d}:(MObj.row E sz xs).kill d=.row E sz xs:=by rfl
@[simp] theorem H9 {cs d}:(MObj.box cs).kill d=.box (PV.killL d cs):=by rfl
@[simp] theorem B3 {d}:MObj.dead.kill d=.dead:=by rfl
@[simp] theorem killM_prow {E sz n c d}:(MObj.prow E sz n c).kill d=.prow E sz n fun j k=>(c j k).kill d:=by rfl
@[simp] theorem killM_map {s clk m d}:(MObj.map s clk m).kill d=.map s clk fun k=>(m k).map fun p=>(p.1.kill d,p.2):=by rfl
attribute [simp] R4 okId
theorem j6 {f ps as r} (ha:a0z st.mem ps=some as) (hb:boxIds ps=[]) (hr:ps.all PV.noOwn=true∨r.flat=true) (h:f9 P f as (.ret (.val r) []) []) (hK:Kp.k (.val r)):KX P st f ps (Kp:=Kp):=by
 unfold KX a0y
 rw [ha]
 exact ⟨hb,.val r,h,fun _=>rfl,rfl,by simpa [PV.flat] using hr,hK⟩
@[simp] theorem O0 {op k x k' y}:BS op (.val (.int k x)) (.val (.int k' y)) (K:=Kp)=(k=k'∧BI op k x y (K:=⟨fun r=>Kp.k (.val r)⟩)):=by rfl
@[simp] theorem N9 {op x y}:BS op (.val (.str x)) (.val (.str y)) (K:=Kp)=BT op x y (K:=⟨fun r=>Kp.k (.val r)⟩):=by rfl
section
variable {k:IntKind} {x y:Int} {Kr:Kx (RV→Prop)} {u v:ByteArray}
@[simp] theorem P1:BI .add k x y (K:=Kr)=Kr.k (.int k (k.wrap (x+y))):=by rfl
@[simp] theorem O1:BI .sub k x y (K:=Kr)=Kr.k (.int k (k.wrap (x - y))):=by rfl
@[simp] theorem O5:BI .mul k x y (K:=Kr)=Kr.k (.int k (k.wrap (x*y))):=by rfl
@[simp] theorem O3:BI .quo k x y (K:=Kr)=(y≠0∧Kr.k (.int k (k.wrap (x.tdiv y)))):=by rfl
@[simp] theorem O2:BI .rem k x y (K:=Kr)=(y≠0∧Kr.k (.int k (x.tmod y))):=by rfl
@[simp] theorem P0:BI .eql k x y (K:=Kr)=Kr.k (.bool (x == y)):=by rfl
@[simp] theorem O4:BI .neq k x y (K:=Kr)=Kr.k (.bool (x != y)):=by rfl
@[simp] theorem O6:BI .lss k x y (K:=Kr)=Kr.k (.bool (x < y)):=by rfl
@[simp] theorem O7:BI .leq k x y (K:=Kr)=Kr.k (.bool (x≤y)):=by rfl
@[simp] theorem O8:BI .gtr k x y (K:=Kr)=Kr.k (.bool (x > y)):=by rfl
@[simp] theorem O9:BI .geq k x y (K:=Kr)=Kr.k (.bool (x≥y)):=by rfl
@[simp] theorem C5:BT .add u v (K:=Kr)=(u.size+v.size≤9223372036854775807∧Kr.k (.str (u++v))):=by rfl
@[simp] theorem C4:BT .eql u v (K:=Kr)=Kr.k (.bool (decide (u=v))):=by rfl
@[simp] theorem C3:BT .neq u v (K:=Kr)=Kr.k (.bool (!decide (u=v))):=by rfl
end
@[simp] theorem R8 {b}:US .not (.val (.bool b)) (K:=Kp)=Kp.k (.val (.bool !b)):=by rfl
@[simp] theorem R9 {k n}:US .neg (.val (.int k n)) (K:=Kp)=Kp.k (.val (.int k (k.wrap (0 - n)))):=by rfl
theorem b8 {d f ps as r} (ha:a0z st.mem ps=some as) (hb:boxIds ps=[]) (hr:ps.all PV.noOwn=true∨r.flat=true) (h:f9 P f as (.ret (.val r) []) []) (hK:Ke.k (.val r) st):KC P st d f ps (Ke:=Ke) (kx:=kx):=by
 refine a1g (K:=fun q st'=>q=.val r∧st'=st) (kx:=fun _ _=>False) (fun p s hh=>by obtain ⟨rfl,rfl⟩:=hh;exact hK) (fun _ _ hh=>hh.elim) (a1v ?_)
 unfold a0y
 rw [ha]
 exact ⟨hb,.val r,h,fun _=>rfl,rfl,by simpa [PV.flat] using hr,rfl⟩
@[simp] theorem I6 {cs:List PV} {K:Kx (List PV→Prop)}:FP st cs [] (K:=K)=K.k cs:=by rfl
@[simp] theorem B6 {cs:List PV} {off n x ps} {K:Kx (List PV→Prop)}:FP st cs ((off,n,x) :: ps) (K:=K)=((ev st x).solid st.mem=true∧(ev st x).cells.length=n∧off+n≤cs.length∧FP st (l0 cs off (ev st x).cells) ps (K:=K)):=by rfl
@[simp] theorem X5 {s k l}:SLS 0 (.val (.str s)) (some (.val (.int k l))) none (K:=Kp)=(0≤l∧l.toNat≤s.size∧Kp.k (.val (.str (s.extract l.toNat s.size)))):=by simp [SLS,a66,X2,X1]
@[simp] theorem X6 {s k h}:SLS 0 (.val (.str s)) none (some (.val (.int k h))) (K:=Kp)=(0≤h∧h≤s.size∧Kp.k (.val (.str (s.extract 0 h.toNat)))):=by simp [SLS,a66,X2,X1]
@[simp] theorem M4 {s k l k' h}:SLS 0 (.val (.str s)) (some (.val (.int k l))) (some (.val (.int k' h))) (K:=Kp)=((0≤h∧h≤s.size)∧0≤l∧l.toNat≤h.toNat∧Kp.k (.val (.str (s.extract l.toNat h.toNat)))):=by simp [SLS,a66,X2,X1,and_assoc]
@[simp] theorem S0 {z xs k l} (hz:z≠0):SLS z (.val (.list z xs)) (some (.val (.int k l))) none (K:=Kp)=(0≤l∧l.toNat≤xs.length∧Kp.k (.val (.list z ((xs.take xs.length).drop l.toNat)))):=by simp [SLS,a66,X2,X1,hz]
@[simp] theorem S1 {z xs k h} (hz:z≠0):SLS z (.val (.list z xs)) none (some (.val (.int k h))) (K:=Kp)=(0≤h∧h≤xs.length∧Kp.k (.val (.list z (xs.take h.toNat)))):=by simp [SLS,a66,X2,X1,hz]
end
def LoopNext {X:Type} (x:X) (st':St) [L:Kx ((X→St)×(X→Prop)×(X→Nat))]:Prop:=∃ x',L.k.2.1 x'∧L.k.2.2 x' < L.k.2.2 x∧Le st' (L.k.1 x')
theorem LoopNext.mk {X:Type} {S:X→St} {I:X→Prop} {μ:X→Nat} {x:X} {st':St} (x':X) (h1:I x') (h2:μ x' < μ x) (h3:Le st' (S x')):LoopNext x st' (L:=⟨(S,I,μ)⟩):=⟨x',h1,h2,h3⟩
theorem y8 {P:Program} {c:PC} {st:St} {K:Kx (PExit→St→Prop)} {X:Type} (S:X→St) (I:X→Prop) (μ:X→Nat) (x0:X) (h0:Le st (S x0)) (hi:I x0)
 (hr:∀ x,I x→EC P c (S x) (K:=⟨fun e st'=>ET e st' (Ks:=⟨fun st'=>LoopNext x st' (L:=⟨(S,I,μ)⟩)⟩) (K:=K)⟩)):EC P (.loop (.ghost c)) st (K:=K):=
 loop_le S I μ x0 h0 hi hr
@[simp] theorem J3 (x:Nat):D2 [] x=.undef:=by rfl
@[simp] theorem y0 (k:Nat) (p:PV) (l:List (Nat×PV)) (x:Nat):D2 ((k,p) :: l) x=if x=k then p else D2 l x:=by rfl
@[simp] theorem H5 (x:Nat):D0 [] x=.dead:=by rfl
@[simp] theorem B0 (k:Nat) (p:MObj) (l:List (Nat×MObj)) (x:Nat):D0 ((k,p) :: l) x=if x=k then p else D0 l x:=by rfl
mutual
def PV.pl:PV→PV
 | .emp s=>.val (.list s [])
 | .agg cs=>l4 (PV.plL cs)
 | .tup cs=>.tup (PV.plL cs)
 | .fn f cs=>.fn f cs
 | .own i=>.own i
 | .ptr i o=>.ptr i o
 | .elt i j s o=>.elt i j s o
 | .undef=>.undef
 | .skip=>.skip
 | .val r=>.val r
 | .at cs=>.at cs
def PV.plL:List PV→List PV
 | []=>[]
 | p :: ps=>p.pl :: PV.plL ps
end
theorem PV.plL_map (ps:List PV):PV.plL ps=ps.map PV.pl:=by
 induction ps with
 | nil=>rfl
 | cons p ps ih=>simp [PV.plL,ih]
theorem PV.plL_length (ps:List PV):(PV.plL ps).length=ps.length:=by simp [PV.plL_map]
theorem PV.plL_getD (ps:List PV) (i:Nat) (h:i < ps.length):(PV.plL ps).getD i .undef=(ps.getD i .undef).pl:=by
 simp [PV.plL_map,List.getD_eq_getElem?_getD,List.getElem?_map,List.getElem?_eq_getElem h]
theorem RepP.pl {γ:Nat→Value} {L:Nat→Prop} {w:World} {p:PV} {v:Value} (h:RepP γ L w p v):RepP γ L w p.pl v:=by
 induction h with
 | emp s=>exact .val _ _ (.list0 _ _ _)
 | agg cs vs hs _ ih=>exact a16 (by rw [PV.plL_length];exact hs) (fun i hi=>by rw [PV.plL_length] at hi;rw [PV.plL_getD _ _ hi];exact ih i hi)
 | tup cs vs hs _ ih=>exact .tup _ vs (by rw [PV.plL_length];exact hs) (fun i hi=>by rw [PV.plL_length] at hi;rw [PV.plL_getD _ _ hi];exact ih i hi)
 | undef v=>exact .undef v
 | skip=>exact .skip
 | val r v h=>exact .val r v h
 | own id v h=>exact .own id v h
 | ptr id off b h=>exact .ptr id off b h
 | elt id j sz off b n c h=>exact .elt id j sz off b n c h
 | «at» cells b o f hb h0 hc h=>exact .at cells b o f hb h0 hc h
 | fn f cs vs hs h _=>exact .fn f cs vs hs h
def MObj.pl:MObj→MObj
 | .box cs=>.box (PV.plL cs)
 | o=>o
theorem Le.plain (st:St):Le st ⟨fun x=>(st.env x).pl,fun i=>(st.mem i).pl⟩:=fun F γ a w hI=>by
 have hlive:∀ i,(st.mem i).pl.live=(st.mem i).live:=fun i=>by cases st.mem i<;>rfl
 have hL:i8 F.L γ (fun i=>(st.mem i).pl)=i8 F.L γ st.mem:=by funext b;simp only [i8,hlive]
 refine ⟨γ,hI.sz,hI.df,fun x=>?_,⟨fun id cs hid=>?_,fun id E sz xs hid=>?_,fun id E sz n c hid=>?_,fun id s clk m hid=>?_,fun id id' b h1 h2=>hI.mem.inj id id' b (by rw [← hlive];exact h1) (by rw [← hlive];exact h2)⟩,hI.fr,?_,fun k b cs hb hm=>?_,fun v E sz xs hv hm=>?_,fun i v hv hm=>hI.pinn i v hv (by rw [← hlive];exact hm)⟩
 · show RepP γ (i8 F.L γ (fun i=>(st.mem i).pl)) w _ _
   rw [hL];exact (hI.env x).pl
 · cases ho:st.mem id with
   | dead=>simp [ho,MObj.pl] at hid
   | row E sz xs=>simp [ho,MObj.pl] at hid
   | prow E sz n c=>simp [ho,MObj.pl] at hid
   | map s clk m=>simp [ho,MObj.pl] at hid
   | box cs0=>
    simp only [ho,MObj.pl,MObj.box.injEq] at hid
    subst hid
    obtain ⟨b,arr,T,h1,h2,h3,h4,h5⟩:=hI.mem.box id cs0 ho
    refine ⟨b,arr,T,h1,h2,by rw [PV.plL_length];exact h3,h4,fun j hj=>?_⟩
    rw [PV.plL_length] at hj
    rw [PV.plL_getD _ _ hj,hL]
    exact ⟨(h5 j hj).1.pl,(h5 j hj).2⟩
 · cases ho:st.mem id with
   | dead=>simp [ho,MObj.pl] at hid
   | box cs=>simp [ho,MObj.pl] at hid
   | prow E sz n c=>simp [ho,MObj.pl] at hid
   | map s clk m=>simp [ho,MObj.pl] at hid
   | row E' sz' xs'=>
    simp only [ho,MObj.pl] at hid
    obtain ⟨vs,h1,h2,h3,h4⟩:=hI.mem.row id E sz xs (by rw [ho];exact hid)
    refine ⟨vs,h1,h2,?_,h4⟩
    rw [hL];exact h3
 · have ho:st.mem id=.prow E sz n c:=by cases ho:st.mem id<;>simp [ho,MObj.pl] at hid ⊢;exact hid
   have:=hI.mem.prow id E sz n c ho
   rw [hL];exact this
 · have ho:st.mem id=.map s clk m:=by cases ho:st.mem id<;>simp [ho,MObj.pl] at hid ⊢;exact hid
   have:=hI.mem.map id s clk m ho
   rw [hL];exact this
 · show Globs (i8 F.L γ (fun i=>(st.mem i).pl)) w
   rw [hL];exact hI.gl
 · cases ho:st.mem (900+k) with
   | box cs0=>exact hI.pin k b cs0 hb ho
   | _=>simp [ho,MObj.pl] at hm
 · cases ho:st.mem 900 with
   | row E' sz' xs'=>exact hI.pinr v E' sz' xs' hv ho
   | _=>simp [ho,MObj.pl] at hm
def St.fin (st:St):St:=
 ⟨fun x=>((st.freeze fun _=>true).env x).pl,fun i=>((st.freeze fun _=>true).mem i).pl⟩
def Z6 (res:List Rs) (p:PV):PExit→St→Prop
 | .normal,st=>J8 res st.fin=some p
 | .ret,st=>J8 res st.fin=some p
 | _,_=>False
theorem f8 {P:Program} {f:Nat} {c:PC} {res:List Rs} {as:List AV} {p:PV} (hm:P.follows .mixedOrders=true) (hc:j8 P f c as.length res=true) (hb:d7 as=[]) (hp:∀ ι,p.ren ι=p)
 (h:P9 P c (f7 as) (Z6 res p)):f9 P f as (.ret p []) []:=by
 refine b58 hm hc (K8 (fun e s hh=>?_) h)
 have key:J8 res s.fin=some p→∃ st',Le s st'∧b5g res (d7 as).length (.ret p []) [] .ret st':=fun hh=>
  ⟨s.fin,(Le.freeze s _).trans (Le.plain _),(by rw [hb]),⟨⟨id,by rw [hp];exact hh,fun i j hi=>by simp at hi,fun i r hr=>by simp at hr⟩,trivial⟩⟩
 cases e with
 | normal=>exact key hh
 | ret=>exact key hh
 | exit id=>exact hh.elim
 | pan r=>exact hh.elim
@[simp] theorem P3 {res p} {st:St}:Z6 res p .ret st=(J8 res st.fin=some p):=by rfl
@[simp] theorem x6 {res p} {st:St}:Z6 res p .normal st=(J8 res st.fin=some p):=by rfl
@[simp] theorem X7 {s} {st:St}:J8 [.t s] st=some (st.env s):=by rfl
@[simp] theorem S3 {a b} {st:St}:J8 [.t a,.t b] st=some (.tup [st.env a,st.env b]):=by rfl
@[simp] theorem K2 {st:St} {x}:st.fin.env x=((st.env x).frz (Y7 st fun _=>true)).pl:=by rfl
@[simp] theorem T6 {φ:Nat→Option RV} {r}:(PV.val r).frz φ=.val r:=by rfl
@[simp] theorem T8 {φ:Nat→Option RV} {s}:(PV.emp s).frz φ=.emp s:=by rfl
@[simp] theorem T7 {φ:Nat→Option RV} {i}:(PV.own i).frz φ=match φ i with
 | some r=>.val r
 | none=>.own i:=by rfl
@[simp] theorem X8 {r}:(PV.val r).pl=.val r:=by rfl
@[simp] theorem X9 {s}:(PV.emp s).pl=.val (.list s []):=by rfl
theorem wrap_i64 {x:Int} (h1:-9223372036854775808≤x) (h2:x≤9223372036854775807):IntKind.i64.wrap x=x:=by
 rw [IntKind.wrap_i64];omega
end Go.PW
