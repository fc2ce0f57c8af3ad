/- Words for proofs about functions: texts as lists of bytes, states as lists of slots. -/
import Derived.Test.YtfoapolbgpjfaaaGreatDoorPWu
set_option linter.unusedSectionVars false
set_option linter.unusedSimpArgs false
set_option linter.unusedVariables false
namespace Go.PW
open Go.RowKit
def bs (l:List UInt8):ByteArray:=⟨l.toArray⟩
theorem b7 (l:List UInt8):(bs l).size=l.length:=by simp [bs,ByteArray.size]
theorem Q8 {a b:List UInt8}:bs a=bs b↔a=b:=by
 constructor
 · intro h;have:=congrArg (fun s=>s.data.toList) h;simpa [bs] using this
 · rintro rfl;rfl
theorem S6 (a b:List UInt8):bs a++bs b=bs (a++b):=by
 apply ByteArray.ext;simp [bs,ByteArray.data_append]
theorem bs_eta (s:ByteArray):bs s.data.toList=s:=by cases s;simp [bs]
theorem p8 (a:Array UInt8):(⟨a⟩:ByteArray)=bs a.toList:=by simp [bs]
theorem O0 (l:List UInt8) (i:Nat):X1 (bs l) i=((l.getD i 0).toNat:Int):=by
 unfold X1 bs
 simp [List.getD_eq_getElem?_getD,Array.getD_eq_getD_getElem?]
theorem T7 (l:List UInt8) (i j:Nat):(bs l).extract i j=bs ((l.take j).drop i):=by
 apply ByteArray.ext
 simp [bs,ByteArray.data_extract,List.extract_eq_take_drop,List.drop_take]
def Q0:List (Nat×PV)→Nat→PV
 | [],_=>.undef
 | (k,p) :: l,x=>if x=k then p else Q0 l x
def P6:List (Nat×MObj)→Nat→MObj
 | [],_=>.dead
 | (k,p) :: l,x=>if x=k then p else P6 l x
variable [GF]
theorem Le.mk {st:St} (le:List (Nat×PV)) (lm:List (Nat×MObj)) (h1:∀ kp∈le,st.env kp.1=kp.2) (h2:∀ kp∈lm,st.mem kp.1=kp.2):Le st ⟨Q0 le,P6 lm⟩:=by
 refine Le.drop (fun i=>?_) (fun x=>?_)
 · show P6 lm i=st.mem i∨P6 lm i=.dead
   induction lm with
   | nil=>exact .inr rfl
   | cons kp lm ih=>
    obtain ⟨k,o⟩:=kp
    simp only [P6]
    split
    · rename_i e;subst e;exact .inl (h2 (i,o) (by simp)).symm
    · exact ih fun kp hkp=>h2 kp (by simp [hkp])
 · show Wk (st.env x) (Q0 le x)
   induction le with
   | nil=>exact .undef _
   | cons kp le ih=>
    obtain ⟨k,p⟩:=kp
    simp only [Q0]
    split
    · rename_i e;subst e;rw [h1 (x,p) (by simp)];exact .refl p
    · exact ih fun kp hkp=>h1 kp (by simp [hkp])
def POp.isStill:POp→Bool
 | .alloc _ | .box _ | .build _ _ | .lit _ _ _ | .store _ _ _ | .call _ _ | .callv _ _ | .callr _ _ _ | .app _ _ _ _ _ | .pan _ | .mks _ _ _ _ _ _ | .isnil _ _ _ | .xop _=>false
 | _=>true
class Kx (α:Type) where
 k:α
def a73 (c:Prop) [A:Kx Prop] [B:Kx Prop]:Prop:=(c→A.k)∧(¬c→B.k)
@[simp] theorem D6 {A B:Kx Prop}:a73 True (A:=A) (B:=B)=A.k:=by simp [a73]
@[simp] theorem w5 {A B:Kx Prop}:a73 False (A:=A) (B:=B)=B.k:=by simp [a73]
theorem P4 {c:Prop} {A B:Kx Prop} (h1:c→A.k) (h2:¬c→B.k):a73 c (A:=A) (B:=B):=⟨h1,h2⟩
theorem c03 {c A B:Prop} [Decidable c]:(if c then A else B)=a73 c (A:=⟨A⟩) (B:=⟨B⟩):=by by_cases h:c<;>simp [h,a73]
def a8q (p:PV) [B:Kx Prop] [K:Kx (Bool→Prop)]:Prop:=match p with
 | .val (.bool b')=>K.k b'
 | .skip=>B.k
 | _=>False
def a8s (p:PV) [K:Kx (PV→Prop)]:Prop:=match p with
 | .ptr i o=>K.k (.ptr i o)
 | .elt i j s o=>K.k (.elt i j s o)
 | .at cs=>K.k (.at cs)
 | .fn f cs=>K.k (.fn f cs)
 | _=>False
def eqbK (neg:Bool) (p q:PV) [K:Kx (PV→Prop)]:Prop:=match p,q with
 | .val (.bool a),.val (.bool b)=>K.k (.val (.bool (if neg then a != b else a == b)))
 | _,_=>False
def eqsK (neg:Bool) (ks:List Nat) (p q:PV) [K:Kx (PV→Prop)]:Prop:=match p,q with
 | .val (.agg as),.val (.agg bs)=>b4l (R8 ks as bs) fun b=>K.k (.val (.bool (if neg then !b else b)))
 | _,_=>False
def c5k (k:IntKind) (p:PV) [K:Kx (PV→Prop)]:Prop:=match p with
 | .val (.int _ n)=>K.k (.val (.int k (k.wrap n)))
 | _=>False
def b1u (off:Nat) (p:PV) [K:Kx (PV→Prop)]:Prop:=match p with
 | .ptr i o=>K.k (.ptr i (o+off))
 | .elt i j s o=>K.k (.elt i j s (o+off))
 | .at cs=>off < cs.length∧K.k (.at (cs.drop off))
 | _=>False
def fldK (agg:Bool) (off n:Nat) (p:PV) [K:Kx (PV→Prop)]:Prop:=match p with
 | .val (.agg cs)=>off+n≤cs.length∧0 < n∧K.k (.val (if agg then .agg ((cs.drop off).take n) else cs.getD off .nilptr))
 | .agg cs=>off+n≤cs.length∧0 < n∧K.k (if agg then N5 ((cs.drop off).take n) else cs.getD off .undef)
 | _=>False
def b4u (m:MObj) (agg:Bool) (n o:Nat) [K:Kx (PV→Prop)]:Prop:=match m with
 | .box cs=>o+n≤cs.length∧0 < n∧K.k (if agg then N5 ((cs.drop o).take n) else cs.getD o .undef)
 | _=>False
def b4t (m:MObj) (agg:Bool) (n j s o:Nat) [K:Kx (PV→Prop)]:Prop:=match m with
 | .row E sz xs=>s=sz∧j < xs.length∧0 < n∧o+n≤sz∧K.k (.val (if agg then .agg (((xs.getD j .nilptr).cells.drop o).take n) else (xs.getD j .nilptr).cells.getD o .nilptr))
 | _=>False
def b6q (M:Nat→MObj) (agg:Bool) (n:Nat) (p:PV) [K:Kx (PV→Prop)]:Prop:=match p with
 | .ptr i o=>b4u (M i) agg n o (K:=K)
 | .elt i j s o=>b4t (M i) agg n j s o (K:=K)
 | .at cs=>n≤cs.length∧0 < n∧K.k (.val (if agg then .agg (cs.take n) else cs.getD 0 .nilptr))
 | _=>False
def b1j (m:MObj) (id sz:Nat) (j:Int) [K:Kx (PV→Prop)]:Prop:=match m with
 | .row E s xs=>s=sz∧0≤j∧j < xs.length∧K.k (.elt id j.toNat sz 0)
 | _=>False
def b45 (M:Nat→MObj) (sz:Nat) (p q:PV) [K:Kx (PV→Prop)]:Prop:=match p,q with
 | .val (.list s xs),.val (.int _ j)=>s=sz∧0≤j∧j < xs.length∧K.k (.at (xs.getD j.toNat .nilptr).cells)
 | .own id,.val (.int _ j)=>b1j (M id) id sz j (K:=K)
 | _,_=>False
def idxK (p q:PV) [K:Kx (PV→Prop)]:Prop:=match p,q with
 | .val (.str s),.val (.int _ j)=>0≤j∧j < s.size∧K.k (.val (.int .u8 (X1 s j.toNat)))
 | _,_=>False
def extK (i:Nat) (p:PV) [K:Kx (PV→Prop)]:Prop:=match p with
 | .tup vs=>i < vs.length∧K.k (vs.getD i .undef)
 | _=>False
def c4r (p:PV) [K:Kx (PV→Prop)]:Prop:=match p with
 | .val (.str s)=>K.k (.val (.int .i64 s.size))
 | _=>False
def b83 (m:MObj) [K:Kx (PV→Prop)]:Prop:=match m with
 | .row _ _ xs=>K.k (.val (.int .i64 xs.length))
 | _=>False
def c4s (M:Nat→MObj) (p:PV) [K:Kx (PV→Prop)]:Prop:=match p with
 | .val (.list _ xs)=>K.k (.val (.int .i64 xs.length))
 | .emp _=>K.k (.val (.int .i64 0))
 | .own id=>b83 (M id) (K:=K)
 | _=>False
def b0c (m:MObj) [K:Kx (PV→Prop)]:Prop:=match m with
 | .row _ s xs=>s=1∧xs.all RV.isU8=true∧K.k (.val (.str (V2 xs)))
 | _=>False
def b0d (M:Nat→MObj) (p:PV) [K:Kx (PV→Prop)]:Prop:=match p with
 | .val (.list s xs)=>s=1∧xs.all RV.isU8=true∧K.k (.val (.str (V2 xs)))
 | .emp _=>K.k (.val (.str (V2 [])))
 | .own id=>b0c (M id) (K:=K)
 | _=>False
def ifcK (t:Nat) (p:PV) [K:Kx (PV→Prop)]:Prop:=match p with
 | .val r=>K.k (.val (.ifc t r))
 | _=>False
def mnK (p q:PV) [K:Kx (PV→Prop)]:Prop:=match p,q with
 | .val (.int k a),.val (.int k' b)=>K.k (.val (.int k (if b < a then b else a)))
 | _,_=>False
def mxK (p q:PV) [K:Kx (PV→Prop)]:Prop:=match p,q with
 | .val (.int k a),.val (.int k' b)=>K.k (.val (.int k (if a < b then b else a)))
 | _,_=>False
def mx4K (p q r t:PV) [K:Kx (PV→Prop)]:Prop:=match p,q,r,t with
 | .val (.int k a),.val (.int _ b),.val (.int _ c),.val (.int _ d)=>K.k (.val (.int k (c4k a b c d)))
 | _,_,_,_=>False
def litK (o:Option (List RV)) [K:Kx (List RV→Prop)]:Prop:=match o with
 | some rs=>K.k rs
 | none=>False
def fnK (p:PV) [K:Kx (Nat→List PV→Prop)]:Prop:=match p with
 | .fn f caps=>K.k f caps
 | _=>False
def mksK (bytes:Nat) (p:PV) (z:Option (List RV)) [K:Kx (Int→List RV→Prop)]:Prop:=match p,z with
 | .val (.int _ n),some zs=>0≤n∧bytes*n.toNat≤281474976710656∧n.toNat≤9223372036854775807∧K.k n zs
 | _,_=>False
def b1h (m:MObj) (neg:Bool) [K:Kx (PV→Prop)]:Prop:=match m with
 | .row _ _ xs=>(xs=[]→K.k (.val (.bool !neg)))∧K.k (.val (.bool neg))
 | _=>False
def a81 (M:Nat→MObj) (iface neg:Bool) (p:PV) [K:Kx (PV→Prop)]:Prop:=match iface,p with
 | true,.val .nilif=>K.k (.val (.bool !neg))
 | true,.val (.ifc _ _)=>K.k (.val (.bool neg))
 | false,.emp _=>K.k (.val (.bool !neg))
 | false,.val (.list _ xs)=>(xs=[]→K.k (.val (.bool !neg)))∧K.k (.val (.bool neg))
 | false,.own id=>b1h (M id) neg (K:=K)
 | _,_=>False
def b0g (st:St) (id off:Nat) (m:MObj) (p:PV) [K:Kx (St→Prop)]:Prop:=match m with
 | .box cs=>p.solid st.mem=true∧off+p.cells.length≤cs.length∧K.k ⟨st.env,upd id (.box (N7 cs off p.cells)) st.mem⟩
 | _=>False
def b0f (st:St) (id j s off:Nat) (m:MObj) (p:PV) (o:Option (List RV)) [K:Kx (St→Prop)]:Prop:=match m with
 | .row E sz xs=>(match o with
  | some rs=>s=sz∧j < xs.length∧p.solid st.mem=true∧off+rs.length≤sz∧K.k ⟨st.env,upd id (.row E sz (xs.set j ((xs.getD j .nilptr).ofCells (N7 (xs.getD j .nilptr).cells off rs)))) st.mem⟩
  | none=>False)
 | _=>False
def b78 (st:St) (q p:PV) [K:Kx (St→Prop)]:Prop:=match q with
 | .ptr id off=>b0g st id off (st.mem id) p (K:=K)
 | .elt id j s off=>b0f st id j s off (st.mem id) p (F7 p.cells) (K:=K)
 | _=>False
def addK (o:Option (List RV)) [K:Kx (List RV→Prop)]:Prop:=match o with
 | none=>False
 | some ys=>K.k ys
def b92 (st:St) (id E sz bytes:Nat) (q:PV) (m:MObj) (ys:List RV) [K:Kx (PV→St→Prop)]:Prop:=match m with
 | .row E' sz' xs=>V9 id∧q≠.own id∧E'=E∧sz'=sz∧(xs.length+ys.length)*bytes≤140737488355328∧xs.length+ys.length≤9223372036854775807 ∧
  K.k (.own id) ⟨fun x=>(st.env x).kill (· == id),upd id (.row E sz (xs++ys)) fun x=>(st.mem x).kill (· == id)⟩
 | _=>False
def appK (st:St) (d E sz bytes:Nat) (p q:PV) (ys:List RV) [K:Kx (PV→St→Prop)]:Prop:=match p with
 | .own id=>b92 st id E sz bytes q (st.mem id) ys (K:=K)
 | .emp _=>ys.length*bytes≤140737488355328∧ys.length≤9223372036854775807 ∧
  K.k (.own d) ⟨fun x=>(st.env x).kill (· == d),upd d (.row E sz ys) fun x=>(st.mem x).kill (· == d)⟩
 | _=>False
def c3y (m:MObj) (sz:Nat):Option (List RV):=match m with
 | .row _ s ys=>if s=sz then some ys else none
 | _=>none
@[simp] theorem C9 {E s ys sz}:c3y (.row E s ys) sz=if s=sz then some ys else none:=by rfl
def c1l (st:St) (sz:Nat) (p:PV):Option (List RV):=match p with
 | .val (.list s ys)=>if s=sz∨ys=[] then some ys else none
 | .emp _=>some []
 | .own id=>c3y (st.mem id) sz
 | _=>none
@[simp] theorem y8 {st:St} {s sz ys}:c1l st sz (.val (.list s ys))=if s=sz∨ys=[] then some ys else none:=by rfl
@[simp] theorem F6 {st:St} {s sz}:c1l st sz (.emp s)=some []:=by rfl
@[simp] theorem F5 {st:St} {id sz}:c1l st sz (.own id)=c3y (st.mem id) sz:=by rfl
section
variable {K:Kx (PV→Prop)} {M:Nat→MObj}
@[simp] theorem u7 {b} {B:Kx Prop} {K:Kx (Bool→Prop)}:a8q (.val (.bool b)) (B:=B) (K:=K)=K.k b:=by rfl
@[simp] theorem l6 {B:Kx Prop} {K:Kx (Bool→Prop)}:a8q .skip (B:=B) (K:=K)=B.k:=by rfl
@[simp] theorem D0 {i o}:a8s (.ptr i o) (K:=K)=K.k (.ptr i o):=by rfl
@[simp] theorem D1 {i j s o}:a8s (.elt i j s o) (K:=K)=K.k (.elt i j s o):=by rfl
@[simp] theorem H2 {cs}:a8s (.at cs) (K:=K)=K.k (.at cs):=by rfl
@[simp] theorem H1 {f cs}:a8s (.fn f cs) (K:=K)=K.k (.fn f cs):=by rfl
@[simp] theorem N2 {neg a b}:eqbK neg (.val (.bool a)) (.val (.bool b)) (K:=K)=K.k (.val (.bool (if neg then a != b else a == b))):=by rfl
@[simp] theorem N1 {neg ks as bs}:eqsK neg ks (.val (.agg as)) (.val (.agg bs)) (K:=K)=b4l (R8 ks as bs) fun b=>K.k (.val (.bool (if neg then !b else b))):=by rfl
@[simp] theorem I3 {k k' n}:c5k k (.val (.int k' n)) (K:=K)=K.k (.val (.int k (k.wrap n))):=by rfl
@[simp] theorem E7 {off i o}:b1u off (.ptr i o) (K:=K)=K.k (.ptr i (o+off)):=by rfl
@[simp] theorem E8 {off i j s o}:b1u off (.elt i j s o) (K:=K)=K.k (.elt i j s (o+off)):=by rfl
@[simp] theorem I2 {off cs}:b1u off (.at cs) (K:=K)=(off < cs.length∧K.k (.at (cs.drop off))):=by rfl
@[simp] theorem M8 {agg off n cs}:fldK agg off n (.val (.agg cs)) (K:=K)=(off+n≤cs.length∧0 < n∧K.k (.val (if agg then .agg ((cs.drop off).take n) else cs.getD off .nilptr))):=by rfl
@[simp] theorem M9 {agg off n cs}:fldK agg off n (.agg cs) (K:=K)=(off+n≤cs.length∧0 < n∧K.k (if agg then N5 ((cs.drop off).take n) else cs.getD off .undef)):=by rfl
@[simp] theorem H3 {agg n i o}:b6q M agg n (.ptr i o) (K:=K)=b4u (M i) agg n o (K:=K):=by rfl
@[simp] theorem l8 {agg n o cs}:b4u (.box cs) agg n o (K:=K)=(o+n≤cs.length∧0 < n∧K.k (if agg then N5 ((cs.drop o).take n) else cs.getD o .undef)):=by rfl
@[simp] theorem H4 {agg n i j s o}:b6q M agg n (.elt i j s o) (K:=K)=b4t (M i) agg n j s o (K:=K):=by rfl
@[simp] theorem l7 {agg n j s o E sz xs}:b4t (.row E sz xs) agg n j s o (K:=K)=(s=sz∧j < xs.length∧0 < n∧o+n≤sz∧K.k (.val (if agg then .agg (((xs.getD j .nilptr).cells.drop o).take n) else (xs.getD j .nilptr).cells.getD o .nilptr))):=by rfl
@[simp] theorem L6 {agg n cs}:b6q M agg n (.at cs) (K:=K)=(n≤cs.length∧0 < n∧K.k (.val (if agg then .agg (cs.take n) else cs.getD 0 .nilptr))):=by rfl
@[simp] theorem E5 {sz s xs k j}:b45 M sz (.val (.list s xs)) (.val (.int k j)) (K:=K)=(s=sz∧0≤j∧j < xs.length∧K.k (.at (xs.getD j.toNat .nilptr).cells)):=by rfl
@[simp] theorem E4 {sz id k j}:b45 M sz (.own id) (.val (.int k j)) (K:=K)=b1j (M id) id sz j (K:=K):=by rfl
@[simp] theorem f7 {id sz j E s xs}:b1j (.row E s xs) id sz j (K:=K)=(s=sz∧0≤j∧j < xs.length∧K.k (.elt id j.toNat sz 0)):=by rfl
@[simp] theorem M4 {s k j}:idxK (.val (.str s)) (.val (.int k j)) (K:=K)=(0≤j∧j < s.size∧K.k (.val (.int .u8 (X1 s j.toNat)))):=by rfl
@[simp] theorem N0 {i vs}:extK i (.tup vs) (K:=K)=(i < vs.length∧K.k (vs.getD i .undef)):=by rfl
@[simp] theorem H6 {s}:c4r (.val (.str s)) (K:=K)=K.k (.val (.int .i64 s.size)):=by rfl
@[simp] theorem L7 {s xs}:c4s M (.val (.list s xs)) (K:=K)=K.k (.val (.int .i64 xs.length)):=by rfl
@[simp] theorem L9 {s}:c4s M (.emp s) (K:=K)=K.k (.val (.int .i64 0)):=by rfl
@[simp] theorem L8 {id}:c4s M (.own id) (K:=K)=b83 (M id) (K:=K):=by rfl
@[simp] theorem v6 {E s xs}:b83 (.row E s xs) (K:=K)=K.k (.val (.int .i64 xs.length)):=by rfl
@[simp] theorem y9 {s xs}:b0d M (.val (.list s xs)) (K:=K)=(s=1∧xs.all RV.isU8=true∧K.k (.val (.str (V2 xs)))):=by rfl
@[simp] theorem z7 {s}:b0d M (.emp s) (K:=K)=K.k (.val (.str (V2 []))):=by rfl
@[simp] theorem z6 {id}:b0d M (.own id) (K:=K)=b0c (M id) (K:=K):=by rfl
@[simp] theorem d6 {E s xs}:b0c (.row E s xs) (K:=K)=(s=1∧xs.all RV.isU8=true∧K.k (.val (.str (V2 xs)))):=by rfl
@[simp] theorem M3 {t r}:ifcK t (.val r) (K:=K)=K.k (.val (.ifc t r)):=by rfl
@[simp] theorem O8 {k a k' b}:mnK (.val (.int k a)) (.val (.int k' b)) (K:=K)=K.k (.val (.int k (if b < a then b else a))):=by rfl
@[simp] theorem L4 {k a k2 b k3 c k4 d}:mx4K (.val (.int k a)) (.val (.int k2 b)) (.val (.int k3 c)) (.val (.int k4 d)) (K:=K)=K.k (.val (.int k (c4k a b c d))):=by rfl
@[simp] theorem O7 {k a k' b}:mxK (.val (.int k a)) (.val (.int k' b)) (K:=K)=K.k (.val (.int k (if a < b then b else a))):=by rfl
@[simp] theorem H5 {rs} {K:Kx (List RV→Prop)}:litK (some rs) (K:=K)=K.k rs:=by rfl
@[simp] theorem Q2 {f caps} {K:Kx (Nat→List PV→Prop)}:fnK (.fn f caps) (K:=K)=K.k f caps:=by rfl
@[simp] theorem L5 {bytes k n zs} {K:Kx (Int→List RV→Prop)}:mksK bytes (.val (.int k n)) (some zs) (K:=K)=(0≤n∧bytes*n.toNat≤281474976710656∧n.toNat≤9223372036854775807∧K.k n zs):=by rfl
@[simp] theorem l9 {neg}:a81 M true neg (.val .nilif) (K:=K)=K.k (.val (.bool !neg)):=by rfl
@[simp] theorem D8 {neg t r}:a81 M true neg (.val (.ifc t r)) (K:=K)=K.k (.val (.bool neg)):=by rfl
@[simp] theorem D9 {neg s}:a81 M false neg (.emp s) (K:=K)=K.k (.val (.bool !neg)):=by rfl
@[simp] theorem w6 {neg s xs}:a81 M false neg (.val (.list s xs)) (K:=K)=((xs=[]→K.k (.val (.bool !neg)))∧K.k (.val (.bool neg))):=by rfl
@[simp] theorem D7 {neg id}:a81 M false neg (.own id) (K:=K)=b1h (M id) neg (K:=K):=by rfl
@[simp] theorem d9 {neg E s xs}:b1h (.row E s xs) neg (K:=K)=((xs=[]→K.k (.val (.bool !neg)))∧K.k (.val (.bool neg))):=by rfl
@[simp] theorem s7 {st:St} {id off p} {K:Kx (St→Prop)}:b78 st (.ptr id off) p (K:=K)=b0g st id off (st.mem id) p (K:=K):=by rfl
@[simp] theorem d8 {st:St} {id off p cs} {K:Kx (St→Prop)}:b0g st id off (.box cs) p (K:=K)=(p.solid st.mem=true∧off+p.cells.length≤cs.length∧K.k ⟨st.env,upd id (.box (N7 cs off p.cells)) st.mem⟩):=by rfl
@[simp] theorem s8 {st:St} {id j s off p} {K:Kx (St→Prop)}:b78 st (.elt id j s off) p (K:=K)=b0f st id j s off (st.mem id) p (F7 p.cells) (K:=K):=by rfl
@[simp] theorem d7 {st:St} {id j s off p E sz xs rs} {K:Kx (St→Prop)}:b0f st id j s off (.row E sz xs) p (some rs) (K:=K)=(s=sz∧j < xs.length∧p.solid st.mem=true∧off+rs.length≤sz∧K.k ⟨st.env,upd id (.row E sz (xs.set j ((xs.getD j .nilptr).ofCells (N7 (xs.getD j .nilptr).cells off rs)))) st.mem⟩):=by rfl
@[simp] theorem J7 {ys} {K:Kx (List RV→Prop)}:addK (some ys) (K:=K)=K.k ys:=by rfl
@[simp] theorem N3 {st:St} {d E sz bytes id q ys} {K:Kx (PV→St→Prop)}:appK st d E sz bytes (.own id) q ys (K:=K)=b92 st id E sz bytes q (st.mem id) ys (K:=K):=by rfl
@[simp] theorem N4 {st:St} {d E sz bytes s q ys} {K:Kx (PV→St→Prop)}:appK st d E sz bytes (.emp s) q ys (K:=K)=(ys.length*bytes≤140737488355328∧ys.length≤9223372036854775807 ∧
 K.k (.own d) ⟨fun x=>(st.env x).kill (· == d),upd d (.row E sz ys) fun x=>(st.mem x).kill (· == d)⟩):=by rfl
@[simp] theorem y7 {st:St} {id E sz bytes q E' sz' xs ys} {K:Kx (PV→St→Prop)}:b92 st id E sz bytes q (.row E' sz' xs) ys (K:=K)=(V9 id∧q≠.own id∧E'=E∧sz'=sz∧(xs.length+ys.length)*bytes≤140737488355328∧xs.length+ys.length≤9223372036854775807 ∧
 K.k (.own id) ⟨fun x=>(st.env x).kill (· == id),upd id (.row E sz (xs++ys)) fun x=>(st.mem x).kill (· == id)⟩):=by rfl
end
def EC (P:Program) (c:PC) (st:St) [K:Kx (PExit→St→Prop)]:Prop:=U6 P c st K.k
def ET (e:PExit) (st:St) [Ks:Kx (St→Prop)] [K:Kx (PExit→St→Prop)]:Prop:=e.then st Ks.k K.k
def EB (id:Nat) (e:PExit) (st:St) [K:Kx (PExit→St→Prop)]:Prop:=e.inBlock id st K.k
def EO (P:Program) (ops:List POper) (st:St) [Ks:Kx (St→Prop)] [kx:Kx (RV→St→Prop)]:Prop:=a0o P ops st Ks.k kx.k
def EM (P:Program) (t:POM) (D:List (Nat×POper)) (st:St) [Ks:Kx (St→Prop)] [kx:Kx (RV→St→Prop)]:Prop:=a0i P t D st Ks.k kx.k
def WM (P:Program) (D:List (Nat×POper)) (st:St):Prop:=a4n P D st
def b94 (P:Program) (t:POT) (st:St) [Ks:Kx (St→Prop)] [kx:Kx (RV→St→Prop)]:Prop:=a6t P t st Ks.k kx.k
def EX (P:Program) (ops:List POper) (st:St) [Ks:Kx (St→Prop)]:Prop:=a6s P ops st Ks.k
def SE (P:Program) (st:St) (d:Nat) (op:POp) [Ke:Kx (PV→St→Prop)] [kx:Kx (RV→St→Prop)]:Prop:=W3 P st d op Ke.k kx.k
def SX (P:Program) (st:St) (op:POp) [Kp:Kx (PV→Prop)]:Prop:=Y7 P st op Kp.k
def GS (st:St) (g:Option (Nat×Bool)) [A:Kx Prop] [B:Kx Prop]:Prop:=T4 st g A.k B.k
def CD (p:PV) [A:Kx Prop] [B:Kx Prop]:Prop:=b7n p A.k B.k
def BS (op:BinOp) (p q:PV) [K:Kx (PV→Prop)]:Prop:=b90 op p q K.k
def BI (op:BinOp) (k:IntKind) (x y:Int) [K:Kx (RV→Prop)]:Prop:=c3i op k x y K.k
def BT (op:BinOp) (x y:ByteArray) [K:Kx (RV→Prop)]:Prop:=a89 op x y K.k
def US (op:UnOp) (p:PV) [K:Kx (PV→Prop)]:Prop:=unS op p K.k
def SLS (z:Nat) (p:PV) (lo hi:Option PV) [K:Kx (PV→Prop)]:Prop:=a9x z p lo hi K.k
def FP (st:St) (cs:List PV) (parts:List (Nat×Nat×Opd)) [K:Kx (List PV→Prop)]:Prop:=a1u st cs parts K.k
def KC (P:Program) (st:St) (d f:Nat) (ps:List PV) [Ke:Kx (PV→St→Prop)] [kx:Kx (RV→St→Prop)]:Prop:=a5k P st d f ps Ke.k kx.k
def RC (P:Program) (st:St) (f id:Nat) (q:PV) (E sz:Nat) (rs:List RV) (ps:List PV) [Ke:Kx (PV→St→Prop)]:Prop:=b8f P st f id q E sz rs ps Ke.k
def RCm (P:Program) (st:St) (f id:Nat) (q:PV) (m:MObj) (ps:List PV) [Ke:Kx (PV→St→Prop)]:Prop:=match m with
 | .row E sz rs=>RC P st f id q E sz rs ps (Ke:=Ke)
 | _=>False
def RCp (P:Program) (st:St) (d f:Nat) (q:PV) (o:Option Nat) (ps:List PV) [Ke:Kx (PV→St→Prop)] [kx:Kx (RV→St→Prop)]:Prop:=match o with
 | some id=>RCm P st f id q (st.mem id) ps (Ke:=Ke)
 | none=>KC P st d f (q :: ps) (Ke:=Ke) (kx:=kx)
@[simp] theorem rowIn_nil:a7q []=none:=rfl
@[simp] theorem rowIn_own {i cs}:a7q (.own i :: cs)=some i:=rfl
@[simp] theorem rowIn_val {r cs}:a7q (.val r :: cs)=a7q cs:=rfl
@[simp] theorem rowIn_emp {s cs}:a7q (.emp s :: cs)=a7q cs:=rfl
@[simp] theorem rowId_own {i}:(PV.own i).rowId=some i:=rfl
@[simp] theorem rowId_val {r}:(PV.val r).rowId=none:=rfl
@[simp] theorem rowId_emp {s}:(PV.emp s).rowId=none:=rfl
@[simp] theorem rowId_agg {cs}:(PV.agg cs).rowId=a7q cs:=rfl
def KX (P:Program) (st:St) (f:Nat) (ps:List PV) [Kp:Kx (PV→Prop)]:Prop:=a1v P st f ps Kp.k
section
variable {P:Program} {st st':St} {K:Kx (PExit→St→Prop)} {Ks:Kx (St→Prop)} {kx:Kx (RV→St→Prop)} {Kp:Kx (PV→Prop)} {Ke:Kx (PV→St→Prop)}
@[simp] theorem K6 {α:Type} (d:Nat) (v:α) (f:Nat→α) (x:Nat):upd d v f x=if x=d then v else f x:=by rfl
theorem a8 {K:PExit→St→Prop} {c}:U6 P c st K=EC P c st (K:=⟨K⟩):=by rfl
@[simp] theorem T8 {α:Type} {f:α}:(Kx.mk f).k=f:=by rfl
@[simp] theorem w9:EC P .skip st (K:=K)=K.k .normal st:=by rfl
@[simp] theorem F2 {ops}:EC P (.reg ops) st (K:=K)=EO P ops st (Ks:=⟨K.k .normal⟩) (kx:=⟨fun r=>K.k (.pan r)⟩):=by rfl
@[simp] theorem x5 {pre post}:EC P (.draw pre post) st (K:=K)=EX P pre st (Ks:=⟨fun st'=>EO P post st' (Ks:=⟨K.k .normal⟩) (kx:=⟨fun r=>K.k (.pan r)⟩)⟩):=by rfl
@[simp] theorem evalC_any {t}:EC P (.any t) st (K:=K)=b94 P t st (Ks:=⟨K.k .normal⟩) (kx:=⟨fun r=>K.k (.pan r)⟩):=by rfl
@[simp] theorem c23 {t}:EC P (.mix t) st (K:=K)=EM P t [] st (Ks:=⟨K.k .normal⟩) (kx:=⟨fun r=>K.k (.pan r)⟩):=by rfl
@[simp] theorem b9n {D}:EM P .done D st (Ks:=Ks) (kx:=kx)=Ks.k st:=by rfl
@[simp] theorem b7h {i d op g t D}:EM P (.early i ⟨d,op,g⟩ t) D st (Ks:=Ks) (kx:=kx)=GS st g (A:=⟨SX P st op (Kp:=⟨fun p=>EM P t ((i,⟨d,op,g⟩) :: D) (S2 st d p) (Ks:=Ks) (kx:=kx)⟩)⟩) (B:=⟨EM P t ((i,⟨d,op,g⟩) :: D) (S2 st d .skip) (Ks:=Ks) (kx:=kx)⟩):=by rfl
@[simp] theorem b9m {i d op g ws t D}:EM P (.step i ⟨d,op,g⟩ ws t) D st (Ks:=Ks) (kx:=kx)=GS st g (A:=⟨SE P st (d.getD 0) op (Ke:=⟨fun p st'=>WM P (U2 ws D) (S2 st' d p)∧EM P t (U2 ws D) (S2 st' d p) (Ks:=Ks) (kx:=kx)⟩) (kx:=⟨fun r s=>kx.k r ⟨fun _=>.undef,s.mem⟩⟩)⟩)
 (B:=⟨WM P (U2 ws D) (S2 st d .skip)∧EM P t (U2 ws D) (S2 st d .skip) (Ks:=Ks) (kx:=kx)⟩):=by rfl
@[simp] theorem c22 {i d op g ws t r D}:EM P (.alt i ⟨d,op,g⟩ ws t r) D st (Ks:=Ks) (kx:=kx)=(GS st g (A:=⟨SE P st (d.getD 0) op (Ke:=⟨fun p st'=>WM P (U2 ws D) (S2 st' d p)∧EM P t (U2 ws D) (S2 st' d p) (Ks:=Ks) (kx:=kx)⟩) (kx:=⟨fun r s=>kx.k r ⟨fun _=>.undef,s.mem⟩⟩)⟩)
 (B:=⟨WM P (U2 ws D) (S2 st d .skip)∧EM P t (U2 ws D) (S2 st d .skip) (Ks:=Ks) (kx:=kx)⟩)∧EM P r D st (Ks:=Ks) (kx:=kx)):=by rfl
@[simp] theorem b9l {D}:EM P .stop D st (Ks:=Ks) (kx:=kx)=True:=by rfl
@[simp] theorem watch_nil:WM P [] st=True:=by rfl
@[simp] theorem watch_cons {i d op g D}:WM P ((i,⟨d,op,g⟩) :: D) st=(GS st g (A:=⟨SX P st op (Kp:=⟨hit st d⟩)⟩) (B:=⟨hit st d .skip⟩)∧WM P D st):=by rfl
@[simp] theorem hit_some {d q}:hit st (some d) q=(q=st.env d):=by rfl
@[simp] theorem keepW_nil {ws}:U2 ws []=[]:=by rfl
@[simp] theorem keepW_cons {ws k D}:U2 ws (k :: D)=if ws.contains k.1 then k :: U2 ws D else U2 ws D:=by simp [U2,List.filter_cons]
@[simp] theorem evalT_done:b94 P .done st (Ks:=Ks) (kx:=kx)=Ks.k st:=by rfl
@[simp] theorem evalT_stop:b94 P .stop st (Ks:=Ks) (kx:=kx)=True:=by rfl
@[simp] theorem evalT_alt {i d op g t r}:b94 P (.alt i ⟨d,op,g⟩ t r) st (Ks:=Ks) (kx:=kx)=(GS st g (A:=⟨SE P st (d.getD 0) op (Ke:=⟨fun p st'=>b94 P t (S2 st' d p) (Ks:=Ks) (kx:=kx)⟩) (kx:=kx)⟩) (B:=⟨b94 P t (S2 st d .skip) (Ks:=Ks) (kx:=kx)⟩)∧b94 P r st (Ks:=Ks) (kx:=kx)):=by rfl
@[simp] theorem F0 {a b}:EC P (.seq a b) st (K:=K)=EC P a st (K:=⟨fun e st'=>ET e st' (Ks:=⟨fun st'=>EC P b st' (K:=K)⟩) (K:=K)⟩):=by rfl
@[simp] theorem x6 {c a b}:EC P (.cond c a b) st (K:=K)=CD (ev st c) (A:=⟨EC P a st (K:=K)⟩) (B:=⟨EC P b st (K:=K)⟩):=by rfl
@[simp] theorem o0 {id c}:EC P (.block id c) st (K:=K)=EC P c st (K:=⟨fun e st'=>EB id e st' (K:=K)⟩):=by rfl
@[simp] theorem x4 {id}:EC P (.exit id) st (K:=K)=K.k (.exit id) st:=by rfl
@[simp] theorem F1:EC P .ret st (K:=K)=K.k .ret st:=by rfl
@[simp] theorem i6:ET .normal st (Ks:=Ks) (K:=K)=Ks.k st:=by rfl
@[simp] theorem z8 {id}:ET (.exit id) st (Ks:=Ks) (K:=K)=K.k (.exit id) st:=by rfl
@[simp] theorem G0:ET .ret st (Ks:=Ks) (K:=K)=K.k .ret st:=by rfl
@[simp] theorem G3 {r}:ET (.pan r) st (Ks:=Ks) (K:=K)=K.k (.pan r) st:=by rfl
@[simp] theorem c8 {id}:EB id .normal st (K:=K)=K.k .normal st:=by rfl
@[simp] theorem m7 {id}:EB id .ret st (K:=K)=K.k .ret st:=by rfl
@[simp] theorem n0 {id r}:EB id (.pan r) st (K:=K)=K.k (.pan r) st:=by rfl
@[simp] theorem f5 {id j}:EB id (.exit j) st (K:=K)=a73 (j=id) (A:=⟨K.k .normal st⟩) (B:=⟨K.k (.exit j) st⟩):=by
  unfold EB PExit.inBlock;exact c03
@[simp] theorem x7 {t:Bool} {A B:Kx Prop}:CD (.val (.bool t)) (A:=A) (B:=B)=a73 (t=true) (A:=A) (B:=B):=by
  cases t<;>simp [CD,b7n,a73]
@[simp] theorem n9:EO P [] st (Ks:=Ks) (kx:=kx)=Ks.k st:=by rfl
@[simp] theorem f8 {d op g os}:EO P (⟨d,op,g⟩ :: os) st (Ks:=Ks) (kx:=kx)=GS st g (A:=⟨SE P st (d.getD 0) op (Ke:=⟨fun p st'=>EO P os (S2 st' d p) (Ks:=Ks) (kx:=kx)⟩) (kx:=kx)⟩) (B:=⟨EO P os (S2 st d .skip) (Ks:=Ks) (kx:=kx)⟩):=by rfl
@[simp] theorem E9:EX P [] st (Ks:=Ks)=Ks.k st:=by rfl
@[simp] theorem w8 {d op g os}:EX P (⟨d,op,g⟩ :: os) st (Ks:=Ks)=GS st g (A:=⟨SX P st op (Kp:=⟨fun p=>EX P os (S2 st d p) (Ks:=Ks)⟩)⟩) (B:=⟨EX P os (S2 st d .skip) (Ks:=Ks)⟩):=by rfl
@[simp] theorem n8 {A B:Kx Prop}:GS st none (A:=A) (B:=B)=A.k:=by rfl
@[simp] theorem n7 {s b} {A B:Kx Prop}:GS st (some (s,b)) (A:=A) (B:=B)=a8q (st.env s) (B:=B) (K:=⟨fun b'=>a73 (b'=b) (A:=A) (B:=B)⟩):=by
  show (match st.env s with | .val (.bool b')=>if b'=b then A.k else B.k | .skip=>B.k | _=>False)=_
  generalize st.env s=p
  cases p with
  | val r=>cases r with
   | bool t=>exact c03
   | _=>rfl
  | _=>rfl
@[simp] theorem C7 {d p}:S2 st (some d) p=⟨upd d p st.env,st.mem⟩:=by rfl
@[simp] theorem C8 {p}:S2 st none p=st:=by rfl
@[simp] theorem T5 {s}:ev st (.t s)=st.env s:=by rfl
@[simp] theorem T6 {p}:ev st (.k p)=p:=by rfl
@[simp] theorem B4 {d x}:SE P st d (.mov x) (Ke:=Ke) (kx:=kx)=Ke.k (ev st x) st:=by rfl
@[simp] theorem p9 {d c a b}:SE P st d (.pick c a b) (Ke:=Ke) (kx:=kx)=a8q (ev st c) (B:=⟨False⟩) (K:=⟨fun t=>a73 (t=true) (A:=⟨Ke.k (ev st a) st⟩) (B:=⟨Ke.k (ev st b) st⟩)⟩):=by
  show (match ev st c with | .val (.bool t)=>Ke.k (if t then ev st a else ev st b) st | _=>False)=_
  generalize ev st c=p
  cases p with
  | val r=>cases r with
   | bool t=>cases t<;>simp [a8q,a73]
   | _=>rfl
  | _=>rfl
@[simp] theorem l5 {d z}:SE P st d (.alloc z) (Ke:=Ke) (kx:=kx)=Ke.k (.ptr d 0) ⟨fun x=>(st.env x).kill (· == d),upd d (.box z) fun x=>(st.mem x).kill (· == d)⟩:=by rfl
@[simp] theorem C4 {d x}:SE P st d (.box x) (Ke:=Ke) (kx:=kx)=((ev st x).solid st.mem=true∧(PV.killL (· == d) (ev st x).cells=(ev st x).cells) ∧
 Ke.k (.ptr d 0) ⟨fun x=>(st.env x).kill (· == d),upd d (.box (ev st x).cells) fun x=>(st.mem x).kill (· == d)⟩):=by rfl
@[simp] theorem l4 {d z parts}:SE P st d (.build z parts) (Ke:=Ke) (kx:=kx)=FP st z parts (K:=⟨fun cs=>Ke.k (N5 cs) st⟩):=by rfl
@[simp] theorem j9 {d x}:SE P st d (.nilck x) (Ke:=Ke) (kx:=kx)=a8s (ev st x) (K:=⟨fun p=>Ke.k p st⟩):=by rfl
@[simp] theorem C5 {d op x y}:SE P st d (.bin op x y) (Ke:=Ke) (kx:=kx)=BS op (ev st x) (ev st y) (K:=⟨fun p=>Ke.k p st⟩):=by rfl
@[simp] theorem C3 {d neg x y}:SE P st d (.eqb neg x y) (Ke:=Ke) (kx:=kx)=eqbK neg (ev st x) (ev st y) (K:=⟨fun p=>Ke.k p st⟩):=by rfl
@[simp] theorem C2 {d neg ks x y}:SE P st d (.eqs neg ks x y) (Ke:=Ke) (kx:=kx)=eqsK neg ks (ev st x) (ev st y) (K:=⟨fun p=>Ke.k p st⟩):=by rfl
@[simp] theorem G7 {d op x}:SE P st d (.un op x) (Ke:=Ke) (kx:=kx)=US op (ev st x) (K:=⟨fun p=>Ke.k p st⟩):=by rfl
@[simp] theorem u5 {d k x}:SE P st d (.conv k x) (Ke:=Ke) (kx:=kx)=c5k k (ev st x) (K:=⟨fun p=>Ke.k p st⟩):=by rfl
@[simp] theorem k8 {d off x}:SE P st d (.faddr off x) (Ke:=Ke) (kx:=kx)=b1u off (ev st x) (K:=⟨fun p=>Ke.k p st⟩):=by rfl
@[simp] theorem C0 {d agg off n x}:SE P st d (.fld agg off n x) (Ke:=Ke) (kx:=kx)=fldK agg off n (ev st x) (K:=⟨fun p=>Ke.k p st⟩):=by rfl
@[simp] theorem u3 {d agg n x}:SE P st d (.load agg n x) (Ke:=Ke) (kx:=kx)=b6q st.mem agg n (ev st x) (K:=⟨fun p=>Ke.k p st⟩):=by rfl
@[simp] theorem k7 {d sz x i}:SE P st d (.iaddr sz x i) (Ke:=Ke) (kx:=kx)=b45 st.mem sz (ev st x) (ev st i) (K:=⟨fun p=>Ke.k p st⟩):=by rfl
@[simp] theorem B9 {d x i}:SE P st d (.idx x i) (Ke:=Ke) (kx:=kx)=idxK (ev st x) (ev st i) (K:=⟨fun p=>Ke.k p st⟩):=by rfl
@[simp] theorem B2 {d z x lo hi}:SE P st d (.slc z x lo hi) (Ke:=Ke) (kx:=kx)=SLS z (ev st x) (lo.map (ev st)) (hi.map (ev st)) (K:=⟨fun p=>Ke.k p st⟩):=by rfl
@[simp] theorem C1 {d i x}:SE P st d (.ext i x) (Ke:=Ke) (kx:=kx)=extK i (ev st x) (K:=⟨fun p=>Ke.k p st⟩):=by rfl
@[simp] theorem u4 {d x}:SE P st d (.lens x) (Ke:=Ke) (kx:=kx)=c4r (ev st x) (K:=⟨fun p=>Ke.k p st⟩):=by rfl
@[simp] theorem B7 {d x}:SE P st d (.len x) (Ke:=Ke) (kx:=kx)=c4s st.mem (ev st x) (K:=⟨fun p=>Ke.k p st⟩):=by rfl
@[simp] theorem j7 {d x}:SE P st d (.tostr x) (Ke:=Ke) (kx:=kx)=b0d st.mem (ev st x) (K:=⟨fun p=>Ke.k p st⟩):=by rfl
@[simp] theorem u2 {d f caps}:SE P st d (.mkfn f caps) (Ke:=Ke) (kx:=kx)=Ke.k (.fn f (caps.map (ev st))) st:=by rfl
@[simp] theorem B8 {d t x}:SE P st d (.ifc t x) (Ke:=Ke) (kx:=kx)=ifcK t (ev st x) (K:=⟨fun p=>Ke.k p st⟩):=by rfl
@[simp] theorem G9 {d x y}:SE P st d (.mn x y) (Ke:=Ke) (kx:=kx)=mnK (ev st x) (ev st y) (K:=⟨fun p=>Ke.k p st⟩):=by rfl
@[simp] theorem B3 {d x y z u}:SE P st d (.mx4 x y z u) (Ke:=Ke) (kx:=kx)=mx4K (ev st x) (ev st y) (ev st z) (ev st u) (K:=⟨fun p=>Ke.k p st⟩):=by rfl
@[simp] theorem G8 {d x y}:SE P st d (.mx x y) (Ke:=Ke) (kx:=kx)=mxK (ev st x) (ev st y) (K:=⟨fun p=>Ke.k p st⟩):=by rfl
@[simp] theorem B6 {d E sz xs}:SE P st d (.lit E sz xs) (Ke:=Ke) (kx:=kx)=litK (elems st sz xs) (K:=⟨fun rs=>Ke.k (.own d) ⟨fun x=>(st.env x).kill (· == d),upd d (.row E sz rs) fun x=>(st.mem x).kill (· == d)⟩⟩):=by rfl
@[simp] theorem u6 {d f xs}:SE P st d (.call f xs) (Ke:=Ke) (kx:=kx)=KC P st d f (xs.map (ev st)) (Ke:=Ke) (kx:=kx):=by rfl
@[simp] theorem stepE_callr {d f x xs}:SE P st d (.callr f x xs) (Ke:=Ke) (kx:=kx)=RCp P st d f (ev st x) (ev st x).rowId (xs.map (ev st)) (Ke:=Ke) (kx:=kx):=by rfl
@[simp] theorem RCp_some {d f q id ps}:RCp P st d f q (some id) ps (Ke:=Ke) (kx:=kx)=RCm P st f id q (st.mem id) ps (Ke:=Ke):=by rfl
@[simp] theorem RCp_none {d f q ps}:RCp P st d f q none ps (Ke:=Ke) (kx:=kx)=KC P st d f (q :: ps) (Ke:=Ke) (kx:=kx):=by rfl
@[simp] theorem RCm_row {f id q E sz rs ps}:RCm P st f id q (.row E sz rs) ps (Ke:=Ke)=RC P st f id q E sz rs ps (Ke:=Ke):=by rfl
@[simp] theorem k9 {d x xs}:SE P st d (.callv x xs) (Ke:=Ke) (kx:=kx)=fnK (ev st x) (K:=⟨fun f caps=>fnB P f=true∧KC P st d f (xs.map (ev st)++caps) (Ke:=Ke) (kx:=kx)⟩):=by rfl
@[simp] theorem B5 {d E sz bytes agg z x}:SE P st d (.mks E sz bytes agg z x) (Ke:=Ke) (kx:=kx)=mksK bytes (ev st x) (F7 z) (K:=⟨fun n zs=>Ke.k (.own d) ⟨fun x=>(st.env x).kill (· == d),upd d (.row E sz (List.replicate n.toNat (if agg then .agg zs else zs.getD 0 .nilptr))) fun x=>(st.mem x).kill (· == d)⟩⟩):=by rfl
@[simp] theorem k6 {d iface neg x}:SE P st d (.isnil iface neg x) (Ke:=Ke) (kx:=kx)=a81 st.mem iface neg (ev st x) (K:=⟨fun p=>Ke.k p st⟩):=by rfl
@[simp] theorem j8 {d n a x}:SE P st d (.store n a x) (Ke:=Ke) (kx:=kx)=((ev st x).cells.length=n∧b78 st (ev st a) (ev st x) (K:=⟨fun st'=>Ke.k .skip st'⟩)):=by rfl
@[simp] theorem C6 {d E sz bytes x y}:SE P st d (.app E sz bytes x y) (Ke:=Ke) (kx:=kx)=addK (c1l st sz (ev st y)) (K:=⟨fun ys=>(∀ y'∈ys,y'.cells.all RV.one=true)∧appK st d E sz bytes (ev st x) (ev st y) ys (K:=Ke)⟩):=by rfl
def XS (st:St) (d:Nat) (o:XOp) [Ke:Kx (PV→St→Prop)]:Prop:=P9 st d o Ke.k
@[simp] theorem stepE_xop {d o}:SE P st d (.xop o) (Ke:=Ke) (kx:=kx)=XS st d o (Ke:=Ke):=by simp only [SE,W3,XS]
def a7s (o:Option (PV×Nat)) [K1:Kx (PV×Nat→Prop)] [K0:Kx Prop]:Prop:=match o with
 | some p=>K1.k p
 | none=>K0.k
@[simp] theorem onEntry_some {p} {K1:Kx (PV×Nat→Prop)} {K0:Kx Prop}:a7s (some p) (K1:=K1) (K0:=K0)=K1.k p:=by rfl
@[simp] theorem onEntry_none {K1:Kx (PV×Nat→Prop)} {K0:Kx Prop}:a7s none (K1:=K1) (K0:=K0)=K0.k:=by rfl
def b0x (st:St) (p:PV) (k:Option MKey) [K:Kx (Nat→MKey→Bool→Nat→(MKey→Option (PV×Nat))→Prop)]:Prop:=match p,k with
 | .own id,some key=>(match st.mem id with
  | .map s clk m=>K.k id key s clk m
  | _=>False)
 | _,_=>False
def c4e (id:Nat) (key:MKey) (m:MObj) [K:Kx (Nat→MKey→Bool→Nat→(MKey→Option (PV×Nat))→Prop)]:Prop:=match m with
 | .map s clk m=>K.k id key s clk m
 | _=>False
@[simp] theorem onMap_own {id key} {K:Kx (Nat→MKey→Bool→Nat→(MKey→Option (PV×Nat))→Prop)}:b0x st (.own id) (some key) (K:=K)=c4e id key (st.mem id) (K:=K):=by rfl
@[simp] theorem onMapM_map {id key s clk m} {K:Kx (Nat→MKey→Bool→Nat→(MKey→Option (PV×Nat))→Prop)}:c4e id key (.map s clk m) (K:=K)=K.k id key s clk m:=by rfl
@[simp] theorem key_int {n}:(PV.val (.int .i64 n)).key?=some (.i n):=by rfl
@[simp] theorem key_str {t}:(PV.val (.str t)).key?=some (.s t):=by rfl
@[simp] theorem isS_i {n}:(MKey.i n).isS=false:=by rfl
@[simp] theorem isS_s {t}:(MKey.s t).isS=true:=by rfl
@[simp] theorem XS_mkmap {d s}:XS st d (.mkmap s) (Ke:=Ke)=Ke.k (.own d) ⟨fun x=>(st.env x).kill (· == d),upd d (.map s 0 fun _=>none) fun x=>(st.mem x).kill (· == d)⟩:=by rfl
@[simp] theorem XS_mlook {d s ok z x k}:XS st d (.mlook s ok z x k) (Ke:=Ke)=b0x st (ev st x) (ev st k).key? (K:=⟨fun _ key s' _ m=>s'=s∧key.isS=s∧a7s (m key) (K1:=⟨fun p=>Ke.k (if ok then .tup [p.1,.val (.bool true)] else p.1) st⟩) (K0:=⟨Ke.k (if ok then .tup [z,.val (.bool false)] else z) st⟩)⟩):=by
  simp only [XS,P9,b0x]
  generalize ev st x=p
  cases p<;>rfl
@[simp] theorem XS_mupd {d s x k v}:XS st d (.mupd s x k v) (Ke:=Ke)=b0x st (ev st x) (ev st k).key? (K:=⟨fun id key s' clk m=>s'=s∧key.isS=s∧(ev st v).one st.mem=true∧a7s (m key) (K1:=⟨fun p=>Ke.k .skip ⟨st.env,upd id (.map s clk (a07 m key (ev st v) p.2)) st.mem⟩⟩) (K0:=⟨Ke.k .skip ⟨st.env,upd id (.map s (clk+1) (a07 m key (ev st v) clk)) st.mem⟩⟩)⟩):=by
  simp only [XS,P9,b0x]
  generalize ev st x=p
  cases p<;>rfl
@[simp] theorem XS_ment {d s z x k}:XS st d (.ment s z x k) (Ke:=Ke)=b0x st (ev st x) (ev st k).key? (K:=⟨fun id key s' clk m=>s'=s∧key.isS=s∧a7s (m key) (K1:=⟨fun p=>Ke.k (.tup [p.1,.val (.int .i64 p.2)]) st⟩) (K0:=⟨Ke.k (.tup [z,.val (.int .i64 clk)]) ⟨st.env,upd id (.map s (clk+1) (a07 m key z clk)) st.mem⟩⟩)⟩):=by
  simp only [XS,P9,b0x]
  generalize ev st x=p
  cases p<;>rfl
def b4k (st:St) (p q:PV) [K:Kx (Nat→Int→Bool→Nat→(MKey→Option (PV×Nat))→Prop)]:Prop:=match p,q with
 | .own id,.val (.int .i64 n)=>(match st.mem id with
  | .map s clk m=>K.k id n s clk m
  | _=>False)
 | _,_=>False
def b6e (id:Nat) (n:Int) (m:MObj) [K:Kx (Nat→Int→Bool→Nat→(MKey→Option (PV×Nat))→Prop)]:Prop:=match m with
 | .map s clk m=>K.k id n s clk m
 | _=>False
@[simp] theorem onStamp_own {id n} {K:Kx (Nat→Int→Bool→Nat→(MKey→Option (PV×Nat))→Prop)}:b4k st (.own id) (.val (.int .i64 n)) (K:=K)=b6e id n (st.mem id) (K:=K):=by rfl
@[simp] theorem onStampM_map {id n s clk m} {K:Kx (Nat→Int→Bool→Nat→(MKey→Option (PV×Nat))→Prop)}:b6e id n (.map s clk m) (K:=K)=K.k id n s clk m:=by rfl
def exEntry (m:MKey→Option (PV×Nat)) (n:Int) [K:Kx (MKey→Nat→Prop)]:Prop:=∃ key p,m key=some p∧(p.2:Int)=n∧K.k key p.2
@[simp] theorem XS_mest {d x b v}:XS st d (.mest x b v) (Ke:=Ke)=b4k st (ev st x) (ev st b) (K:=⟨fun id n s clk m=>(ev st v).one st.mem=true∧exEntry m n (K:=⟨fun key b=>Ke.k .skip ⟨st.env,upd id (.map s clk (a07 m key (ev st v) b)) st.mem⟩⟩)⟩):=by
  simp only [XS,P9,b4k]
  generalize ev st x=p
  cases p<;>rfl
@[simp] theorem mput_same {m k v b}:a07 m k v b k=some (v,b):=by simp [a07]
@[simp] theorem XS_plit {d E sz x}:XS st d (.plit E sz x) (Ke:=Ke)=((ev st x).solid st.mem=true∧(ev st x).cells.length=sz ∧
 Ke.k (.own d) ⟨fun x=>(st.env x).kill (· == d),upd d (.prow E sz 1 fun _ k=>((ev st x).cells.getD k .undef).kill (· == d)) fun x=>(st.mem x).kill (· == d)⟩):=by rfl
def b0w (st:St) (p:PV) [K:Kx (Nat→Nat→Nat→Nat→(Nat→Nat→PV)→Prop)]:Prop:=match p with
 | .own id=>(match st.mem id with
  | .prow E sz n c=>K.k id E sz n c
  | _=>False)
 | _=>False
def c0l (id:Nat) (m:MObj) [K:Kx (Nat→Nat→Nat→Nat→(Nat→Nat→PV)→Prop)]:Prop:=match m with
 | .prow E sz n c=>K.k id E sz n c
 | _=>False
@[simp] theorem onProw_own {id} {K:Kx (Nat→Nat→Nat→Nat→(Nat→Nat→PV)→Prop)}:b0w st (.own id) (K:=K)=c0l id (st.mem id) (K:=K):=by rfl
@[simp] theorem onProwM_prow {id E sz n c} {K:Kx (Nat→Nat→Nat→Nat→(Nat→Nat→PV)→Prop)}:c0l id (.prow E sz n c) (K:=K)=K.k id E sz n c:=by rfl
def c4b (st:St) (p:PV) (d E sz bytes iy ny:Nat) (cy:Nat→Nat→PV) [Ke:Kx (PV→St→Prop)]:Prop:=match p with
 | .own id=>(match st.mem id with
  | .prow E' sz' n c=>V9 id∧iy≠id∧E'=E∧sz'=sz∧(n+ny)*bytes≤140737488355328∧n+ny≤9223372036854775807 ∧
   Ke.k (.own id) ⟨fun x=>(st.env x).kill (· == id),upd id (.prow E sz (n+ny) fun j k=>(if j < n then c j k else cy (j - n) k).kill (· == id)) fun x=>(st.mem x).kill (· == id)⟩
  | _=>False)
 | .emp _=>ny*bytes≤140737488355328∧ny≤9223372036854775807 ∧
  Ke.k (.own d) ⟨fun x=>(st.env x).kill (· == d),upd d (.prow E sz ny fun j k=>(cy j k).kill (· == d)) fun x=>(st.mem x).kill (· == d)⟩
 | _=>False
def pappM (st:St) (id:Nat) (m:MObj) (E sz bytes iy ny:Nat) (cy:Nat→Nat→PV) [Ke:Kx (PV→St→Prop)]:Prop:=match m with
 | .prow E' sz' n c=>V9 id∧iy≠id∧E'=E∧sz'=sz∧(n+ny)*bytes≤140737488355328∧n+ny≤9223372036854775807 ∧
  Ke.k (.own id) ⟨fun x=>(st.env x).kill (· == id),upd id (.prow E sz (n+ny) fun j k=>(if j < n then c j k else cy (j - n) k).kill (· == id)) fun x=>(st.mem x).kill (· == id)⟩
 | _=>False
@[simp] theorem pappK_own {id d E sz bytes iy ny cy}:c4b st (.own id) d E sz bytes iy ny cy (Ke:=Ke)=pappM st id (st.mem id) E sz bytes iy ny cy (Ke:=Ke):=by rfl
@[simp] theorem pappK_emp {s d E sz bytes iy ny cy}:c4b st (.emp s) d E sz bytes iy ny cy (Ke:=Ke)=(ny*bytes≤140737488355328∧ny≤9223372036854775807 ∧
 Ke.k (.own d) ⟨fun x=>(st.env x).kill (· == d),upd d (.prow E sz ny fun j k=>(cy j k).kill (· == d)) fun x=>(st.mem x).kill (· == d)⟩):=by rfl
@[simp] theorem pappM_prow {id E sz bytes iy ny cy E' sz' n c}:pappM st id (.prow E' sz' n c) E sz bytes iy ny cy (Ke:=Ke)=(V9 id∧iy≠id∧E'=E∧sz'=sz∧(n+ny)*bytes≤140737488355328∧n+ny≤9223372036854775807 ∧
 Ke.k (.own id) ⟨fun x=>(st.env x).kill (· == id),upd id (.prow E sz (n+ny) fun j k=>(if j < n then c j k else cy (j - n) k).kill (· == id)) fun x=>(st.mem x).kill (· == id)⟩):=by rfl
@[simp] theorem XS_papp {d E sz bytes x y}:XS st d (.papp E sz bytes x y) (Ke:=Ke)=b0w st (ev st y) (K:=⟨fun iy _ sy ny cy=>sy=sz∧c4b st (ev st x) d E sz bytes iy ny cy (Ke:=Ke)⟩):=by
  simp only [XS,P9,b0w]
  generalize ev st y=p
  cases p<;>rfl
@[simp] theorem XS_plen {d x}:XS st d (.plen x) (Ke:=Ke)=b0w st (ev st x) (K:=⟨fun _ _ _ n _=>Ke.k (.val (.int .i64 n)) st⟩):=by
  simp only [XS,P9,b0w]
  generalize ev st x=p
  cases p<;>rfl
def c0k (st:St) (p i:PV) (sz:Nat) [Ke:Kx (PV→St→Prop)]:Prop:=match p,i with
 | .own id,.val (.int _ j)=>(match st.mem id with
  | .prow _ s n _=>s=sz∧0≤j∧j < n∧Ke.k (.elt id j.toNat sz 0) st
  | _=>False)
 | _,_=>False
def c0j (st:St) (id:Nat) (m:MObj) (j:Int) (sz:Nat) [Ke:Kx (PV→St→Prop)]:Prop:=match m with
 | .prow _ s n _=>s=sz∧0≤j∧j < n∧Ke.k (.elt id j.toNat sz 0) st
 | _=>False
@[simp] theorem piaddrK_own {id k j sz}:c0k st (.own id) (.val (.int k j)) sz (Ke:=Ke)=c0j st id (st.mem id) j sz (Ke:=Ke):=by rfl
@[simp] theorem piaddrM_prow {id E s n c j sz}:c0j st id (.prow E s n c) j sz (Ke:=Ke)=(s=sz∧0≤j∧j < n∧Ke.k (.elt id j.toNat sz 0) st):=by rfl
@[simp] theorem XS_piaddr {d sz x i}:XS st d (.piaddr sz x i) (Ke:=Ke)=c0k st (ev st x) (ev st i) sz (Ke:=Ke):=by rfl
def c36 (st:St) (p:PV) (agg:Bool) (n:Nat) [Ke:Kx (PV→St→Prop)]:Prop:=match p with
 | .elt id j s o=>(match st.mem id with
  | .prow _ sz nn c=>s=sz∧j < nn∧0 < n∧o+n≤sz∧Ke.k (if agg then N5 ((List.range n).map fun k=>c j (o+k)) else c j o) st
  | _=>False)
 | _=>False
def c35 (st:St) (m:MObj) (j s o:Nat) (agg:Bool) (n:Nat) [Ke:Kx (PV→St→Prop)]:Prop:=match m with
 | .prow _ sz nn c=>s=sz∧j < nn∧0 < n∧o+n≤sz∧Ke.k (if agg then N5 ((List.range n).map fun k=>c j (o+k)) else c j o) st
 | _=>False
@[simp] theorem ploadK_elt {id j s o agg n}:c36 st (.elt id j s o) agg n (Ke:=Ke)=c35 st (st.mem id) j s o agg n (Ke:=Ke):=by rfl
@[simp] theorem ploadM_prow {E sz nn c j s o agg n}:c35 st (.prow E sz nn c) j s o agg n (Ke:=Ke)=(s=sz∧j < nn∧0 < n∧o+n≤sz∧Ke.k (if agg then N5 ((List.range n).map fun k=>c j (o+k)) else c j o) st):=by rfl
@[simp] theorem XS_pload {d agg n x}:XS st d (.pload agg n x) (Ke:=Ke)=c36 st (ev st x) agg n (Ke:=Ke):=by rfl
def c0i (st:St) (a p:PV) (n:Nat) [Ke:Kx (PV→St→Prop)]:Prop:=match a with
 | .elt id j s o=>(match st.mem id with
  | .prow E sz nn c=>s=sz∧j < nn∧p.solid st.mem=true∧o+n≤sz ∧
   Ke.k .skip ⟨st.env,upd id (.prow E sz nn fun j' k=>if j'=j∧o≤k∧k < o+n then p.cells.getD (k - o) .undef else c j' k) st.mem⟩
  | _=>False)
 | _=>False
def c0h (st:St) (id:Nat) (m:MObj) (j s o:Nat) (p:PV) (n:Nat) [Ke:Kx (PV→St→Prop)]:Prop:=match m with
 | .prow E sz nn c=>s=sz∧j < nn∧p.solid st.mem=true∧o+n≤sz ∧
  Ke.k .skip ⟨st.env,upd id (.prow E sz nn fun j' k=>if j'=j∧o≤k∧k < o+n then p.cells.getD (k - o) .undef else c j' k) st.mem⟩
 | _=>False
@[simp] theorem pstoreK_elt {id j s o p n}:c0i st (.elt id j s o) p n (Ke:=Ke)=c0h st id (st.mem id) j s o p n (Ke:=Ke):=by rfl
@[simp] theorem pstoreM_prow {id E sz nn c j s o p n}:c0h st id (.prow E sz nn c) j s o p n (Ke:=Ke)=(s=sz∧j < nn∧p.solid st.mem=true∧o+n≤sz ∧
 Ke.k .skip ⟨st.env,upd id (.prow E sz nn fun j' k=>if j'=j∧o≤k∧k < o+n then p.cells.getD (k - o) .undef else c j' k) st.mem⟩):=by rfl
@[simp] theorem XS_pstore {d n a x}:XS st d (.pstore n a x) (Ke:=Ke)=((ev st x).cells.length=n∧c0i st (ev st a) (ev st x) n (Ke:=Ke)):=by rfl
@[simp] theorem stepX_xop {o}:SX P st (.xop o) (Kp:=Kp)=(o.reads=true∧XS st 0 o (Ke:=⟨fun p _=>Kp.k p⟩)):=by rfl
@[simp] theorem reads_mlook {s ok z x k}:(XOp.mlook s ok z x k).reads=true:=by rfl
@[simp] theorem reads_plen {x}:(XOp.plen x).reads=true:=by rfl
@[simp] theorem reads_piaddr {sz x i}:(XOp.piaddr sz x i).reads=true:=by rfl
@[simp] theorem reads_pload {agg n x}:(XOp.pload agg n x).reads=true:=by rfl
theorem b5r {op} (h:op.isStill=true):SX P st op (Kp:=Kp)=SE P st 0 op (Ke:=⟨fun p _=>Kp.k p⟩) (kx:=⟨fun _ _=>False⟩):=by
 cases op<;>first | rfl | (simp [POp.isStill] at h)
@[simp] theorem A2 {x}:SX P st (.mov x) (Kp:=Kp)=Kp.k (ev st x):=by rfl
@[simp] theorem i8 {x}:SX P st (.nilck x) (Kp:=Kp)=a8s (ev st x) (K:=⟨Kp.k⟩):=by rfl
@[simp] theorem B1 {op x y}:SX P st (.bin op x y) (Kp:=Kp)=BS op (ev st x) (ev st y) (K:=⟨Kp.k⟩):=by rfl
@[simp] theorem B0 {neg x y}:SX P st (.eqb neg x y) (Kp:=Kp)=eqbK neg (ev st x) (ev st y) (K:=⟨Kp.k⟩):=by rfl
@[simp] theorem A9 {neg ks x y}:SX P st (.eqs neg ks x y) (Kp:=Kp)=eqsK neg ks (ev st x) (ev st y) (K:=⟨Kp.k⟩):=by rfl
@[simp] theorem G4 {op x}:SX P st (.un op x) (Kp:=Kp)=US op (ev st x) (K:=⟨Kp.k⟩):=by rfl
@[simp] theorem u0 {k x}:SX P st (.conv k x) (Kp:=Kp)=c5k k (ev st x) (K:=⟨Kp.k⟩):=by rfl
@[simp] theorem j4 {off x}:SX P st (.faddr off x) (Kp:=Kp)=b1u off (ev st x) (K:=⟨Kp.k⟩):=by rfl
@[simp] theorem A7 {agg off n x}:SX P st (.fld agg off n x) (Kp:=Kp)=fldK agg off n (ev st x) (K:=⟨Kp.k⟩):=by rfl
@[simp] theorem t7 {agg n x}:SX P st (.load agg n x) (Kp:=Kp)=b6q st.mem agg n (ev st x) (K:=⟨Kp.k⟩):=by rfl
@[simp] theorem j3 {sz x i}:SX P st (.iaddr sz x i) (Kp:=Kp)=b45 st.mem sz (ev st x) (ev st i) (K:=⟨Kp.k⟩):=by rfl
@[simp] theorem A6 {x i}:SX P st (.idx x i) (Kp:=Kp)=idxK (ev st x) (ev st i) (K:=⟨Kp.k⟩):=by rfl
@[simp] theorem A0 {z x lo hi}:SX P st (.slc z x lo hi) (Kp:=Kp)=SLS z (ev st x) (lo.map (ev st)) (hi.map (ev st)) (K:=⟨Kp.k⟩):=by rfl
@[simp] theorem A8 {i x}:SX P st (.ext i x) (Kp:=Kp)=extK i (ev st x) (K:=⟨Kp.k⟩):=by rfl
@[simp] theorem t8 {x}:SX P st (.lens x) (Kp:=Kp)=c4r (ev st x) (K:=⟨Kp.k⟩):=by rfl
@[simp] theorem A4 {x}:SX P st (.len x) (Kp:=Kp)=c4s st.mem (ev st x) (K:=⟨Kp.k⟩):=by rfl
@[simp] theorem i7 {x}:SX P st (.tostr x) (Kp:=Kp)=b0d st.mem (ev st x) (K:=⟨Kp.k⟩):=by rfl
@[simp] theorem t6 {f caps}:SX P st (.mkfn f caps) (Kp:=Kp)=Kp.k (.fn f (caps.map (ev st))):=by rfl
@[simp] theorem A5 {t x}:SX P st (.ifc t x) (Kp:=Kp)=ifcK t (ev st x) (K:=⟨Kp.k⟩):=by rfl
@[simp] theorem G6 {x y}:SX P st (.mn x y) (Kp:=Kp)=mnK (ev st x) (ev st y) (K:=⟨Kp.k⟩):=by rfl
@[simp] theorem A1 {x y z u}:SX P st (.mx4 x y z u) (Kp:=Kp)=mx4K (ev st x) (ev st y) (ev st z) (ev st u) (K:=⟨Kp.k⟩):=by rfl
@[simp] theorem G5 {x y}:SX P st (.mx x y) (Kp:=Kp)=mxK (ev st x) (ev st y) (K:=⟨Kp.k⟩):=by rfl
@[simp] theorem s9 {c a b}:SX P st (.pick c a b) (Kp:=Kp)=a8q (ev st c) (B:=⟨False⟩) (K:=⟨fun t=>a73 (t=true) (A:=⟨Kp.k (ev st a)⟩) (B:=⟨Kp.k (ev st b)⟩)⟩):=(b5r (P:=P) rfl).trans p9
@[simp] theorem j6 {z parts}:SX P st (.build z parts) (Kp:=Kp)=FP st z parts (K:=⟨fun cs=>Kp.k (N5 cs)⟩):=by rfl
@[simp] theorem A3 {E sz xs}:SX P st (.lit E sz xs) (Kp:=Kp)=litK (elems st sz xs) (K:=⟨fun rs=>Kp.k (.val (.list sz rs))⟩):=by rfl
@[simp] theorem u1 {f xs}:SX P st (.call f xs) (Kp:=Kp)=KX P st f (xs.map (ev st)) (Kp:=Kp):=by rfl
@[simp] theorem j5 {x xs}:SX P st (.callv x xs) (Kp:=Kp)=fnK (ev st x) (K:=⟨fun f caps=>fnB P f=true∧KX P st f (xs.map (ev st)++caps) (Kp:=Kp)⟩):=by rfl
@[simp] theorem H7 {r d}:(PV.val r).kill d=.val r:=by rfl
@[simp] theorem I0 {r d}:(PV.emp r).kill d=.emp r:=by rfl
@[simp] theorem M2 {r d}:(PV.at r).kill d=.at r:=by rfl
@[simp] theorem v7 {d}:PV.undef.kill d=.undef:=by rfl
@[simp] theorem D3 {d}:PV.skip.kill d=.skip:=by rfl
@[simp] theorem M1 {f cs d}:(PV.fn f cs).kill d=.fn f (PV.killL d cs):=by rfl
@[simp] theorem H9 {i d}:(PV.own i).kill d=if d i then .undef else .own i:=by rfl
@[simp] theorem H8 {i o d}:(PV.ptr i o).kill d=if d i then .undef else .ptr i o:=by rfl
@[simp] theorem I1 {i j s o d}:(PV.elt i j s o).kill d=if d i then .undef else .elt i j s o:=by rfl
@[simp] theorem D4 {E sz xs d}:(MObj.row E sz xs).kill d=.row E sz xs:=by rfl
@[simp] theorem D5 {cs d}:(MObj.box cs).kill d=.box (PV.killL d cs):=by rfl
@[simp] theorem v8 {d}:MObj.dead.kill d=.dead:=by rfl
@[simp] theorem killM_prow {E sz n c d}:(MObj.prow E sz n c).kill d=.prow E sz n fun j k=>(c j k).kill d:=by rfl
@[simp] theorem killM_map {s clk m d}:(MObj.map s clk m).kill d=.map s clk fun k=>(m k).map fun p=>(p.1.kill d,p.2):=by rfl
attribute [simp] V9 okId
theorem R9 {f ps as r} (ha:P5 st.mem ps=some as) (hb:boxIds ps=[]) (hr:ps.all PV.noOwn=true∨r.flat=true) (h:f9 P f as (.ret (.val r) []) []) (hK:Kp.k (.val r)):KX P st f ps (Kp:=Kp):=by
 unfold KX a1v
 rw [ha]
 exact ⟨hb,.val r,h,fun _=>rfl,rfl,by simpa [PV.flat] using hr,hK⟩
@[simp] theorem I5 {op k x k' y}:BS op (.val (.int k x)) (.val (.int k' y)) (K:=Kp)=(k=k'∧BI op k x y (K:=⟨fun r=>Kp.k (.val r)⟩)):=by rfl
@[simp] theorem I4 {op x y}:BS op (.val (.str x)) (.val (.str y)) (K:=Kp)=BT op x y (K:=⟨fun r=>Kp.k (.val r)⟩):=by rfl
section
variable {k:IntKind} {x y:Int} {Kr:Kx (RV→Prop)} {u v:ByteArray}
@[simp] theorem J6:BI .add k x y (K:=Kr)=Kr.k (.int k (k.wrap (x+y))):=by rfl
@[simp] theorem I6:BI .sub k x y (K:=Kr)=Kr.k (.int k (k.wrap (x - y))):=by rfl
@[simp] theorem J0:BI .mul k x y (K:=Kr)=Kr.k (.int k (k.wrap (x*y))):=by rfl
@[simp] theorem I8:BI .quo k x y (K:=Kr)=(y≠0∧Kr.k (.int k (k.wrap (x.tdiv y)))):=by rfl
@[simp] theorem I7:BI .rem k x y (K:=Kr)=(y≠0∧Kr.k (.int k (x.tmod y))):=by rfl
@[simp] theorem J5:BI .eql k x y (K:=Kr)=Kr.k (.bool (x == y)):=by rfl
@[simp] theorem I9:BI .neq k x y (K:=Kr)=Kr.k (.bool (x != y)):=by rfl
@[simp] theorem J1:BI .lss k x y (K:=Kr)=Kr.k (.bool (x < y)):=by rfl
@[simp] theorem J2:BI .leq k x y (K:=Kr)=Kr.k (.bool (x≤y)):=by rfl
@[simp] theorem J3:BI .gtr k x y (K:=Kr)=Kr.k (.bool (x > y)):=by rfl
@[simp] theorem J4:BI .geq k x y (K:=Kr)=Kr.k (.bool (x≥y)):=by rfl
@[simp] theorem y6:BT .add u v (K:=Kr)=(u.size+v.size≤9223372036854775807∧Kr.k (.str (u++v))):=by rfl
@[simp] theorem y0:BT .eql u v (K:=Kr)=Kr.k (.bool (decide (u=v))):=by rfl
@[simp] theorem x9:BT .neq u v (K:=Kr)=Kr.k (.bool (!decide (u=v))):=by rfl
end
@[simp] theorem K7 {b}:US .not (.val (.bool b)) (K:=Kp)=Kp.k (.val (.bool !b)):=by rfl
@[simp] theorem K8 {k n}:US .neg (.val (.int k n)) (K:=Kp)=Kp.k (.val (.int k (k.wrap (0 - n)))):=by rfl
theorem d4 {d f ps as r} (ha:P5 st.mem ps=some as) (hb:boxIds ps=[]) (hr:ps.all PV.noOwn=true∨r.flat=true) (h:f9 P f as (.ret (.val r) []) []) (hK:Ke.k (.val r) st):KC P st d f ps (Ke:=Ke) (kx:=kx):=by
 refine a2y (K:=fun q st'=>q=.val r∧st'=st) (kx:=fun _ _=>False) (fun p s hh=>by obtain ⟨rfl,rfl⟩:=hh;exact hK) (fun _ _ hh=>hh.elim) (a3e ?_)
 unfold a1v
 rw [ha]
 exact ⟨hb,.val r,h,fun _=>rfl,rfl,by simpa [PV.flat] using hr,rfl⟩
@[simp] theorem E6 {cs:List PV} {K:Kx (List PV→Prop)}:FP st cs [] (K:=K)=K.k cs:=by rfl
@[simp] theorem w7 {cs:List PV} {off n x ps} {K:Kx (List PV→Prop)}:FP st cs ((off,n,x) :: ps) (K:=K)=((ev st x).solid st.mem=true∧(ev st x).cells.length=n∧off+n≤cs.length∧FP st (N7 cs off (ev st x).cells) ps (K:=K)):=by rfl
@[simp] theorem O2 {s k l}:SLS 0 (.val (.str s)) (some (.val (.int k l))) none (K:=Kp)=(0≤l∧l.toNat≤s.size∧Kp.k (.val (.str (s.extract l.toNat s.size)))):=by simp [SLS,a9x,a0l,a0k]
@[simp] theorem O3 {s k h}:SLS 0 (.val (.str s)) none (some (.val (.int k h))) (K:=Kp)=(0≤h∧h≤s.size∧Kp.k (.val (.str (s.extract 0 h.toNat)))):=by simp [SLS,a9x,a0l,a0k]
@[simp] theorem H0 {s k l k' h}:SLS 0 (.val (.str s)) (some (.val (.int k l))) (some (.val (.int k' h))) (K:=Kp)=((0≤h∧h≤s.size)∧0≤l∧l.toNat≤h.toNat∧Kp.k (.val (.str (s.extract l.toNat h.toNat)))):=by simp [SLS,a9x,a0l,a0k,and_assoc]
@[simp] theorem K9 {z xs k l} (hz:z≠0):SLS z (.val (.list z xs)) (some (.val (.int k l))) none (K:=Kp)=(0≤l∧l.toNat≤xs.length∧Kp.k (.val (.list z ((xs.take xs.length).drop l.toNat)))):=by simp [SLS,a9x,a0l,a0k,hz]
@[simp] theorem L2 {z xs k h} (hz:z≠0):SLS z (.val (.list z xs)) none (some (.val (.int k h))) (K:=Kp)=(0≤h∧h≤xs.length∧Kp.k (.val (.list z (xs.take h.toNat)))):=by simp [SLS,a9x,a0l,a0k,hz]
end
def LoopNext {X:Type} (x:X) (st':St) [L:Kx ((X→St)×(X→Prop)×(X→Nat))]:Prop:=∃ x',L.k.2.1 x'∧L.k.2.2 x' < L.k.2.2 x∧Le st' (L.k.1 x')
theorem LoopNext.mk {X:Type} {S:X→St} {I:X→Prop} {μ:X→Nat} {x:X} {st':St} (x':X) (h1:I x') (h2:μ x' < μ x) (h3:Le st' (S x')):LoopNext x st' (L:=⟨(S,I,μ)⟩):=⟨x',h1,h2,h3⟩
theorem P0 {P:Program} {c:PC} {st:St} {K:Kx (PExit→St→Prop)} {X:Type} (S:X→St) (I:X→Prop) (μ:X→Nat) (x0:X) (h0:Le st (S x0)) (hi:I x0)
 (hr:∀ x,I x→EC P c (S x) (K:=⟨fun e st'=>ET e st' (Ks:=⟨fun st'=>LoopNext x st' (L:=⟨(S,I,μ)⟩)⟩) (K:=K)⟩)):EC P (.loop (.ghost c)) st (K:=K):=
 loop_le S I μ x0 h0 hi hr
@[simp] theorem F3 (x:Nat):Q0 [] x=.undef:=by rfl
@[simp] theorem q7 (k:Nat) (p:PV) (l:List (Nat×PV)) (x:Nat):Q0 ((k,p) :: l) x=if x=k then p else Q0 l x:=by rfl
@[simp] theorem D2 (x:Nat):P6 [] x=.dead:=by rfl
@[simp] theorem u9 (k:Nat) (p:MObj) (l:List (Nat×MObj)) (x:Nat):P6 ((k,p) :: l) x=if x=k then p else P6 l x:=by rfl
mutual
def PV.pl:PV→PV
 | .emp s=>.val (.list s [])
 | .agg cs=>N5 (PV.plL cs)
 | .tup cs=>.tup (PV.plL cs)
 | .fn f cs=>.fn f cs
 | .own i=>.own i
 | .ptr i o=>.ptr i o
 | .elt i j s o=>.elt i j s o
 | .undef=>.undef
 | .skip=>.skip
 | .val r=>.val r
 | .at cs=>.at cs
def PV.plL:List PV→List PV
 | []=>[]
 | p :: ps=>p.pl :: PV.plL ps
end
theorem PV.plL_map (ps:List PV):PV.plL ps=ps.map PV.pl:=by
 induction ps with
 | nil=>rfl
 | cons p ps ih=>simp [PV.plL,ih]
theorem PV.plL_length (ps:List PV):(PV.plL ps).length=ps.length:=by simp [PV.plL_map]
theorem PV.plL_getD (ps:List PV) (i:Nat) (h:i < ps.length):(PV.plL ps).getD i .undef=(ps.getD i .undef).pl:=by
 simp [PV.plL_map,List.getD_eq_getElem?_getD,List.getElem?_map,List.getElem?_eq_getElem h]
theorem RepP.pl {γ:Nat→Value} {L:Nat→Prop} {w:World} {p:PV} {v:Value} (h:RepP γ L w p v):RepP γ L w p.pl v:=by
 induction h with
 | emp s=>exact .val _ _ (.list0 _ _ _)
 | agg cs vs hs _ ih=>exact a3r (by rw [PV.plL_length];exact hs) (fun i hi=>by rw [PV.plL_length] at hi;rw [PV.plL_getD _ _ hi];exact ih i hi)
 | tup cs vs hs _ ih=>exact .tup _ vs (by rw [PV.plL_length];exact hs) (fun i hi=>by rw [PV.plL_length] at hi;rw [PV.plL_getD _ _ hi];exact ih i hi)
 | undef v=>exact .undef v
 | skip=>exact .skip
 | val r v h=>exact .val r v h
 | own id v h=>exact .own id v h
 | ptr id off b h=>exact .ptr id off b h
 | elt id j sz off b n c h=>exact .elt id j sz off b n c h
 | «at» cells b o f hb h0 hc h=>exact .at cells b o f hb h0 hc h
 | fn f cs vs hs h _=>exact .fn f cs vs hs h
def MObj.pl:MObj→MObj
 | .box cs=>.box (PV.plL cs)
 | o=>o
theorem Le.plain (st:St):Le st ⟨fun x=>(st.env x).pl,fun i=>(st.mem i).pl⟩:=fun F γ a w hI=>by
 have hlive:∀ i,(st.mem i).pl.live=(st.mem i).live:=fun i=>by cases st.mem i<;>rfl
 have hL:F8 F.L γ (fun i=>(st.mem i).pl)=F8 F.L γ st.mem:=by funext b;simp only [F8,hlive]
 refine ⟨γ,hI.sz,hI.df,fun x=>?_,⟨fun id cs hid=>?_,fun id E sz xs hid=>?_,fun id E sz n c hid=>?_,fun id s clk m hid=>?_,fun id id' b h1 h2=>hI.mem.inj id id' b (by rw [← hlive];exact h1) (by rw [← hlive];exact h2)⟩,hI.fr,?_,fun k b cs hb hm=>?_,fun v E sz xs hv hm=>?_,fun i v hv hm=>hI.pinn i v hv (by rw [← hlive];exact hm)⟩
 · show RepP γ (F8 F.L γ (fun i=>(st.mem i).pl)) w _ _
   rw [hL];exact (hI.env x).pl
 · cases ho:st.mem id with
   | dead=>simp [ho,MObj.pl] at hid
   | row E sz xs=>simp [ho,MObj.pl] at hid
   | prow E sz n c=>simp [ho,MObj.pl] at hid
   | map s clk m=>simp [ho,MObj.pl] at hid
   | box cs0=>
    simp only [ho,MObj.pl,MObj.box.injEq] at hid
    subst hid
    obtain ⟨b,arr,T,h1,h2,h3,h4,h5⟩:=hI.mem.box id cs0 ho
    refine ⟨b,arr,T,h1,h2,by rw [PV.plL_length];exact h3,h4,fun j hj=>?_⟩
    rw [PV.plL_length] at hj
    rw [PV.plL_getD _ _ hj,hL]
    exact ⟨(h5 j hj).1.pl,(h5 j hj).2⟩
 · cases ho:st.mem id with
   | dead=>simp [ho,MObj.pl] at hid
   | box cs=>simp [ho,MObj.pl] at hid
   | prow E sz n c=>simp [ho,MObj.pl] at hid
   | map s clk m=>simp [ho,MObj.pl] at hid
   | row E' sz' xs'=>
    simp only [ho,MObj.pl] at hid
    obtain ⟨vs,h1,h2,h3,h4⟩:=hI.mem.row id E sz xs (by rw [ho];exact hid)
    refine ⟨vs,h1,h2,?_,h4⟩
    rw [hL];exact h3
 · have ho:st.mem id=.prow E sz n c:=by cases ho:st.mem id<;>simp [ho,MObj.pl] at hid ⊢;exact hid
   have:=hI.mem.prow id E sz n c ho
   rw [hL];exact this
 · have ho:st.mem id=.map s clk m:=by cases ho:st.mem id<;>simp [ho,MObj.pl] at hid ⊢;exact hid
   have:=hI.mem.map id s clk m ho
   rw [hL];exact this
 · show Globs (F8 F.L γ (fun i=>(st.mem i).pl)) w
   rw [hL];exact hI.gl
 · cases ho:st.mem (900+k) with
   | box cs0=>exact hI.pin k b cs0 hb ho
   | _=>simp [ho,MObj.pl] at hm
 · cases ho:st.mem 900 with
   | row E' sz' xs'=>exact hI.pinr v E' sz' xs' hv ho
   | _=>simp [ho,MObj.pl] at hm
def St.fin (st:St):St:=
 ⟨fun x=>((st.freeze fun _=>true).env x).pl,fun i=>((st.freeze fun _=>true).mem i).pl⟩
def a4s (res:List Rs) (p:PV):PExit→St→Prop
 | .normal,st=>P2 res st.fin=some p
 | .ret,st=>P2 res st.fin=some p
 | _,_=>False
theorem F4 {P:Program} {f:Nat} {c:PC} {res:List Rs} {as:List AV} {p:PV} (hm:P.follows .mixedOrders=true) (hc:K5 P f c as.length res=true) (hb:a7 as=[]) (hp:∀ ι,p.ren ι=p)
 (h:U6 P c (b9 as) (a4s res p)):f9 P f as (.ret p []) []:=by
 refine a6a hm hc (S3 (fun e s hh=>?_) h)
 have key:P2 res s.fin=some p→∃ st',Le s st'∧b2h res (a7 as).length (.ret p []) [] .ret st':=fun hh=>
  ⟨s.fin,(Le.freeze s _).trans (Le.plain _),(by rw [hb]),⟨⟨id,by rw [hp];exact hh,fun i j hi=>by simp at hi,fun i r hr=>by simp at hr⟩,trivial⟩⟩
 cases e with
 | normal=>exact key hh
 | ret=>exact key hh
 | exit id=>exact hh.elim
 | pan r=>exact hh.elim
@[simp] theorem J8 {res p} {st:St}:a4s res p .ret st=(P2 res st.fin=some p):=by rfl
@[simp] theorem o9 {res p} {st:St}:a4s res p .normal st=(P2 res st.fin=some p):=by rfl
@[simp] theorem O4 {s} {st:St}:P2 [.t s] st=some (st.env s):=by rfl
@[simp] theorem L3 {a b} {st:St}:P2 [.t a,.t b] st=some (.tup [st.env a,st.env b]):=by rfl
@[simp] theorem K3 {st:St} {x}:st.fin.env x=((st.env x).frz (O1 st fun _=>true)).pl:=by rfl
@[simp] theorem M5 {φ:Nat→Option RV} {r}:(PV.val r).frz φ=.val r:=by rfl
@[simp] theorem M7 {φ:Nat→Option RV} {s}:(PV.emp s).frz φ=.emp s:=by rfl
@[simp] theorem M6 {φ:Nat→Option RV} {i}:(PV.own i).frz φ=match φ i with
 | some r=>.val r
 | none=>.own i:=by rfl
@[simp] theorem O5 {r}:(PV.val r).pl=.val r:=by rfl
@[simp] theorem O6 {s}:(PV.emp s).pl=.val (.list s []):=by rfl
theorem wrap_i64 {x:Int} (h1:-9223372036854775808≤x) (h2:x≤9223372036854775807):IntKind.i64.wrap x=x:=by
 rw [IntKind.wrap_i64];omega
end Go.PW
