/- The operations that leave memory as it is: what each yields, and that the machine yields it. -/
import Derived.Test.YtfoapolbgpjfaaaGreatDoorPWb
import Derived.Laws.Slices
import Derived.Laws.Strings
import Derived.Lib.SlBytesRow
set_option linter.unusedSectionVars false
set_option linter.unusedSimpArgs false
set_option linter.unusedVariables false
namespace Go.PW
variable [GF]
open Go.RowKit
def PV.cells:PV→List PV
 | .val (.agg cs)=>cs.map .val
 | .agg cs=>cs
 | p=>[p]
def d9:List PV→Option (List RV)
 | []=>some []
 | .val r :: ps=>(d9 ps).map (r :: ·)
 | _ :: _=>none
def l4 (cs:List PV):PV:=match d9 cs with
 | some rs=>.val (.agg rs)
 | none=>.agg cs
def b1p:Nat→RV→RV→Option Bool
 | 0,.str a,.str b=>some (decide (a=b))
 | 2,.int k a,.int k' b=>if k=k' then some (a == b) else none
 | 1,.bool a,.bool b=>some (a == b)
 | _,_,_=>none
def p5:List Nat→List RV→List RV→Option Bool
 | [],[],[]=>some true
 | k :: ks,a :: as,b :: bs=>match b1p k a b,p5 ks as bs with
  | some c,some d=>some (c && d)
  | _,_=>none
 | _,_,_=>none
def a31 (P:Program) (i k:Nat) (f:Field):Bool:=f.name != "_" && f.offset == i && (match P.underlying f.type,k with | some .string,0=>true | some .bool,1=>true | some (.int _),2=>true | _,_=>false)
def a0b (P:Program):Nat→List Nat→List Field→Bool
 | _,[],[]=>true
 | i,k :: ks,f :: fs=>a31 P i k f && a0b P (i+1) ks fs
 | _,_,_=>false
def a3x (P:Program) (i n:Nat) (ks:List Nat) (f:Field):Bool:=f.name != "_" && f.offset == i && !P.stoodInHeld f.type && decide (ks.length=n∧0 < n) && (match P.info? f.type with | some x=>x.size == n | none=>false) && (match P.underlying f.type with | some (.struct fs)=>a0b P 0 ks fs.toList | _=>false)
def a72 (P:Program) (t:TypeId):Nat:=match P.info? t with | some x=>x.size | none=>0
def a0a (P:Program):Nat→List Nat→List Field→Bool
 | _,ks,[]=>ks.isEmpty
 | i,ks,f :: fs=>(match ks with | k :: ks'=>a31 P i k f && a0a P (i+1) ks' fs | []=>false) ||
  (a3x P i (a72 P f.type) (ks.take (a72 P f.type)) f && a0a P (i+a72 P f.type) (ks.drop (a72 P f.type)) fs)
def a2o (P:Program) (t:TypeId) (ks:List Nat):Bool:=!P.stoodInHeld t && !P.eqGuardType P.depth t && (match P.underlying t with | some (.struct fs)=>a0a P 0 ks fs.toList | _=>false)
def a8a (o:Option Bool) (K:Bool→Prop):Prop:=match o with
 | some b=>K b
 | none=>False
def a3p (s:ByteArray) (i:Nat):Int:=((s.data.getD i 0).toNat:Int)
def RV.byte:RV→UInt8
 | .int _ n=>UInt8.ofNat n.toNat
 | _=>0
def RV.isU8:RV→Bool
 | .int .u8 _=>true
 | _=>false
def P5 (xs:List RV):ByteArray:=⟨(xs.map RV.byte).toArray⟩
def b7l (op:BinOp) (k:IntKind) (x y:Int) (K:RV→Prop):Prop:=
 match op with
 | .add=>K (.int k (k.wrap (x+y)))
 | .sub=>K (.int k (k.wrap (x - y)))
 | .mul=>K (.int k (k.wrap (x*y)))
 | .quo=>y≠0∧K (.int k (k.wrap (x.tdiv y)))
 | .rem=>y≠0∧K (.int k (x.tmod y))
 | .eql=>K (.bool (x == y))
 | .neq=>K (.bool (x != y))
 | .lss=>K (.bool (x < y))
 | .leq=>K (.bool (x≤y))
 | .gtr=>K (.bool (x > y))
 | .geq=>K (.bool (x≥y))
 | _=>False
def a6g (op:BinOp) (x y:ByteArray) (K:RV→Prop):Prop:=
 match op with
 | .add=>x.size+y.size≤9223372036854775807∧K (.str (x++y))
 | .eql=>K (.bool (decide (x=y)))
 | .neq=>K (.bool (!decide (x=y)))
 | .lss=>K (.bool (Op.bytesLess x.data.toList y.data.toList))
 | _=>False
def b5c (op:BinOp) (p q:PV) (K:PV→Prop):Prop:=
 match p,q with
 | .val (.int k x),.val (.int k' y)=>k=k'∧b7l op k x y fun r=>K (.val r)
 | .val (.str x),.val (.str y)=>a6g op x y fun r=>K (.val r)
 | _,_=>False
def unS (op:UnOp) (p:PV) (K:PV→Prop):Prop:=
 match op,p with
 | .neg,.val (.int k n)=>K (.val (.int k (k.wrap (0 - n))))
 | .not,.val (.bool b)=>K (.val (.bool !b))
 | _,_=>False
def X1 (lo:Option PV) (K:Nat→Prop):Prop:=
 match lo with
 | none=>K 0
 | some (.val (.int _ l))=>0≤l∧K l.toNat
 | _=>False
def X2 (hi:Option PV) (len:Nat) (K:Nat→Prop):Prop:=
 match hi with
 | none=>K len
 | some (.val (.int _ h))=>0≤h∧h≤len∧K h.toNat
 | _=>False
def a66 (z:Nat) (p:PV) (lo hi:Option PV) (K:PV→Prop):Prop:=
 match p with
 | .val (.str s)=>z=0∧X2 hi s.size fun h=>X1 lo fun l=>l≤h∧K (.val (.str (s.extract l h)))
 | .val (.list sz xs)=>z=sz∧z≠0∧X2 hi xs.length fun h=>X1 lo fun l=>l≤h∧K (.val (.list sz ((xs.take h).drop l)))
 | _=>False
def b2l (a b c d:Int):Int:=let m:=if a < b then b else a;let m:=if m < c then c else m;if m < d then d else m
def J6 (st:St) (op:POp) (K:PV→Prop):Prop:=
 match op with
 | .mov x=>K (ev st x)
 | .pick c a b=>match ev st c with
  | .val (.bool t)=>K (if t then ev st a else ev st b)
  | _=>False
 | .nilck x=>match ev st x with
  | .ptr i o=>K (.ptr i o)
  | .elt i j s o=>K (.elt i j s o)
  | .at cs=>K (.at cs)
  | .fn f cs=>K (.fn f cs)
  | _=>False
 | .bin op x y=>b5c op (ev st x) (ev st y) K
 | .eqb neg x y=>match ev st x,ev st y with
  | .val (.bool a),.val (.bool b)=>K (.val (.bool (if neg then a != b else a == b)))
  | _,_=>False
 | .eqs neg ks x y=>match ev st x,ev st y with
  | .val (.agg as),.val (.agg bs)=>a8a (p5 ks as bs) fun b=>K (.val (.bool (if neg then !b else b)))
  | _,_=>False
 | .un op x=>unS op (ev st x) K
 | .conv k x=>match ev st x with
  | .val (.int _ n)=>K (.val (.int k (k.wrap n)))
  | _=>False
 | .faddr off x=>match ev st x with
  | .ptr i o=>K (.ptr i (o+off))
  | .elt i j s o=>K (.elt i j s (o+off))
  | .at cs=>off < cs.length∧K (.at (cs.drop off))
  | _=>False
 | .fld agg off n x=>match ev st x with
  | .val (.agg cs)=>off+n≤cs.length∧0 < n∧K (.val (if agg then .agg ((cs.drop off).take n) else cs.getD off .nilptr))
  | .agg cs=>off+n≤cs.length∧0 < n∧K (if agg then l4 ((cs.drop off).take n) else cs.getD off .undef)
  | _=>False
 | .load agg n x=>match ev st x with
  | .ptr i o=>match st.mem i with
   | .box cs=>o+n≤cs.length∧0 < n∧K (if agg then l4 ((cs.drop o).take n) else cs.getD o .undef)
   | _=>False
  | .elt i j s o=>match st.mem i with
   | .row E sz xs=>s=sz∧j < xs.length∧0 < n∧o+n≤sz∧K (.val (if agg then .agg (((xs.getD j .nilptr).cells.drop o).take n) else (xs.getD j .nilptr).cells.getD o .nilptr))
   | _=>False
  | .at cs=>n≤cs.length∧0 < n∧K (.val (if agg then .agg (cs.take n) else cs.getD 0 .nilptr))
  | _=>False
 | .iaddr sz x i=>match ev st x,ev st i with
  | .val (.list s xs),.val (.int _ j)=>s=sz∧0≤j∧j < xs.length∧K (.at (xs.getD j.toNat .nilptr).cells)
  | .own id,.val (.int _ j)=>match st.mem id with
   | .row E s xs=>s=sz∧0≤j∧j < xs.length∧K (.elt id j.toNat sz 0)
   | _=>False
  | _,_=>False
 | .idx x i=>match ev st x,ev st i with
  | .val (.str s),.val (.int _ j)=>0≤j∧j < s.size∧K (.val (.int .u8 (a3p s j.toNat)))
  | _,_=>False
 | .slc z x lo hi=>a66 z (ev st x) (lo.map (ev st)) (hi.map (ev st)) K
 | .ext i x=>match ev st x with
  | .tup vs=>i < vs.length∧K (vs.getD i .undef)
  | _=>False
 | .lens x=>match ev st x with
  | .val (.str s)=>K (.val (.int .i64 s.size))
  | _=>False
 | .len x=>match ev st x with
  | .val (.list _ xs)=>K (.val (.int .i64 xs.length))
  | .emp _=>K (.val (.int .i64 0))
  | .own id=>match st.mem id with
   | .row _ _ xs=>K (.val (.int .i64 xs.length))
   | _=>False
  | _=>False
 | .mkfn f caps=>K (.fn f (caps.map (ev st)))
 | .ifc t x=>match ev st x with
  | .val r=>K (.val (.ifc t r))
  | _=>False
 | .tostr x=>match ev st x with
  | .val (.list s xs)=>s=1∧xs.all RV.isU8=true∧K (.val (.str (P5 xs)))
  | .emp _=>K (.val (.str (P5 [])))
  | .own id=>(match st.mem id with
   | .row _ s xs=>s=1∧xs.all RV.isU8=true∧K (.val (.str (P5 xs)))
   | _=>False)
  | _=>False
 | .mn x y=>match ev st x,ev st y with
  | .val (.int k a),.val (.int k' b)=>K (.val (.int k (if b < a then b else a)))
  | _,_=>False
 | .mx x y=>match ev st x,ev st y with
  | .val (.int k a),.val (.int k' b)=>K (.val (.int k (if a < b then b else a)))
  | _,_=>False
 | .mx4 x y z u=>match ev st x,ev st y,ev st z,ev st u with
  | .val (.int k a),.val (.int _ b),.val (.int _ c),.val (.int _ d)=>K (.val (.int k (b2l a b c d)))
  | _,_,_,_=>False
 | _=>False
def a6h (P:Program) (t:TypeId):Option Bool:=match P.underlying t with
 | some (.struct _)=>some true
 | some (.array _ _)=>some true
 | some _=>some false
 | none=>none
def a1u:Option Opd→Option Operand→Bool
 | none,none=>true
 | some x,some y=>i7 x y
 | _,_=>false
def a0h:List Opd→List Operand→Bool
 | [],[]=>true
 | x :: xs,y :: ys=>i7 x y && a0h xs ys
 | _,_=>false
def m8 (P:Program) (o:Oper) (p:POp):Bool:=
 match p with
 | .mov x=>match o.op with
  | .move y=>i7 x y
  | .assign y=>i7 x y
  | _=>false
 | .pick c a b=>match o.op with
  | .pick c' a' b'=>i7 c c' && i7 a a' && i7 b b'
  | _=>false
 | .nilck x=>match o.op with
  | .nilCheck y=>i7 x y
  | _=>false
 | .bin op x y=>match o.op with
  | .binOp op' t x' y' _=>op == op' && i7 x x' && i7 y y' && true
  | _=>false
 | .eqb neg x y=>match o.op with
  | .binOp op' t x' y' _=>op' == (if neg then BinOp.neq else BinOp.eql) && i7 x x' && i7 y y' && (P.underlying t matches some .bool)
  | _=>false
 | .eqs neg ks x y=>match o.op with
  | .binOp op' t x' y' _=>op' == (if neg then BinOp.neq else BinOp.eql) && i7 x x' && i7 y y' && a2o P t ks
  | _=>false
 | .un op x=>match o.op with
  | .unOp op' _ x'=>op == op' && i7 x x'
  | _=>false
 | .conv k x=>match o.op with
  | .convert s d x'=>i7 x x' && (P.underlying s).isSome && (match P.underlying d with | some (.int k')=>k == k' | _=>false)
  | _=>false
 | .faddr off x=>match o.op with
  | .fieldAddr s x' f=>i7 x x' && (match P.underlying s with
   | some (.struct fs)=>(match fs[f]? with | some fd=>fd.offset == off && (match P.info? fd.type with | some i=>i.size != 0 | none=>false) | none=>false)
   | _=>false)
  | _=>false
 | .fld agg off n x=>match o.op with
  | .field s x' f=>i7 x x' && (match P.underlying s with
   | some (.struct fs)=>(match fs[f]? with | some fd=>fd.offset == off && (match P.info? fd.type with | some i=>i.size == n | none=>false) && a6h P fd.type == some agg && (agg || n == 1) | none=>false)
   | _=>false)
  | _=>false
 | .load agg n x=>match o.op with
  | .load t x'=>i7 x x' && (match P.info? t with | some i=>i.size == n | none=>false) && a6h P t == some agg && (agg || n == 1)
  | _=>false
 | .iaddr sz x i=>match o.op with
  | .indexAddr t x' i'=>i7 x x' && i7 i i' && (match P.underlying t with
   | some (.slice e)=>(match P.info? e with | some inf=>inf.size == sz | none=>false)
   | _=>false)
  | _=>false
 | .idx x i=>match o.op with
  | .index t x' i'=>i7 x x' && i7 i i' && (P.underlying t matches some .string)
  | _=>false
 | .slc z x lo hi=>match o.op with
  | .slice t x' lo' hi' mx=>i7 x x' && a1u lo lo' && a1u hi hi' && mx.isNone && (match P.underlying t with
   | some (.slice e)=>z != 0 && (match P.info? e with | some i=>i.size == z | none=>false)
   | some .string=>z == 0
   | _=>false)
  | _=>false
 | .ext i x=>match o.op with
  | .extract x' i'=>i7 x x' && i == i'
  | _=>false
 | .len x=>match o.op with
  | .call { callee:=.builtin .len,args,argTypes }=>(match args.toList,argTypes.toList with
   | [x'],[t]=>i7 x x' && (P.underlying t matches some (.slice _))
   | _,_=>false)
  | _=>false
 | .lens x=>match o.op with
  | .call { callee:=.builtin .len,args,argTypes }=>(match args.toList,argTypes.toList with
   | [x'],[t]=>i7 x x' && (P.underlying t matches some .string)
   | _,_=>false)
  | _=>false
 | .mkfn f caps=>match o.op with
  | .makeFunc (.func f') first captured=>f == f' && first.toList.isEmpty && a0h caps captured.toList
  | _=>false
 | .tostr x=>match o.op with
  | .convert s d x'=>i7 x x' && (match P.underlying s,P.underlying d with
   | some (.slice e),some .string=>(match P.underlying e with | some (.int k)=>k == .u8 | _=>false)
   | _,_=>false)
  | _=>false
 | .ifc t x=>match o.op with
  | .makeInterface t' x'=>t == t' && i7 x x' && P.concrete t
  | _=>false
 | .mn x y=>match o.op with
  | .call { callee:=.builtin .min,args,argTypes }=>(match args.toList with
   | [x',y']=>i7 x x' && i7 y y'
   | _=>false)
  | _=>false
 | .mx x y=>match o.op with
  | .call { callee:=.builtin .max,args,argTypes }=>(match args.toList with
   | [x',y']=>i7 x x' && i7 y y'
   | _=>false)
  | _=>false
 | .mx4 x y z u=>match o.op with
  | .call { callee:=.builtin .max,args,argTypes }=>(match args.toList with
   | [x',y',z',u']=>i7 x x' && i7 y y' && (i7 z z' && i7 u u')
   | _=>false)
  | _=>false
 | _=>false
end Go.PW
