/- The operations that make or change memory, and calls: what each comes to. -/
import Derived.Test.YtfoapolbgpjfaaaGreatDoorPWf
set_option linter.unusedSectionVars false
set_option linter.unusedSimpArgs false
set_option linter.unusedVariables false
namespace Go.PW
variable [GF]
open Go.RowKit
def RV.one:RV→Bool
 | .agg _=>false
 | _=>true
def PV.one (M:Nat→MObj):PV→Bool
 | .val r=>r.one
 | .emp _=>true
 | .own id=>(match M id with | .row ..=>true | .prow ..=>true | .map ..=>true | _=>false)
 | .ptr ..=>true
 | .elt ..=>true
 | .at _=>true
 | .fn ..=>true
 | _=>false
def PV.solid (M:Nat→MObj):PV→Bool
 | .val (.agg cs)=>cs.all RV.one
 | .agg cs=>cs.all (PV.one M)
 | p=>p.one M
def l0 {α:Type} (cs:List α) (off:Nat) (ps:List α):List α:=cs.take off++ps++cs.drop (off+ps.length)
def PV.rv? (M:Nat→MObj):PV→Option RV
 | .val r=>some r
 | .emp sz=>some (.list sz [])
 | .own id=>(match M id with | .row _ sz xs=>some (.list sz xs) | _=>none)
 | _=>none
def b3w (M:Nat→MObj):List PV→Option (List RV)
 | []=>some []
 | p :: ps=>match p.rv? M,b3w M ps with
  | some r,some rs=>some (r :: rs)
  | _,_=>none
def o9:List PV→Option (List RV)
 | []=>some []
 | .val r :: ps=>(o9 ps).map (r :: ·)
 | .emp sz :: ps=>(o9 ps).map (.list sz [] :: ·)
 | _ :: _=>none
def RV.ofCells (like:RV) (cs:List RV):RV:=match like with
 | .agg _=>.agg cs
 | _=>cs.getD 0 .nilptr
def avOf (M:Nat→MObj):PV→Option AV
 | .val r=>some (.val r)
 | .emp sz=>some (.val (.list sz []))
 | .own id=>(match M id with | .row _ sz xs=>some (.val (.list sz xs)) | _=>none)
 | .agg cs=>(b3w M cs).map fun rs=>.val (.agg rs)
 | .ptr id 0=>(match M id with | .box cs=>(o9 cs).map .box | _=>none)
 | .fn f caps=>(match go caps with | some as=>some (.fn f as) | none=>none)
 | _=>none
where
 go:List PV→Option (List AV)
 | []=>some []
 | .val r :: ps=>(go ps).map (.val r :: ·)
 | .ptr id 0 :: ps=>(match M id with | .box cs=>(match o9 cs,go ps with | some rs,some as=>some (.box rs :: as) | _,_=>none) | _=>none)
 | _ :: _=>none
def a0z (M:Nat→MObj):List PV→Option (List AV)
 | []=>some []
 | p :: ps=>match avOf M p,a0z M ps with
  | some a,some as=>some (a :: as)
  | _,_=>none
def PV.boxIds:PV→List Nat
 | .ptr id _=>[id]
 | .fn _ caps=>go caps
 | _=>[]
where
 go:List PV→List Nat
 | []=>[]
 | .ptr id _ :: ps=>id :: go ps
 | _ :: ps=>go ps
def boxIds:List PV→List Nat
 | []=>[]
 | p :: ps=>p.boxIds++boxIds ps
def PV.noOwn:PV→Bool
 | .own _=>false
 | .agg cs=>cs.all fun | .own _=>false | _=>true
 | _=>true
def RV.flat:RV→Bool
 | .agg cs=>go cs
 | .list _ xs=>xs.isEmpty
 | .ifc _ r=>r.flat
 | _=>true
where
 go:List RV→Bool
 | []=>true
 | r :: rs=>r.flat && go rs
def PV.flat:PV→Bool
 | .val r=>r.flat
 | .emp _=>true
 | .own _=>true
 | .agg cs=>go cs
 | .tup cs=>go cs
 | _=>false
where
 go:List PV→Bool
 | []=>true
 | .val r :: ps=>r.flat && go ps
 | .emp _ :: ps=>go ps
 | .own _ :: ps=>go ps
 | .agg cs :: ps=>go cs && go ps
 | _ :: _=>false
def b25 (rows:List Row):Prop:=∀ r∈rows,∀ x∈r.xs,x.flat=true
mutual
def PV.shift (base:Nat):PV→PV
 | .own i=>.own (base+i)
 | .agg cs=>.agg (PV.shiftL base cs)
 | .tup cs=>.tup (PV.shiftL base cs)
 | .fn f cs=>.fn f (PV.shiftL base cs)
 | .undef=>.undef
 | .skip=>.skip
 | .val r=>.val r
 | .emp s=>.emp s
 | .at cs=>.at cs
 | .ptr _ _=>.undef
 | .elt _ _ _ _=>.undef
def PV.shiftL (base:Nat):List PV→List PV
 | []=>[]
 | p :: ps=>p.shift base :: PV.shiftL base ps
end
mutual
def PV.ownLt (n:Nat):PV→Bool
 | .own i=>decide (i < n)
 | .agg cs=>PV.ownLtL n cs
 | .tup cs=>PV.ownLtL n cs
 | .fn _ cs=>PV.ownLtL n cs
 | _=>true
def PV.ownLtL (n:Nat):List PV→Bool
 | []=>true
 | p :: ps=>p.ownLt n && PV.ownLtL n ps
end
def K9 (M:Nat→MObj):List Nat→List (List RV)→(Nat→MObj)
 | id :: ids,b :: bs=>K9 (upd id (.box (b.map .val)) M) ids bs
 | _,_=>M
def a00 (M:Nat→MObj) (base:Nat):List Row→(Nat→MObj)
 | []=>M
 | r :: rs=>upd base (.row r.E r.sz r.xs) (a00 M (base+1) rs)
def l1 (d:Nat):Nat:=1000*(d+1)
def a1r (κ:Nat→Option Nat) (pin:Nat→Bool) (x:Nat):Bool:=match κ x with
 | some i=>!pin i
 | none=>false
def a4p (st:St) (κ:Nat→Option Nat) (pin:Nat→Bool) (ι:Nat→Nat) (M':Nat→MObj) (x:Nat):MObj:=match κ x with
 | some i=>(M' i).ren ι
 | none=>(st.mem x).kill (a1r κ pin)
def memK (pn:Bool) (p:PV) (st:St) (K:PV→St→Prop) (kx:RV→St→Prop):Prop:=match pn with
 | false=>K p st
 | true=>∃ r,p=.val r∧kx r st
theorem b6t {pn:Bool} {p:PV} {st:St} {K K':PV→St→Prop} {kx kx':RV→St→Prop} (hK:∀ p s,K p s→K' p s) (hx:∀ r s,kx r s→kx' r s) (h:memK pn p st K kx):memK pn p st K' kx':=by
 cases pn with
 | false=>exact hK _ _ h
 | true=>obtain ⟨r,h1,h2⟩:=h;exact ⟨r,h1,hx _ _ h2⟩
def callM (P:Program) (st:St) (f:Nat) (ps:List PV) (K:PV→St→Prop) (kx:RV→St→Prop):Prop:=
 ∃ (ps0:List PV) (M M':Nat→MObj) (pin:Nat→Bool) (out:PV) (ι:Nat→Nat) (κ:Nat→Option Nat) (pn:Bool),ps=ps0.map (PV.ren ι)∧(∀ i,κ (ι i)=some i)∧(∀ x i,κ x=some i→x=ι i) ∧
  (∀ i,(M i).live=true→st.mem (ι i)=(M i).ren ι)∧(∀ i,900≤ι i→ι i < 1000→pin i=true∧(M i).live=true)∧(∀ i cs,M' i=.box cs→ι i < 1000)∧(∀ i,(M i).live=true→(M' i).live=true→(M' i).kind=(M i).kind) ∧
  a5r P f ps0 M pin out M' pn ∧
  memK pn (out.ren ι) ⟨fun x=>(st.env x).kill (a1r κ pin),a4p st κ pin ι M'⟩ K kx
def a4z (P:Program) (st:St) (d:Nat) (f:Nat) (ps:List PV) (K:PV→St→Prop) (kx:RV→St→Prop):Prop:=
 match a0z st.mem ps with
 | none=>False
 | some as=>(boxIds ps).Nodup∧(boxIds ps).all (· < l1 d)=true∧∃ out bs,f9 P f as out bs∧bs.length=(boxIds ps).length ∧
  match out with
  | .ret p rows=>p.ownLt rows.length=true∧(ps.all PV.noOwn=true∨(p.flat=true∧b25 rows∧∀ b∈bs,∀ r∈b,r.flat=true)) ∧
   (let st':=st.kill fun i=>l1 d≤i && i < l1 d+rows.length
    K (p.shift (l1 d)) { st' with mem:=a00 (K9 st'.mem (boxIds ps) bs) (l1 d) rows })
  | .pan r=>r.flat=true∧(∀ b∈bs,∀ r∈b,r.flat=true)∧kx r { st with mem:=K9 st.mem (boxIds ps) bs }
def a3o (P:Program) (st:St) (d:Nat) (f:Nat) (ps:List PV) (K:PV→St→Prop) (kx:RV→St→Prop):Prop:=a4z P st d f ps K kx∨callM P st f ps K kx
mutual
def PV.nm (n:Nat):PV→PV
 | .own _=>.own n
 | .ptr _ o=>.ptr n o
 | .elt _ j s o=>.elt n j s o
 | .agg cs=>.agg (PV.nmL n cs)
 | .tup cs=>.tup (PV.nmL n cs)
 | .fn f cs=>.fn f (PV.nmL n cs)
 | .undef=>.undef
 | .skip=>.skip
 | .val r=>.val r
 | .emp s=>.emp s
 | .at cs=>.at cs
def PV.nmL (n:Nat):List PV→List PV
 | []=>[]
 | p :: ps=>p.nm n :: PV.nmL n ps
end
theorem PV.nmL_map (n:Nat) (ps:List PV):PV.nmL n ps=ps.map (PV.nm n):=by
 induction ps with
 | nil=>rfl
 | cons p ps ih=>simp [PV.nmL,ih]
theorem PV.nmL_length (n:Nat) (ps:List PV):(PV.nmL n ps).length=ps.length:=by simp [PV.nmL_map]
theorem PV.nmL_getD (n:Nat) (ps:List PV) (i:Nat) (h:i < ps.length):(PV.nmL n ps).getD i .undef=(ps.getD i .undef).nm n:=by
 simp [PV.nmL_map,List.getD_eq_getElem?_getD,List.getElem?_map,List.getElem?_eq_getElem h]
def PV.pl1 (id:Nat):PV→Bool
 | .val _=>true
 | .emp _=>true
 | .own i=>i == id
 | _=>false
def PV.plain1 (id:Nat):PV→Bool
 | .own i=>i == id
 | .agg cs=>cs.all (PV.pl1 id)
 | _=>false
def a48:List PV→Option Nat
 | []=>none
 | .own i :: _=>some i
 | _ :: cs=>a48 cs
def PV.rowId:PV→Option Nat
 | .own i=>some i
 | .agg cs=>a48 cs
 | _=>none
def b3x (P:Program) (st:St) (f id:Nat) (q:PV) (E sz:Nat) (rs:List RV) (ps:List PV) (K:PV→St→Prop):Prop:=
 match a0z st.mem ps with
 | none=>False
 | some as=>q.plain1 id=true∧boxIds ps=[]∧ps.all PV.noOwn=true∧∃ out rs',a5q P f (q.nm 0) E sz rs as out rs'∧out.flat=true∧K (.val out) { st with mem:=upd id (.row E sz rs') st.mem }
def a0o (st:St):List PV→List (Nat×Nat×Opd)→(List PV→Prop)→Prop
 | cs,[],K=>K cs
 | cs,(off,n,x) :: ps,K=>(ev st x).solid st.mem=true∧(ev st x).cells.length=n∧off+n≤cs.length∧a0o st (l0 cs off (ev st x).cells) ps K
def elems (st:St) (sz:Nat):List Opd→Option (List RV)
 | []=>some []
 | x :: xs=>match ev st x,elems st sz xs with
  | .val r,some rs=>if r.cells.length=sz∧r.cells.all RV.one=true then some (r :: rs) else none
  | .agg cs,some rs=>(match o9 cs with
   | some us=>if us.length=sz∧us.all RV.one=true then some (.agg us :: rs) else none
   | none=>none)
  | _,_=>none
def fnB (P:Program) (f:Nat):Bool:=match P.funcs[f]? with
 | some fn=>fn.name != "runtime.NumGoroutine" && fn.body.isSome
 | none=>false
def R4 (i:Nat):Prop:=i < 900∨1000≤i
def PV.key?:PV→Option MKey
 | .val (.int .i64 n)=>some (.i n)
 | .val (.str t)=>some (.s t)
 | _=>none
def a1m (m:MKey→Option (PV×Nat)) (k:MKey) (v:PV) (b:Nat):MKey→Option (PV×Nat):=fun k'=>if k'=k then some (v,b) else m k'
def l2 (st:St) (d:Nat) (o:XOp) (K:PV→St→Prop):Prop:=
 match o with
 | .mkmap s=>K (.own d) { env:=fun x=>(st.env x).kill (· == d),mem:=upd d (.map s 0 fun _=>none) fun x=>(st.mem x).kill (· == d) }
 | .mlook s ok z x k=>match ev st x,(ev st k).key? with
  | .own id,some key=>(match st.mem id with
   | .map s' _ m=>s'=s∧key.isS=s∧(match m key with
    | some p=>K (if ok then .tup [p.1,.val (.bool true)] else p.1) st
    | none=>K (if ok then .tup [z,.val (.bool false)] else z) st)
   | _=>False)
  | _,_=>False
 | .mupd s x k v=>match ev st x,(ev st k).key? with
  | .own id,some key=>(match st.mem id with
   | .map s' clk m=>s'=s∧key.isS=s∧(ev st v).one st.mem=true∧(match m key with
    | some p=>K .skip { st with mem:=upd id (.map s clk (a1m m key (ev st v) p.2)) st.mem }
    | none=>K .skip { st with mem:=upd id (.map s (clk+1) (a1m m key (ev st v) clk)) st.mem })
   | _=>False)
  | _,_=>False
 | .ment s z x k=>match ev st x,(ev st k).key? with
  | .own id,some key=>(match st.mem id with
   | .map s' clk m=>s'=s∧key.isS=s∧(match m key with
    | some p=>K (.tup [p.1,.val (.int .i64 p.2)]) st
    | none=>K (.tup [z,.val (.int .i64 clk)]) { st with mem:=upd id (.map s (clk+1) (a1m m key z clk)) st.mem })
   | _=>False)
  | _,_=>False
 | .mest x b v=>match ev st x,ev st b with
  | .own id,.val (.int .i64 n)=>(match st.mem id with
   | .map s clk m=>(ev st v).one st.mem=true∧∃ key p,m key=some p∧(p.2:Int)=n∧K .skip { st with mem:=upd id (.map s clk (a1m m key (ev st v) p.2)) st.mem }
   | _=>False)
  | _,_=>False
 | .plit E sz x=>(ev st x).solid st.mem=true∧(ev st x).cells.length=sz ∧
  K (.own d) { env:=fun x=>(st.env x).kill (· == d),mem:=upd d (.prow E sz 1 fun _ k=>((ev st x).cells.getD k .undef).kill (· == d)) fun x=>(st.mem x).kill (· == d) }
 | .papp E sz bytes x y=>match ev st y with
  | .own iy=>(match st.mem iy with
   | .prow _ sy ny cy=>sy=sz∧(match ev st x with
    | .own id=>(match st.mem id with
     | .prow E' sz' n c=>R4 id∧iy≠id∧E'=E∧sz'=sz∧(n+ny)*bytes≤140737488355328∧n+ny≤9223372036854775807 ∧
      K (.own id) { env:=fun x=>(st.env x).kill (· == id),mem:=upd id (.prow E sz (n+ny) fun j k=>(if j < n then c j k else cy (j - n) k).kill (· == id)) fun x=>(st.mem x).kill (· == id) }
     | _=>False)
    | .emp _=>ny*bytes≤140737488355328∧ny≤9223372036854775807 ∧
     K (.own d) { env:=fun x=>(st.env x).kill (· == d),mem:=upd d (.prow E sz ny fun j k=>(cy j k).kill (· == d)) fun x=>(st.mem x).kill (· == d) }
    | _=>False)
   | _=>False)
  | _=>False
 | .plen x=>match ev st x with
  | .own id=>(match st.mem id with
   | .prow _ _ n _=>K (.val (.int .i64 n)) st
   | _=>False)
  | _=>False
 | .piaddr sz x i=>match ev st x,ev st i with
  | .own id,.val (.int _ j)=>(match st.mem id with
   | .prow _ s n _=>s=sz∧0≤j∧j < n∧K (.elt id j.toNat sz 0) st
   | _=>False)
  | _,_=>False
 | .pload agg n x=>match ev st x with
  | .elt id j s o=>(match st.mem id with
   | .prow _ sz nn c=>s=sz∧j < nn∧0 < n∧o+n≤sz∧K (if agg then l4 ((List.range n).map fun k=>c j (o+k)) else c j o) st
   | _=>False)
  | _=>False
 | .pstore n a x=>(ev st x).cells.length=n∧match ev st a with
  | .elt id j s o=>(match st.mem id with
   | .prow E sz nn c=>s=sz∧j < nn∧(ev st x).solid st.mem=true∧o+n≤sz ∧
    K .skip { st with mem:=upd id (.prow E sz nn fun j' k=>if j'=j∧o≤k∧k < o+n then (ev st x).cells.getD (k - o) .undef else c j' k) st.mem }
   | _=>False)
  | _=>False
def P6 (P:Program) (st:St) (d:Nat) (op:POp) (K:PV→St→Prop) (kx:RV→St→Prop):Prop:=
 match op with
 | .alloc z=>K (.ptr d 0) { env:=fun x=>(st.env x).kill (· == d),mem:=upd d (.box z) fun x=>(st.mem x).kill (· == d) }
 | .box x=>(ev st x).solid st.mem=true∧(PV.killL (· == d) (ev st x).cells=(ev st x).cells) ∧
  K (.ptr d 0) { env:=fun x=>(st.env x).kill (· == d),mem:=upd d (.box (ev st x).cells) fun x=>(st.mem x).kill (· == d) }
 | .build z parts=>a0o st z parts fun cs=>K (l4 cs) st
 | .lit E sz xs=>match elems st sz xs with
  | some rs=>K (.own d) { env:=fun x=>(st.env x).kill (· == d),mem:=upd d (.row E sz rs) fun x=>(st.mem x).kill (· == d) }
  | none=>False
 | .store n a x=>(ev st x).cells.length=n∧match ev st a with
  | .ptr id off=>(match st.mem id with
   | .box cs=>(ev st x).solid st.mem=true∧off+(ev st x).cells.length≤cs.length∧K .skip { st with mem:=upd id (.box (l0 cs off (ev st x).cells)) st.mem }
   | _=>False)
  | .elt id j s off=>(match st.mem id with
   | .row E sz xs=>(match o9 (ev st x).cells with
    | some rs=>s=sz∧j < xs.length∧(ev st x).solid st.mem=true∧off+rs.length≤sz ∧
     K .skip { st with mem:=upd id (.row E sz (xs.set j ((xs.getD j .nilptr).ofCells (l0 (xs.getD j .nilptr).cells off rs)))) st.mem }
    | none=>False)
   | _=>False)
  | _=>False
 | .app E sz bytes x y=>
  let add:=match ev st y with
   | .val (.list s ys)=>if s=sz∨ys=[] then some ys else none
   | .emp _=>some []
   | .own id=>(match st.mem id with | .row _ s ys=>if s=sz then some ys else none | _=>none)
   | _=>none
  match add with
  | none=>False
  | some ys=>(∀ y'∈ys,y'.cells.all RV.one=true)∧match ev st x with
   | .own id=>(match st.mem id with
    | .row E' sz' xs=>R4 id∧ev st y≠.own id∧E'=E∧sz'=sz∧(xs.length+ys.length)*bytes≤140737488355328∧xs.length+ys.length≤9223372036854775807 ∧
     K (.own id) { env:=fun x=>(st.env x).kill (· == id),mem:=upd id (.row E sz (xs++ys)) fun x=>(st.mem x).kill (· == id) }
    | _=>False)
   | .emp _=>ys.length*bytes≤140737488355328∧ys.length≤9223372036854775807 ∧
    K (.own d) { env:=fun x=>(st.env x).kill (· == d),mem:=upd d (.row E sz ys) fun x=>(st.mem x).kill (· == d) }
   | _=>False
 | .call f xs=>a3o P st d f (xs.map (ev st)) K kx
 | .callv x xs=>match ev st x with
  | .fn f caps=>fnB P f=true∧a3o P st d f (xs.map (ev st)++caps) K kx
  | _=>False
 | .callr f x xs=>match (ev st x).rowId with
  | some id=>(match st.mem id with
   | .row E sz rs=>b3x P st f id (ev st x) E sz rs (xs.map (ev st)) K
   | _=>False)
  | none=>a3o P st d f (ev st x :: xs.map (ev st)) K kx
 | .pan x=>match ev st x with
  | .val (.ifc t r)=>kx (.ifc t r) st
  | _=>False
 | .mks E sz bytes agg z x=>match ev st x,o9 z with
  | .val (.int _ n),some zs=>0≤n∧bytes*n.toNat≤281474976710656∧n.toNat≤9223372036854775807 ∧
   K (.own d) { env:=fun x=>(st.env x).kill (· == d),mem:=upd d (.row E sz (List.replicate n.toNat (if agg then .agg zs else zs.getD 0 .nilptr))) fun x=>(st.mem x).kill (· == d) }
  | _,_=>False
 | .isnil iface neg x=>match iface,ev st x with
  | true,.val .nilif=>K (.val (.bool !neg)) st
  | true,.val (.ifc _ _)=>K (.val (.bool neg)) st
  | false,.emp _=>K (.val (.bool !neg)) st
  | false,.val (.list _ xs)=>(xs=[]→K (.val (.bool !neg)) st)∧K (.val (.bool neg)) st
  | false,.own id=>(match st.mem id with
   | .row _ _ xs=>(xs=[]→K (.val (.bool !neg)) st)∧K (.val (.bool neg)) st
   | _=>False)
  | _,_=>False
 | .xop o=>l2 st d o K
 | op=>J6 st op fun p=>K p st
end Go.PW
