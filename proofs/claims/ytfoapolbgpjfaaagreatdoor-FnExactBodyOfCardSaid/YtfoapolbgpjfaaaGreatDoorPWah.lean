/- A range over a map of numbers, as a node beside PC: is there an entry above c? -/
import Derived.Test.YtfoapolbgpjfaaaGreatDoorPWag
import Derived.Maps.RangeRun
set_option linter.unusedSectionVars false
set_option linter.unusedSimpArgs false
set_option linter.unusedVariables false
set_option maxRecDepth 100000
namespace Go.PW
variable [GF]
open Go.RowKit
open Go.ChangeMaps (setBlock)
structure RngN where
 m:Nat
 it:Nat
 nx:Nat
 ok:Nat
 en:Nat
 ev:Nat
 v:Nat
 m2:Nat
 c2:Nat
 x:Opd
 c:Int
def RngN.sl (r:RngN):List Nat:=[r.m,r.it,r.nx,r.ok,r.en,r.ev,r.v,r.m2,r.c2]
def f1 (x:Opd):Op→Bool
 | .move y=>i7 x y
 | _=>false
def f2 (P:Program) (m:Nat):Op→Bool
 | .range t (.tmp m')=>m' == m && b09 P t false none
 | _=>false
def f3 (it:Nat):Op→Bool
 | .next (.tmp it') false=>it' == it
 | _=>false
def f4 (nx i:Nat):Op→Bool
 | .extract (.tmp nx') i'=>nx' == nx && i' == i
 | _=>false
def RngN.out (r:RngN) (st:St):St:=⟨fun x=>if r.sl.contains x then .undef else st.env x,st.mem⟩
def evalRng (P:Program) (r:RngN) (thn:PC) (st:St) (K:PExit→St→Prop):Prop:=
 ∃ id clk m,ev st r.x=.own id∧st.mem id=.map false clk m∧(∀ k p b,m k=some (p,b)→∃ z,p=.val (.int .i64 z)) ∧
  (∀ k z b,m k=some (.val (.int .i64 z),b)→r.c < z→P9 P thn (r.out st) fun e s=>e=.ret∧K .ret s)∧((∀ k z b,m k=some (.val (.int .i64 z),b)→¬ r.c < z)→K .normal (r.out st))
section
variable {P:Program} {F:Ctx} {γ:Nat→Value} {st:St} {a:Act} {w:World} {K:Act→World→Prop} {Q:Exit→Act→World→Prop}
end
inductive PX where
 | pc (c:PC)
 | seq (a:PC) (b:PX)
 | rng (r:RngN) (thn:PC) (b:PX)
def b44 (P:Program):PX→St→(PExit→St→Prop)→Prop
 | .pc c,st,K=>P9 P c st K
 | .seq a b,st,K=>P9 P a st fun e st'=>e.then st' (fun st'=>b44 P b st' K) K
 | .rng r thn b,st,K=>evalRng P r thn st fun e st'=>e.then st' (fun st'=>b44 P b st' K) K
def EPX (P:Program) (c:PX) (st:St) [K:Kx (PExit→St→Prop)]:Prop:=b44 P c st K.k
section
variable {P:Program} {st:St} {K:Kx (PExit→St→Prop)}
@[simp] theorem EPX_pc {c:PC}:EPX P (.pc c) st (K:=K)=EC P c st (K:=K):=by rfl
@[simp] theorem EPX_seq {a:PC} {b:PX}:EPX P (.seq a b) st (K:=K)=EC P a st (K:=⟨fun e st'=>ET e st' (Ks:=⟨fun st'=>EPX P b st' (K:=K)⟩) (K:=K)⟩):=by rfl
end
end Go.PW
