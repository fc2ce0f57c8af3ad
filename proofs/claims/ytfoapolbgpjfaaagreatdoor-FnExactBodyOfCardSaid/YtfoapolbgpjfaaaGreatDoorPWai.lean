/- The caller's side of a call that is handed objects under names of a list, returning or panicking; ends of such functions. -/
import Derived.Test.YtfoapolbgpjfaaaGreatDoorPWah
set_option linter.unusedSectionVars false
set_option linter.unusedSimpArgs false
set_option linter.unusedVariables false
set_option maxRecDepth 100000
namespace Go.PW
variable [GF]
open Go.RowKit
def alF:List (Nat×Nat)→Nat→Option Nat
 | [],_=>none
 | (a,b) :: l,i=>if i=a then some b else alF l i
def alB:List (Nat×Nat)→Nat→Option Nat
 | [],_=>none
 | (a,b) :: l,x=>if x=b then some a else alB l x
def ioA (l:List (Nat×Nat)) (i:Nat):Nat:=(alF l i).getD (1000000000+i)
def koA (l:List (Nat×Nat)) (x:Nat):Option Nat:=match alB l x with
 | some i=>some i
 | none=>if 1000000000≤x∧alF l (x - 1000000000)=none then some (x - 1000000000) else none
abbrev kilA (l:List (Nat×Nat)) (pin:Nat→Bool):Nat→Bool:=a1r (koA l) pin
abbrev memA (st:St) (l:List (Nat×Nat)) (pin:Nat→Bool) (M':Nat→MObj):Nat→MObj:=a4p st (koA l) pin (ioA l) M'
@[simp] theorem memK_ret {p:PV} {st:St} {K:PV→St→Prop} {kx:RV→St→Prop}:memK false p st K kx=K p st:=rfl
@[simp] theorem FinX_ret {res pin out M' pn st}:FinX res pin out M' pn .ret st=(pn=false∧∃ st',Le st st'∧∃ ι:Nat→Nat,J8 res st'=some (out.ren ι)∧Named pin M' ι st'):=rfl
@[simp] theorem FinX_normal {res pin out M' pn st}:FinX res pin out M' pn .normal st=(pn=false∧∃ st',Le st st'∧∃ ι:Nat→Nat,J8 res st'=some (out.ren ι)∧Named pin M' ι st'):=rfl
@[simp] theorem FinX_pan {res pin out M' pn st r}:FinX res pin out M' pn (.pan r) st=(pn=true∧(∀ ι,out.ren ι=.val r)∧∃ ι:Nat→Nat,Named pin M' ι st):=rfl
mutual
theorem PV.ren_id:∀ p:PV,p.ren (fun i=>i)=p
 | .own i=>rfl
 | .ptr i o=>rfl
 | .elt i j s o=>rfl
 | .agg cs=>by simp [PV.ren,PV.renL_id cs]
 | .tup cs=>by simp [PV.ren,PV.renL_id cs]
 | .fn f cs=>by simp [PV.ren,PV.renL_id cs]
 | .undef=>rfl
 | .skip=>rfl
 | .val r=>rfl
 | .emp s=>rfl
 | .at cs=>rfl
theorem PV.renL_id:∀ ps:List PV,PV.renL (fun i=>i) ps=ps
 | []=>rfl
 | p :: ps=>by simp [PV.renL,PV.ren_id p,PV.renL_id ps]
end
theorem MObj.ren_id (m:MObj):m.ren (fun i=>i)=m:=by
 cases m with
 | dead=>rfl
 | box cs=>simp [MObj.ren,PV.renL_id]
 | row E sz xs=>rfl
 | prow E sz n c=>simp [MObj.ren,PV.ren_id]
 | map s clk m=>
  simp only [MObj.ren,PV.ren_id]
  congr 1
  funext k
  cases m k<;>rfl
theorem Named.same {pin:Nat→Bool} {M':Nat→MObj} {st:St} (h1:∀ j,(M' j).live=true→st.mem j=M' j) (h2:∀ j,pin j=true→(M' j).live=true):Named pin M' (fun i=>i) st:=
 ⟨fun i j _ _ h=>h,fun j hj=>by rw [MObj.ren_id];exact h1 j hj,fun j _=>.inl rfl,fun j hj=>⟨rfl,h2 j hj⟩⟩
theorem Le.adoptBox {st:St} (b d E sz:Nat) (cs cs':List PV) (hsz:0 < sz) (h9:R4 d) (hbd:b≠d) (hb:st.mem b=.box cs) (hl:cs'.length=cs.length) (h:∀ j,j < cs.length→Ad d (cs.getD j .undef) (cs'.getD j .undef)) :
 Le st ⟨fun x=>(st.env x).kill (· == d),upd d (.row E sz []) (upd b (.box cs') fun i=>(st.mem i).kill (· == d))⟩:=by
 refine Le.adopt d E sz h9 hsz (by simp [upd]) (fun x=>.kill _) (fun i hi=>?_)
 by_cases hib:i=b
 · subst hib
   exact .inr ⟨cs,cs',hb,by simp [upd,hbd],hl,h⟩
 · exact .inl (by simp [upd,hi,hib])
theorem a6f {P:Program} {st:St} {Ke:Kx (PV→St→Prop)} {kx:Kx (RV→St→Prop)} {d f ps as E1 z1 xs1 E2 z2 xs2} {p:PV} (ha:a0z st.mem ps=some as) (hb:boxIds ps=[]) (hl:p.ownLt 2=true) (hr:ps.all PV.noOwn=true)
 (h:f9 P f as (.ret p [⟨E1,z1,xs1⟩,⟨E2,z2,xs2⟩]) [])
 (hK:Ke.k (p.shift (l1 d)) ⟨fun x=>(st.env x).kill (fun i=>l1 d≤i && i < l1 d+2),upd (l1 d) (.row E1 z1 xs1) (upd (l1 d+1) (.row E2 z2 xs2) fun x=>if (l1 d≤x && x < l1 d+2) then .dead else (st.mem x).kill (fun i=>l1 d≤i && i < l1 d+2))⟩):KC P st d f ps (Ke:=Ke) (kx:=kx):=by
 unfold KC
 refine .inl ?_
 unfold a4z
 rw [ha]
 refine ⟨by rw [hb];exact List.nodup_nil,by rw [hb];rfl,_,_,h,by rw [hb];rfl,hl,.inl hr,?_⟩
 rw [hb]
 exact hK
def b3q (res:List Rs) (mk:Nat→Nat→PV) (r1 r2:Row):PExit→St→Prop
 | .normal,st=>∃ st',Le st st'∧∃ a b,a≠b∧J8 res st'=some (mk a b)∧st'.mem a=.row r1.E r1.sz r1.xs∧st'.mem b=.row r2.E r2.sz r2.xs
 | .ret,st=>∃ st',Le st st'∧∃ a b,a≠b∧J8 res st'=some (mk a b)∧st'.mem a=.row r1.E r1.sz r1.xs∧st'.mem b=.row r2.E r2.sz r2.xs
 | _,_=>False
@[simp] theorem RetR2_ret {res mk r1 r2} {st:St}:b3q res mk r1 r2 .ret st=∃ st',Le st st'∧∃ a b,a≠b∧J8 res st'=some (mk a b)∧st'.mem a=.row r1.E r1.sz r1.xs∧st'.mem b=.row r2.E r2.sz r2.xs:=rfl
@[simp] theorem RetR2_normal {res mk r1 r2} {st:St}:b3q res mk r1 r2 .normal st=∃ st',Le st st'∧∃ a b,a≠b∧J8 res st'=some (mk a b)∧st'.mem a=.row r1.E r1.sz r1.xs∧st'.mem b=.row r2.E r2.sz r2.xs:=rfl
theorem b3d {P:Program} {f:Nat} {c:PC} {res:List Rs} {as:List AV} {mk:Nat→Nat→PV} {r1 r2:Row} (hm:P.follows .mixedOrders=true) (hc:j8 P f c as.length res=true) (hb:d7 as=[]) (hmk:∀ ι:Nat→Nat,(mk 0 1).ren ι=mk (ι 0) (ι 1))
 (h:P9 P c (f7 as) (b3q res mk r1 r2)):f9 P f as (.ret (mk 0 1) [r1,r2]) []:=by
 refine b58 hm hc (K8 (fun e s hh=>?_) h)
 have key:(∃ st',Le s st'∧∃ a b,a≠b∧J8 res st'=some (mk a b)∧st'.mem a=.row r1.E r1.sz r1.xs∧st'.mem b=.row r2.E r2.sz r2.xs)→∃ st',Le s st'∧b5g res (d7 as).length (.ret (mk 0 1) [r1,r2]) [] .ret st':=fun ⟨s',hle,a,b,hab,h1,h2,h3⟩=>
  ⟨s',hle,(by rw [hb]),⟨⟨fun i=>if i=0 then a else b,by rw [hmk];exact h1,fun i j hi hj hij=>by
   simp at hi hj
   by_cases h0:i=0
   · by_cases h0':j=0
     · omega
     · simp [h0,h0'] at hij;exact absurd hij hab
   · by_cases h0':j=0
     · simp [h0,h0'] at hij;exact absurd hij.symm hab
     · omega,fun i r hr=>by
   have hi:=(List.getElem?_eq_some_iff.1 hr).1
   simp at hi
   by_cases h0:i=0
   · subst h0;simp at hr;subst hr;exact h2
   · have:i=1:=by omega
     subst this;simp at hr;subst hr;exact h3⟩,trivial⟩⟩
 cases e with
 | normal=>exact key hh
 | ret=>exact key hh
 | exit id=>exact hh.elim
 | pan r=>exact hh.elim
end Go.PW
