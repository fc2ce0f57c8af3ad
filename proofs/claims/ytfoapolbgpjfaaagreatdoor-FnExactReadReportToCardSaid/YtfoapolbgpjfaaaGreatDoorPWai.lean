/- The caller's side of a call that is handed objects under names of a list, returning or panicking; ends of such functions. -/
import Derived.Test.YtfoapolbgpjfaaaGreatDoorPWah
set_option linter.unusedSectionVars false
set_option linter.unusedSimpArgs false
set_option linter.unusedVariables false
set_option maxRecDepth 100000
namespace Go.PW
variable [GF]
open Go.RowKit
def alF:List (Nat×Nat)→Nat→Option Nat
 | [],_=>none
 | (a,b) :: l,i=>if i=a then some b else alF l i
def alB:List (Nat×Nat)→Nat→Option Nat
 | [],_=>none
 | (a,b) :: l,x=>if x=b then some a else alB l x
def ioA (l:List (Nat×Nat)) (i:Nat):Nat:=(alF l i).getD (1000000000+i)
def koA (l:List (Nat×Nat)) (x:Nat):Option Nat:=match alB l x with
 | some i=>some i
 | none=>if 1000000000≤x∧alF l (x - 1000000000)=none then some (x - 1000000000) else none
theorem c1g {l:List (Nat×Nat)} {i x:Nat} (h:alF l i=some x):(i,x)∈l:=by
 induction l with
 | nil=>cases h
 | cons p l ih=>
  obtain ⟨a,b⟩:=p
  unfold alF at h
  split at h
  · rename_i e;cases h;subst e;exact List.mem_cons_self ..
  · exact List.mem_cons_of_mem _ (ih h)
theorem c1h {l:List (Nat×Nat)} {i x:Nat} (h:alB l x=some i):(i,x)∈l:=by
 induction l with
 | nil=>cases h
 | cons p l ih=>
  obtain ⟨a,b⟩:=p
  unfold alB at h
  split at h
  · rename_i e;cases h;subst e;exact List.mem_cons_self ..
  · exact List.mem_cons_of_mem _ (ih h)
theorem alF_of {l:List (Nat×Nat)} (hn:(l.map Prod.fst).Nodup) {i x:Nat} (h:(i,x)∈l):alF l i=some x:=by
 induction l with
 | nil=>cases h
 | cons p l ih=>
  obtain ⟨a,b⟩:=p
  simp only [List.map_cons,List.nodup_cons] at hn
  unfold alF
  rcases List.mem_cons.1 h with h' | h'
  · cases h';simp
  · have:i≠a:=fun e=>by subst e;exact hn.1 (List.mem_map.2 ⟨(i,x),h',rfl⟩)
    rw [if_neg this];exact ih hn.2 h'
theorem alB_of {l:List (Nat×Nat)} (hn:(l.map Prod.snd).Nodup) {i x:Nat} (h:(i,x)∈l):alB l x=some i:=by
 induction l with
 | nil=>cases h
 | cons p l ih=>
  obtain ⟨a,b⟩:=p
  simp only [List.map_cons,List.nodup_cons] at hn
  unfold alB
  rcases List.mem_cons.1 h with h' | h'
  · cases h';simp
  · have:x≠b:=fun e=>by subst e;exact hn.1 (List.mem_map.2 ⟨(i,x),h',rfl⟩)
    rw [if_neg this];exact ih hn.2 h'
def AL (l:List (Nat×Nat)):Prop:=(l.map Prod.fst).Nodup∧(l.map Prod.snd).Nodup∧∀ e∈l,e.2 < 1000000000
theorem koA_io {l:List (Nat×Nat)} (h:AL l) (i:Nat):koA l (ioA l i)=some i:=by
 unfold ioA
 cases hf:alF l i with
 | some x=>
  unfold koA
  rw [Option.getD_some,alB_of h.2.1 (c1g hf)]
 | none=>
  rw [Option.getD_none]
  unfold koA
  have e1:1000000000≤1000000000+i:=Nat.le_add_right _ _
  have e2:1000000000+i - 1000000000=i:=by omega
  generalize 1000000000+i=y at e1 e2
  cases hb:alB l y with
  | some j=>have:=h.2.2 _ (c1h hb);simp only at this;omega
  | none=>simp only [e1,e2,hf,and_self,if_true]
theorem ioA_ko {l:List (Nat×Nat)} (h:AL l) (x i:Nat) (hk:koA l x=some i):x=ioA l i:=by
 unfold koA at hk
 cases hb:alB l x with
 | some j=>
  rw [hb] at hk
  cases hk
  unfold ioA
  rw [alF_of h.1 (c1h hb)];rfl
 | none=>
  rw [hb] at hk
  simp only [] at hk
  split at hk
  · rename_i hh
    have e:x - 1000000000=i:=Option.some.inj hk
    have e1:x=1000000000+i:=by omega
    have e2:=hh.2
    rw [e] at e2
    unfold ioA
    rw [e2,Option.getD_none,e1]
  · cases hk
abbrev kilA (l:List (Nat×Nat)) (pin:Nat→Bool):Nat→Bool:=a3t (koA l) pin
abbrev a6m (st:St) (l:List (Nat×Nat)) (pin:Nat→Bool) (M':Nat→MObj):Nat→MObj:=a2u st (koA l) pin (ioA l) M'
theorem b7t {P:Program} {st:St} {Ke:Kx (PV→St→Prop)} {kx:Kx (RV→St→Prop)} {d f:Nat} {ps ps0:List PV} (l:List (Nat×Nat)) (pin:Nat→Bool) {M M':Nat→MObj} {out:PV} {pn:Bool} (hl:AL l)
 (h:a2e P f ps0 M pin out M' pn) (hps:ps=ps0.map (PV.ren (ioA l))) (hM:∀ i,(M i).live=true→st.mem (ioA l i)=(M i).ren (ioA l)) (hpin:∀ e∈l,900≤e.2→e.2 < 1000→pin e.1=true∧(M e.1).live=true)
 (hbox:∀ i cs,M' i=.box cs→ioA l i < 1000) (hkind:∀ i,(M i).live=true→(M' i).live=true→(M' i).kind=(M i).kind)
 (hK:c1u pn (out.ren (ioA l)) ⟨fun x=>(st.env x).kill (kilA l pin),a6m st l pin M'⟩ Ke.k kx.k):KC P st d f ps (Ke:=Ke) (kx:=kx):=by
 unfold KC
 refine .inr ⟨ps0,M,M',pin,out,ioA l,koA l,pn,hps,koA_io hl,ioA_ko hl,hM,fun i h1 h2=>?_,hbox,hkind,h,hK⟩
 unfold ioA at h1 h2
 cases hf:alF l i with
 | some x=>rw [hf] at h1 h2;exact hpin _ (c1g hf) h1 h2
 | none=>rw [hf] at h2;simp at h2;omega
@[simp] theorem memK_ret {p:PV} {st:St} {K:PV→St→Prop} {kx:RV→St→Prop}:c1u false p st K kx=K p st:=rfl
theorem c32 {r:RV} {st:St} {K:PV→St→Prop} {kx:RV→St→Prop} (h:kx r st):c1u true (.val r) st K kx:=⟨r,rfl,h⟩
@[simp] theorem U3 {res pin out M' pn st}:a9d res pin out M' pn .ret st=(pn=false∧∃ st',Le st st'∧∃ ι:Nat→Nat,R1 res st'=some (out.ren ι)∧Named pin M' ι st'):=rfl
@[simp] theorem Q3 {res pin out M' pn st}:a9d res pin out M' pn .normal st=(pn=false∧∃ st',Le st st'∧∃ ι:Nat→Nat,R1 res st'=some (out.ren ι)∧Named pin M' ι st'):=rfl
@[simp] theorem FinX_pan {res pin out M' pn st r}:a9d res pin out M' pn (.pan r) st=(pn=true∧(∀ ι,out.ren ι=.val r)∧∃ ι:Nat→Nat,Named pin M' ι st):=rfl
mutual
theorem PV.ren_id:∀ p:PV,p.ren (fun i=>i)=p
 | .own i=>rfl
 | .ptr i o=>rfl
 | .elt i j s o=>rfl
 | .agg cs=>by simp [PV.ren,PV.renL_id cs]
 | .tup cs=>by simp [PV.ren,PV.renL_id cs]
 | .fn f cs=>by simp [PV.ren,PV.renL_id cs]
 | .undef=>rfl
 | .skip=>rfl
 | .val r=>rfl
 | .emp s=>rfl
 | .at cs=>rfl
theorem PV.renL_id:∀ ps:List PV,PV.renL (fun i=>i) ps=ps
 | []=>rfl
 | p :: ps=>by simp [PV.renL,PV.ren_id p,PV.renL_id ps]
end
theorem MObj.ren_id (m:MObj):m.ren (fun i=>i)=m:=by
 cases m with
 | dead=>rfl
 | box cs=>simp [MObj.ren,PV.renL_id]
 | row E sz xs=>rfl
 | prow E sz n c=>simp [MObj.ren,PV.ren_id]
 | map s clk m=>
  simp only [MObj.ren,PV.ren_id]
  congr 1
  funext k
  cases m k<;>rfl
theorem Named.same {pin:Nat→Bool} {M':Nat→MObj} {st:St} (h1:∀ j,(M' j).live=true→st.mem j=M' j) (h2:∀ j,pin j=true→(M' j).live=true):Named pin M' (fun i=>i) st:=
 ⟨fun i j _ _ h=>h,fun j hj=>by rw [MObj.ren_id];exact h1 j hj,fun j _=>.inl rfl,fun j hj=>⟨rfl,h2 j hj⟩⟩
theorem Le.adoptBox {st:St} (b d E sz:Nat) (cs cs':List PV) (hsz:0 < sz) (h9:a0c d) (hbd:b≠d) (hb:st.mem b=.box cs) (hl:cs'.length=cs.length) (h:∀ j,j < cs.length→Ad d (cs.getD j .undef) (cs'.getD j .undef)) :
 Le st ⟨fun x=>(st.env x).kill (· == d),upd d (.row E sz []) (upd b (.box cs') fun i=>(st.mem i).kill (· == d))⟩:=by
 refine Le.adopt d E sz h9 hsz (by simp [upd]) (fun x=>.kill _) (fun i hi=>?_)
 by_cases hib:i=b
 · subst hib
   exact .inr ⟨cs,cs',hb,by simp [upd,hbd],hl,h⟩
 · exact .inl (by simp [upd,hi,hib])
def RetR2 (res:List Rs) (mk:Nat→Nat→PV) (r1 r2:Row):PExit→St→Prop
 | .normal,st=>∃ st',Le st st'∧∃ a b,a≠b∧R1 res st'=some (mk a b)∧st'.mem a=.row r1.E r1.sz r1.xs∧st'.mem b=.row r2.E r2.sz r2.xs
 | .ret,st=>∃ st',Le st st'∧∃ a b,a≠b∧R1 res st'=some (mk a b)∧st'.mem a=.row r1.E r1.sz r1.xs∧st'.mem b=.row r2.E r2.sz r2.xs
 | _,_=>False
@[simp] theorem RetR2_ret {res mk r1 r2} {st:St}:RetR2 res mk r1 r2 .ret st=∃ st',Le st st'∧∃ a b,a≠b∧R1 res st'=some (mk a b)∧st'.mem a=.row r1.E r1.sz r1.xs∧st'.mem b=.row r2.E r2.sz r2.xs:=rfl
@[simp] theorem RetR2_normal {res mk r1 r2} {st:St}:RetR2 res mk r1 r2 .normal st=∃ st',Le st st'∧∃ a b,a≠b∧R1 res st'=some (mk a b)∧st'.mem a=.row r1.E r1.sz r1.xs∧st'.mem b=.row r2.E r2.sz r2.xs:=rfl
end Go.PW
