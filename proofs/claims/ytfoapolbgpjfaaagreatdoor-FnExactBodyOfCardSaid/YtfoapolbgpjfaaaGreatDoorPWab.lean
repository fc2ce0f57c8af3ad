/- The caller's side of a call that is handed objects, all of them kept where they are. -/
import Derived.Test.YtfoapolbgpjfaaaGreatDoorPWaa
set_option linter.unusedSectionVars false
set_option linter.unusedSimpArgs false
set_option linter.unusedVariables false
set_option maxRecDepth 100000
namespace Go.PW
variable [GF]
open Go.RowKit
def V5 (n:Nat) (O:Nat→MObj) (i:Nat):MObj:=if 900≤i∧i < 900+n then O (i - 900) else .dead
def a0g (n:Nat) (i:Nat):Bool:=decide (900≤i) && decide (i < 900+n)
def a5k (as:List Nat) (i:Nat):Nat:=if 900≤i∧i < 900+as.length then as.getD (i - 900) 0 else 10000000+(if i < 900 then i else i - as.length)
def a4o (as:List Nat) (x:Nat):Option Nat:=if x∈as then some (900+as.idxOf x) else if 10000000≤x then some (if x - 10000000 < 900 then x - 10000000 else x - 10000000+as.length) else none
def a8y (x:Nat):Bool:=decide (10000000≤x)
def a8f (as:List Nat) (O:Nat→MObj) (f:Nat→MObj):Nat→MObj:=match as with
 | []=>f
 | a :: as=>upd a (O 0) (a8f as (fun i=>O (i+1)) f)
theorem b2k:∀ (as:List Nat) (O:Nat→MObj) (f:Nat→MObj) (x:Nat),a8f as O f x=if x∈as then O (as.idxOf x) else f x
 | [],O,f,x=>by simp [a8f]
 | a :: as,O,f,x=>by
  simp only [a8f,upd]
  by_cases h:x=a
  · subst h;simp
  · rw [if_neg h,b2k as _ f x]
    have h':¬ a=x:=fun e=>h e.symm
    by_cases hm:x∈as
    · rw [if_pos hm,if_pos (by simp [hm])];have hb:(a == x)=false:=by simp [h']
      simp [List.idxOf_cons,hb]
    · rw [if_neg hm,if_neg (by simp [h,hm])]
theorem koAs_io (as:List Nat) (hn:as.Nodup) (hl:∀ a∈as,a < 10000000) (i:Nat):a4o as (a5k as i)=some i:=by
 unfold a5k
 by_cases h:900≤i∧i < 900+as.length
 · rw [if_pos h]
   have hlt:i - 900 < as.length:=by omega
   have e:as.getD (i - 900) 0=as[i - 900]:=by rw [List.getD_eq_getElem?_getD,List.getElem?_eq_getElem hlt];rfl
   rw [e]
   unfold a4o
   rw [if_pos (List.getElem_mem hlt),hn.idxOf_getElem]
   exact congrArg some (by omega)
 · rw [if_neg h]
   generalize hy:10000000+(if i < 900 then i else i - as.length)=y
   have hy7:10000000≤y:=by omega
   unfold a4o
   have hm:¬ y∈as:=fun hm=>by have:=hl _ hm;omega
   rw [if_neg hm,if_pos hy7]
   by_cases h9:i < 900
   · rw [if_pos h9] at hy
     rw [if_pos (by omega)]
     exact congrArg some (by omega)
   · rw [if_neg h9] at hy
     rw [if_neg (by omega)]
     exact congrArg some (by omega)
theorem ioAs_ko (as:List Nat) (x i:Nat) (h:a4o as x=some i):x=a5k as i:=by
 unfold a4o at h
 by_cases hm:x∈as
 · rw [if_pos hm] at h
   obtain rfl:=Option.some.inj h
   have hlt:=List.idxOf_lt_length_iff.2 hm
   unfold a5k
   rw [if_pos ⟨by omega,by omega⟩,show 900+as.idxOf x - 900=as.idxOf x by omega,List.getD_eq_getElem?_getD,List.getElem?_eq_getElem hlt]
   simp
 · rw [if_neg hm] at h
   split at h
   · obtain rfl:=Option.some.inj h
     unfold a5k
     by_cases h9:x - 10000000 < 900
     · simp only [if_pos h9]
       rw [if_neg (by omega)];omega
     · simp only [if_neg h9]
       rw [if_neg (by omega),if_neg (by omega)];omega
   · cases h
theorem b9e {P:Program} {st:St} {Ke:Kx (PV→St→Prop)} {kx:Kx (RV→St→Prop)} {d f:Nat} {ps ps0:List PV} (as:List Nat) (O O' Oc Oc':Nat→MObj) {out:PV} (hn:as.Nodup) (hl:∀ a∈as,a < 10000000)
 (hps:ps=ps0.map (PV.ren (a5k as))) (hm:∀ j,j < as.length→st.mem (as.getD j 0)=Oc j) (hO:∀ j,j < as.length→(O j).ren (a5k as)=Oc j) (hO':∀ j,j < as.length→(O' j).ren (a5k as)=Oc' j)
 (hlive:∀ j,j < as.length→(O j).live=true) (hkind:∀ j,j < as.length→(O' j).live=true→(O' j).kind=(O j).kind) (hbox:∀ j cs,j < as.length→O' j=.box cs→as.getD j 0 < 1000)
 (h:a5r P f ps0 (V5 as.length O) (a0g as.length) out (V5 as.length O'))
 (hK:Ke.k (out.ren (a5k as)) ⟨fun x=>(st.env x).kill a8y,a8f as Oc' fun x=>if 10000000≤x then .dead else (st.mem x).kill a8y⟩):KC P st d f ps (Ke:=Ke) (kx:=kx):=by
 unfold KC
 refine .inr ?_
 have hin:∀ i,(V5 as.length O i).live=true→900≤i∧i < 900+as.length:=fun i hi=>by
  unfold V5 at hi;split at hi
  · assumption
  · cases hi
 have hio:∀ j,j < as.length→a5k as (900+j)=as.getD j 0:=fun j hj=>by
  unfold a5k;rw [if_pos ⟨by omega,by omega⟩,show 900+j - 900=j by omega]
 have hkk:a1r (a4o as) (a0g as.length)=a8y:=by
  funext x
  unfold a1r a4o a8y
  by_cases hx:x∈as
  · have:=hl x hx
    have hlt:=List.idxOf_lt_length_iff.2 hx
    rw [if_pos hx]
    simp only [a0g]
    rw [decide_eq_true (show 900≤900+as.idxOf x by omega),decide_eq_true (show 900+as.idxOf x < 900+as.length by omega),decide_eq_false (show ¬ 10000000≤x by omega)]
    rfl
  · rw [if_neg hx]
    by_cases h7:10000000≤x
    · rw [if_pos h7,decide_eq_true h7]
      simp only [a0g]
      split
      · rw [decide_eq_false (show ¬ 900≤x - 10000000 by omega)];rfl
      · rw [decide_eq_false (show ¬ x - 10000000+as.length < 900+as.length by omega)];simp
    · rw [if_neg h7,decide_eq_false h7]
 refine ⟨ps0,V5 as.length O,V5 as.length O',a0g as.length,out,a5k as,a4o as,false,hps,koAs_io as hn hl,ioAs_ko as,fun i hi=>?_,fun i h1 h2=>?_,fun i cs hi=>?_,fun i h1 h2=>?_,h,?_⟩
 · obtain ⟨j1,j2⟩:=hin i hi
   have e:i=900+(i - 900):=by omega
   have hj:i - 900 < as.length:=by omega
   rw [e,hio _ hj,hm _ hj]
   unfold V5
   rw [if_pos ⟨by omega,by omega⟩,show 900+(i - 900) - 900=i - 900 by omega,hO _ hj]
 · by_cases hh:900≤i∧i < 900+as.length
   · refine ⟨by simp [a0g,hh],?_⟩
     unfold V5;rw [if_pos hh];exact hlive _ (by omega)
   · unfold a5k at h2;rw [if_neg hh] at h2;omega
 · unfold V5 at hi
   split at hi
   · rename_i hh
     have e:i=900+(i - 900):=by omega
     rw [e,hio _ (by omega)]
     exact hbox _ cs (by omega) hi
   · cases hi
 · obtain ⟨j1,j2⟩:=hin i h1
   unfold V5 at h2 ⊢
   rw [if_pos ⟨j1,j2⟩] at h2
   rw [if_pos ⟨j1,j2⟩,if_pos ⟨j1,j2⟩]
   exact hkind _ (by omega) h2
 · rw [hkk]
   have e:a4p st (a4o as) (a0g as.length) (a5k as) (V5 as.length O')=a8f as Oc' fun x=>if 10000000≤x then .dead else (st.mem x).kill a8y:=by
    funext x
    rw [b2k]
    unfold a4p
    rw [hkk]
    by_cases hx:x∈as
    · have hlt:=List.idxOf_lt_length_iff.2 hx
      rw [if_pos hx]
      have:a4o as x=some (900+as.idxOf x):=by unfold a4o;rw [if_pos hx]
      rw [this]
      simp only [V5]
      rw [if_pos ⟨by omega,by omega⟩,show 900+as.idxOf x - 900=as.idxOf x by omega,hO' _ hlt]
    · rw [if_neg hx]
      by_cases h7:10000000≤x
      · rw [if_pos h7]
        have:a4o as x=some (if x - 10000000 < 900 then x - 10000000 else x - 10000000+as.length):=by unfold a4o;rw [if_neg hx,if_pos h7]
        rw [this]
        simp only [V5]
        rw [if_neg (by split<;>omega)];rfl
      · rw [if_neg h7]
        have:a4o as x=none:=by unfold a4o;rw [if_neg hx,if_neg h7]
        rw [this]
   rw [e]
   exact hK
end Go.PW
