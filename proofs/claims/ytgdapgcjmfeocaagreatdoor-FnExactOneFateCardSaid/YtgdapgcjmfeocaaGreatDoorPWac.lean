/- The caller's side of a call that hands back one new object (a map, a row). -/
import Derived.Test.YtgdapgcjmfeocaaGreatDoorPWab
set_option linter.unusedSectionVars false
set_option linter.unusedSimpArgs false
set_option linter.unusedVariables false
set_option maxRecDepth 100000
namespace Go.PW
variable [GF]
open Go.RowKit
def b2w (d i:Nat):Nat:=if i=0 then d else 10000000+i
def a4d (d x:Nat):Option Nat:=if x=d then some 0 else if 10000001≤x then some (x - 10000000) else none
def b7l (d x:Nat):Bool:=decide (x=d) || decide (10000001≤x)
theorem c67 (d:Nat) (hd:d < 900) (i:Nat):a4d d (b2w d i)=some i:=by
 unfold a4d b2w
 by_cases h:i=0
 · subst h;simp
 · rw [if_neg h,if_neg (by omega),if_pos (by omega)]
   exact congrArg some (by omega)
theorem c7f (d x i:Nat) (h:a4d d x=some i):x=b2w d i:=by
 unfold a4d at h
 by_cases hx:x=d
 · rw [if_pos hx] at h
   obtain rfl:=Option.some.inj h
   rw [hx];rfl
 · rw [if_neg hx] at h
   split at h
   · obtain rfl:=Option.some.inj h
     unfold b2w
     rw [if_neg (by omega)];omega
   · cases h
theorem c57 (rs:List RV) (ι:Nat→Nat):(rs.map PV.val).map (PV.ren ι)=rs.map PV.val:=by
 rw [List.map_map]
 exact List.map_congr_left fun r _=>rfl
theorem c5m {P:Program} {st:St} {Ke:Kx (PV→St→Prop)} {kx:Kx (RV→St→Prop)} {d f:Nat} {ps:List PV} {rs:List RV} {m:MObj} (hd:d < 900) (hps:ps=rs.map .val) (hm:∀ ι,m.ren ι=m) (hb:∀ cs,m≠.box cs)
 (h:a7e P f (rs.map .val) (fun _=>.dead) (fun _=>false) (.own 0) (fun i=>if i=0 then m else .dead))
 (hK:Ke.k (.own d) ⟨fun x=>(st.env x).kill (b7l d),upd d m fun x=>if 10000001≤x then .dead else (st.mem x).kill (b7l d)⟩):KC P st d f ps (Ke:=Ke) (kx:=kx):=by
 unfold KC
 refine .inr ?_
 have hkk:a3o (a4d d) (fun _=>false)=b7l d:=by
  funext x
  unfold a3o a4d b7l
  by_cases hx:x=d
  · simp [hx]
  · by_cases h7:10000001≤x
    · simp [hx,h7]
    · simp [hx,h7]
 refine ⟨rs.map .val,fun _=>.dead,fun i=>if i=0 then m else .dead,fun _=>false,.own 0,b2w d,a4d d,by rw [c57,hps],c67 d hd,c7f d,fun i hi=>?_,fun i h1 h2=>?_,fun i cs hi=>?_,fun i h1 h2=>?_,h,?_⟩
 · cases hi
 · exfalso;unfold b2w at h1 h2;split at h1<;>rename_i h0<;>simp only [h0,if_true,if_false] at h2<;>omega
 · by_cases h0:i=0
   · simp only [h0,if_true] at hi;exact absurd hi (hb cs)
   · simp only [h0,if_false] at hi;cases hi
 · cases h1
 · rw [hkk]
   have e:a6c st (a4d d) (fun _=>false) (b2w d) (fun i=>if i=0 then m else .dead)=upd d m fun x=>if 10000001≤x then .dead else (st.mem x).kill (b7l d):=by
    funext x
    unfold a6c
    rw [hkk]
    by_cases hx:x=d
    · subst hx
      have:a4d x x=some 0:=by unfold a4d;rw [if_pos rfl]
      rw [this,Q1]
      exact hm _
    · rw [S2 _ _ _ _ hx]
      by_cases h7:10000001≤x
      · have:a4d d x=some (x - 10000000):=by unfold a4d;rw [if_neg hx,if_pos h7]
        rw [this,if_pos h7]
        simp only [show ¬ x - 10000000=0 by omega,if_false];rfl
      · have:a4d d x=none:=by unfold a4d;rw [if_neg hx,if_neg h7]
        rw [this,if_neg h7]
   rw [e]
   exact hK
end Go.PW
