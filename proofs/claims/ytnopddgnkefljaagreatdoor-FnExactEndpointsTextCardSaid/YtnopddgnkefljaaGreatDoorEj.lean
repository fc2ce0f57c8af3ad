/- Ej: merged out of IRii, KJg, KJl, KJh. -/
import Derived.Test.YtnopddgnkefljaaGreatDoorPWv
import Derived.Test.YtnopddgnkefljaaGreatDoorChecked
import Derived.KernelRfl
import Derived.Test.YtnopddgnkefljaaGreatDoorCb
import Derived.Test.YtnopddgnkefljaaGreatDoorAc
import Derived.Test.YtnopddgnkefljaaGreatDoorEa
import Derived.Test.YtnopddgnkefljaaGreatDoorShelf
import Derived.Shelf.Strings.OnBuilder
import Derived.Test.YtnopddgnkefljaaGreatDoorEc
import Derived.Test.YtnopddgnkefljaaGreatDoorCc

/- Functions of the seat as data. MADE BY PROGRAM (print_ir.py). -/
section
set_option maxRecDepth 100000
namespace Go.Proofs
open Go.PW Go.PW.I

end Go.Proofs
end

/- The text of a policy by the reference. -/
section
set_option maxRecDepth 100000
set_option linter.unusedVariables false
set_option linter.unusedSectionVars false
set_option linter.unusedSimpArgs false
namespace Go.Proofs
open Go.PW Go.KP
attribute [local simp] RV.cells RV.one PV.cells PV.solid PV.one vals? allVal mkAgg setAt RV.ofCells elems PV.killL
variable [GF]

end Go.Proofs
end

/- strings.Join. -/
section
set_option maxRecDepth 100000
set_option linter.unusedVariables false
set_option linter.unusedSectionVars false
set_option linter.unusedSimpArgs false
namespace Go.Proofs
open Go.PW Go.KP Go.RowKit
variable [GH]

theorem ljoin_lib (sep : Tx) (l : List Tx) : Go.Lib.join l sep = ljoin sep l := by
  cases l with
  | nil => rfl
  | cons x r => rw [Go.Lib.join_cons]; rfl
theorem bs_toList (t : Tx) : (bs t).data.toList = t := by simp [bs]
theorem map_bs_toList (l : List Tx) : (l.map bs).map (fun x => x.data.toList) = l := by
  rw [List.map_map]
  conv => rhs; rw [← List.map_id l]
  exact List.map_congr_left fun t _ => bs_toList t

theorem i_Join (l : List Tx) (sep : Tx) (hl : (ljoin sep l).length ≤ 140737488355328) (hn : l.length ≤ 140737488355328) : CallOK Tryz.prog 47 [.val (.list 1 (l.map tx)), .val (tx sep)] (.ret (.val (tx (ljoin sep l))) []) [] := by
  intro L w vs ms hL hgl hgb hargs hnd
  cases hargs with
  | cons _ _ v vs' ms1 ms2 h1 h2 =>
    cases h1 with
    | val _ _ h1 =>
      obtain ⟨rfl, rfl⟩ := args_sv (rs := [tx sep]) rfl h2
      have key : Calls Tryz.prog 47 #[v, .string (bs sep)] w fun e w' => e = .returned (.string (bs (ljoin sep l))) ∧ Below w.heap.size w w' := by
        generalize hr : RV.list 1 (l.map tx) = r at h1
        cases h1 with
        | list0 sz A c =>
          injection hr with e1 e2
          have : l = [] := by simpa using e2
          subst this
          exact (Tryz.strings_Join_none A c (bs sep) w).mono fun e w' ⟨he, hw⟩ => ⟨he, hw ▸ Below.refl _ _⟩
        | list sz xs b o c f h0 hsz hcap hb hc hx h =>
          injection hr with e1 e2
          subst e1; subst e2
          have hlen : (l.map tx).length = l.length := by simp
          have hlen' : (l.map bs).length = l.length := by simp
          have hpos : 0 < l.length := by rw [← hlen]; exact List.length_pos_iff.2 h0
          have hcell : ∀ (j : Nat) x, (l.map bs)[j]? = some x → w.cell? ⟨b, o + j, none⟩ = some (.string x) := fun j x hj => by
            obtain ⟨hj1, hj2⟩ := List.getElem?_eq_some_iff.1 hj
            rw [hlen'] at hj1
            rw [hc j (by rw [hlen]; omega)]
            have hh := h j 0 (by rw [hlen]; exact hj1) (by omega)
            have eg : ((l.map tx).getD j RV.nilptr) = tx l[j] := by
              rw [List.getD_eq_getElem?_getD, List.getElem?_eq_getElem (by rw [hlen]; exact hj1)]; simp
            rw [eg] at hh
            have e3 : (tx l[j]).cells.getD 0 RV.nilptr = .str (bs l[j]) := rfl
            rw [e3, Nat.mul_one, Nat.add_zero] at hh
            generalize f j = u at hh
            cases hh
            have : bs l[j] = x := by rw [← hj2]; simp
            rw [this]
          have hbk : b < w.heap.size := World.block_lt_of_cell? w _ (hc 0 (by rw [hlen]; omega))
          have := Tryz.strings_Join b o c (l.map bs) (bs sep) w hcell hbk (by rw [hlen']; exact hn) (by rw [hlen', ← hlen]; exact hcap)
            (by rw [map_bs_toList, bs_toList, ljoin_lib]; exact hl)
          rw [map_bs_toList, bs_toList, ljoin_lib, hlen'] at this
          rw [hlen]
          exact this
        | _ => cases hr
      refine key.mono fun e w' ⟨he, hb⟩ => ?_
      exact ⟨Outside.of_below hb, _, fun _ => undef, he, .val _ _ (.str _), memInv_none, rfl, fun i b cells h1 h2 => by simp at h1⟩

/-- A text and a code. -/
def tRes (r : Tx × Int) : PV := .tup [.val (tx r.1), .val (num r.2)]
end Go.Proofs
end

/- The text of a policy by the program; the law of PolicyText. -/
section
set_option maxRecDepth 100000
set_option linter.unusedVariables false
set_option linter.unusedSectionVars false
set_option linter.unusedSimpArgs false
namespace Go.Proofs
open Go.PW Go.KP Go.RowKit
attribute [local simp] RV.cells RV.one PV.cells PV.solid PV.one vals? allVal mkAgg setAt RV.ofCells elems PV.killL
variable [GH]

end Go.Proofs
end
