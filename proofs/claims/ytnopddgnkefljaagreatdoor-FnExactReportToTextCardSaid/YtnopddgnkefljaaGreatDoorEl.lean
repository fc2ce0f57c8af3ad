/- El: merged out of IRkk, KJm, KJn. -/
import Derived.Test.YtnopddgnkefljaaGreatDoorPWv
import Derived.Test.YtnopddgnkefljaaGreatDoorChecked
import Derived.KernelRfl
import Derived.Test.YtnopddgnkefljaaGreatDoorEk
import Derived.Test.YtnopddgnkefljaaGreatDoorCb
import Derived.Test.YtnopddgnkefljaaGreatDoorAc
import Derived.Test.YtnopddgnkefljaaGreatDoorEc

/- Functions of the seat as data. MADE BY PROGRAM (print_ir.py). -/
section
set_option maxRecDepth 100000
namespace Go.Proofs
open Go.PW Go.PW.I

end Go.Proofs
end

/- What the reference tells of a violation. -/
section
set_option maxRecDepth 100000
set_option linter.unusedVariables false
set_option linter.unusedSectionVars false
set_option linter.unusedSimpArgs false
namespace Go.Proofs
open Go.PW Go.KP
attribute [local simp] RV.cells RV.one PV.cells PV.solid PV.one vals? allVal mkAgg setAt RV.ofCells elems PV.killL
section
variable [GF]

theorem resP_json {st : St} {s id : Nat} {j : LJson} {cs : List PV} (h1 : st.env s = .ptr id 0) (h2 : st.mem id = .box cs) (h3 : PV.plL (PV.frzL (frzOf st fun _ => true) cs) = (rvJson j).cells.map .val) : resP [.c s true 5] st.fin = some (.val (rvJson j)) := by
  obtain ⟨k, n, t, ns, is⟩ := j
  rw [rvJson_mk] at h3 ⊢
  refine (resP_cz (id := id) (n := 5) (cs := cs) (rs := [num k, num n, tx t, .list 1 (ns.map tx), .list 5 (is.map rvJson)]) h1 h2 h3 rfl (by omega)).trans ?_
  simp [mkAgg, allVal]
theorem c_l03Word (t : Tx) : CallOK Tryz.prog 74 [.val (tx t)] (.ret (.val (rvJson (jt t))) []) [] := by
  refine call_val mixed ok74 rfl (fun _ => rfl) ?_
  unfold ir74
  rw [evalC_intro]
  simp [initSt, avPVs, avPV, avBoxesL, avBoxes, tx, num]
  refine resP_json (id := 2) (cs := [.val (num 4), .val (num 0), .val (tx t), .emp 1, .emp 5]) ?_ ?_ ?_
  · simp
  · simp [tx, num]
  · simp [PV.frzL, PV.frz, PV.plL, PV.pl, frzOf, jt, rvJson_mk, tx, num]
theorem c_l03Say (n : Int) : CallOK Tryz.prog 76 [.val (num n)] (.ret (.val (rvJson (jn n))) []) [] := by
  refine call_val mixed ok76 rfl (fun _ => rfl) ?_
  unfold ir76
  rw [evalC_intro]
  simp [initSt, avPVs, avPV, avBoxesL, avBoxes, tx, num]
  refine resP_json (id := 2) (cs := [.val (num 3), .val (num n), .val (tx []), .emp 1, .emp 5]) ?_ ?_ ?_
  · simp
  · simp [tx, num, bs]
  · simp [PV.frzL, PV.frz, PV.plL, PV.pl, frzOf, jn, rvJson_mk, tx, num, bs]

end
end Go.Proofs
end

/- What the program tells of a violation. -/
section
set_option maxRecDepth 100000
set_option linter.unusedVariables false
set_option linter.unusedSectionVars false
set_option linter.unusedSimpArgs false
namespace Go.Proofs
open Go.PW Go.KP
attribute [local simp] RV.cells RV.one PV.cells PV.solid PV.one vals? allVal mkAgg setAt RV.ofCells elems PV.killL
section
variable [GH]

theorem i_textOf (t : Tx) : CallOK Tryz.prog 58 [.val (tx t)] (.ret (.val (rvJson (jt t))) []) [] := by
  refine call_val mixed ok58 rfl (fun _ => rfl) ?_
  unfold ir58
  rw [evalC_intro]
  simp [initSt, avPVs, avPV, avBoxesL, avBoxes, tx, num]
  refine resP_json (id := 2) (cs := [.val (num 4), .val (num 0), .val (tx t), .emp 1, .emp 5]) ?_ ?_ ?_
  · simp
  · simp [tx, num]
  · simp [PV.frzL, PV.frz, PV.plL, PV.pl, frzOf, jt, rvJson_mk, tx, num]
theorem i_numberOf (n : Int) : CallOK Tryz.prog 59 [.val (num n)] (.ret (.val (rvJson (jn n))) []) [] := by
  refine call_val mixed ok59 rfl (fun _ => rfl) ?_
  unfold ir59
  rw [evalC_intro]
  simp [initSt, avPVs, avPV, avBoxesL, avBoxes, tx, num]
  refine resP_json (id := 2) (cs := [.val (num 3), .val (num n), .val (tx []), .emp 1, .emp 5]) ?_ ?_ ?_
  · simp
  · simp [tx, num, bs]
  · simp [PV.frzL, PV.frz, PV.plL, PV.pl, frzOf, jn, rvJson_mk, tx, num, bs]

end
end Go.Proofs
end
