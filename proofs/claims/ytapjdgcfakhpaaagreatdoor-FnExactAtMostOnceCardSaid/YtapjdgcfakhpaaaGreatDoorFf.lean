/- Ff: merged out of KXg. -/
import Derived.Test.YtapjdgcfakhpaaaGreatDoorFd
import Derived.Test.YtapjdgcfakhpaaaGreatDoorFc
import Derived.Test.YtapjdgcfakhpaaaGreatDoorEp
import Derived.Test.YtapjdgcfakhpaaaGreatDoorBa
set_option linter.unusedSectionVars false
set_option linter.unusedSimpArgs false
set_option linter.unusedVariables false
set_option maxRecDepth 100000
section
namespace Go.Proofs
open Go.PW Go.KP
attribute [local simp] RV.cells RV.one PV.cells PV.solid PV.one x6 j2 J4 I7 RV.ofCells elems PV.killL
variable [GH]
def acC (p:LPipe):Int:=if J2 p then (if p.next≤4096 then 0 else 6) else 1
theorem c7p (p:LPipe) (hb:a0y 1048576 p):f8 Tryz.prog 49 [.val (C5 p)] (.ret (.val (num (acC p))) []) []:=by
 refine i7 mixed ok49 rfl (fun _=>rfl) ?_
 unfold ir49
 rw [b7]
 unfold acC
 simp [i6,j3,j9,b8,f6,C5,tx,num,j2]
 refine b6 rfl rfl (.inl rfl) (c_l08OK p hb) ?_
 cases hok:J2 p with
 | false=>simp [num]
 | true=>
  simp [num]
  by_cases h:p.next≤4096
  · have h':¬ 4096 < p.next:=by omega
    simp [num,h,h']
  · have h':4096 < p.next:=by omega
    simp [num,h,h']
theorem c4a (p:LPipe) (hb:a0y 1048576 p):f8 Tryz.prog 54 [.val (C5 p)] (.ret (.val (num (acC p))) []) []:=by
 refine i7 mixed ok54 rfl (fun _=>rfl) ?_
 unfold ir54
 rw [b7]
 have hf:=i_first [if J2 p then 0 else 1,if p.next≤4096 then 0 else 6] (by simp)
 have hr:a34 [if J2 p then 0 else 1,if p.next≤4096 then 0 else 6]=acC p:=by
  unfold acC
  cases J2 p<;>by_cases h:p.next≤4096<;>simp [a34,h]
 rw [hr] at hf
 simp [i6,j3,j9,b8,f6,C5,tx,num,j2]
 refine p7 rfl rfl (.inl rfl) (c62 p hb) ?_
 simp [num]
 refine p7 rfl rfl (.inl rfl) (b2q (J2 p) 1) ?_
 simp [num]
 refine b6 rfl rfl (.inl rfl) (b2q (decide (p.next≤4096)) 6) ?_
 simp [num]
 refine b6 rfl rfl (.inr rfl) hf ?_
 simp [num]
theorem b9e {p:LPipe} (h:acC p=0):J2 p=true∧p.next≤4096:=by
 unfold acC at h
 cases hok:J2 p with
 | false=>rw [hok] at h;simp at h
 | true=>
  rw [hok] at h
  by_cases h2:p.next≤4096
  · exact ⟨rfl,h2⟩
  · simp [h2] at h
end Go.Proofs
end
