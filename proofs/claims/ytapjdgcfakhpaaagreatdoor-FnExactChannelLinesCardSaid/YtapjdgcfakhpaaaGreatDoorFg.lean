/- Fg: merged out of KXk, KXl, KXn, KXo, KXp. -/
import Derived.Test.YtapjdgcfakhpaaaGreatDoorAc
import Derived.Test.YtapjdgcfakhpaaaGreatDoorFd
import Derived.Test.YtapjdgcfakhpaaaGreatDoorEg
import Derived.Test.YtapjdgcfakhpaaaGreatDoorCc
import Derived.Test.YtapjdgcfakhpaaaGreatDoorBa
import Derived.Test.YtapjdgcfakhpaaaGreatDoorShelf
import Derived.Test.YtapjdgcfakhpaaaGreatDoorPWab
import Derived.Test.YtapjdgcfakhpaaaGreatDoorFc
import Derived.Test.YtapjdgcfakhpaaaGreatDoorCa
import Derived.Test.YtapjdgcfakhpaaaGreatDoorFf
set_option linter.unusedSectionVars false
set_option linter.unusedSimpArgs false
set_option linter.unusedVariables false
set_option maxRecDepth 100000
section
namespace Go.Proofs
open Go.PW Go.KP
attribute [local simp] RV.cells RV.one PV.cells PV.solid PV.one G6 i7 M3 L4 RV.ofCells elems PV.killL
variable [GH]
theorem d1s (l:List LReport) (hl:l.length≤1048576):d8 Tryz.prog 112 [.val (.list 4 (l.map i8))] (.ret (.val (.list 1 ((a0b l).map num))) []) []:=by
 refine f8 mixed ok112 rfl (fun _=>rfl) ?_
 unfold ir112
 rw [b6]
 simp [d9,i6,j9,b9,d7,num]
 refine j8 (X:=Nat) (fun i=>⟨u0 [(0,.val (.list 4 (l.map i8))),(3,.own 5),(4,.val (num i))],u5 [(5,.row 3 1 ((a0b (l.take i)).map num))]⟩) (fun i=>i≤l.length) (fun i=>l.length - i) 0 (Le.mk _ _ ?_ ?_) (Nat.zero_le _) ?_
 · simp [num,PV.kill]
 · simp [a0b]
 · intro i hi
   simp [num]
   refine f7 (fun h1=>?_) (fun h1=>?_)
   · obtain ⟨r,hr⟩:∃ r,l[i]=r:=⟨_,rfl⟩
     have hst:a0b (l.take (i+1))=a0b (l.take i)++[r.id]:=by unfold a0b;rw [List.take_add_one,List.getElem?_eq_getElem h1,List.map_append,hr];rfl
     have hln:(a0b (l.take i)).length=i:=by unfold a0b;simp;omega
     simp [num,h1,hr,i8]
     refine ⟨by omega,by omega,?_⟩
     refine LoopNext.mk (i+1) h1 (by omega) (Le.mk _ _ ?_ ?_)
     · simp [num];exact wrap_i64 (by omega) (by omega)
     · simp [hst,num]
   · have e:i=l.length:=by omega
     subst e
     simp [num,a1p,PV.pl]
end Go.Proofs
end
section
namespace Go.Proofs
open Go.PW Go.KP Go.Sort
variable [GH]
end Go.Proofs
end
section
namespace Go.Proofs
open Go.PW Go.KP
attribute [local simp] RV.cells RV.one PV.cells PV.solid PV.one G6 i7 M3 L4 RV.ofCells elems PV.killL
variable [GH]
end Go.Proofs
end
section
namespace Go.Proofs
open Go.PW Go.KP
variable [GF]
end Go.Proofs
end
section
namespace Go.Proofs
open Go.PW Go.KP
variable [GH]
theorem ok_channels {p:LPipe} (h:M1 p=true):(∀ c∈p.channels,c.queue.items.length≤5)∧p.channels.length≤5:=by
 unfold M1 at h
 simp only [Bool.and_eq_true,decide_eq_true_eq] at h
 refine ⟨fun c hc=>?_,h.1.1.1.1.1.1⟩
 obtain ⟨i,hi,rfl⟩:=List.mem_iff_getElem.1 hc
 have h3:=b4h h.2.1.1 i hi
 rw [a6u hi] at h3
 unfold Q1 S7 at h3
 simp only [Bool.and_eq_true,decide_eq_true_eq] at h3
 exact h3.2.1.2.1.1
end Go.Proofs
end
