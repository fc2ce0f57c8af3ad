/- Fw: merged out of KUe. -/
import Derived.Test.YtfoapolbgpjfaaaGreatDoorFb
import Derived.Test.YtfoapolbgpjfaaaGreatDoorFs
set_option linter.unusedSectionVars false
set_option linter.unusedSimpArgs false
set_option linter.unusedVariables false
set_option maxRecDepth 100000
section
namespace Go.Proofs.YtfoapolbgpjfaaaGreatDoor
open Go.ChangeShapes Go.WideShapes Go.ChangeAt Go.RowKit Go.PW Go.KP
theorem b9b {n:Nat} {rs:List RV} (h:a0t Tryz.prog (n+1) 3 rs):∃ a:Int,rs=[num a]∧-9223372036854775808≤a∧a≤9223372036854775807:=by
 unfold a0t at h
 rw [Tryz.underlying3] at h
 obtain ⟨a,rfl,hw⟩:=h
 refine ⟨a,rfl,?_⟩
 simp [Lit.wf] at hw
 have e1:IntKind.i64.min=-9223372036854775808:=by decide
 have e2:IntKind.i64.max=9223372036854775807:=by decide
 first
  | exact hw
  | (rw [e1] at hw;exact hw)
  | (rw [e1,e2] at hw;exact hw)
theorem b79 {n:Nat} {rs:List RV} (h:a0t Tryz.prog (n+3) 30 rs):∃ x:LWire,O0 x=.agg rs∧Y2 maxLen x∧b50 x:=by
 unfold a0t at h
 rw [Tryz.underlying30] at h
 obtain ⟨r0,r1,rfl,h0,r2,r3,rfl,h1,r4,r5,rfl,h2,r6,r7,rfl,h3,r8,r9,rfl,h4,r10,r11,rfl,h5,r12,r13,rfl,h6,rfl⟩:=h
 obtain ⟨s0,rfl⟩:=b3w h0
 obtain ⟨s1,rfl,b1⟩:=b9b h1
 obtain ⟨s2,rfl,b2⟩:=a8m h2
 obtain ⟨s3,rfl,b3⟩:=a8m h3
 obtain ⟨s4,rfl,b4⟩:=b9a h4
 obtain ⟨s5,rfl,b5⟩:=a8m h5
 obtain ⟨s6,rfl⟩:=b92 h6
 exact ⟨⟨s0,s1,s2,s3,s4,s5,s6⟩,rfl,⟨b2,b3,b4,b5⟩,b1⟩
theorem b5u {n:Nat} {rs:List RV} (h:a0t Tryz.prog (n+4) 38 rs):∃ l:List LWire,rs=[.list 7 (l.map O0)]∧bdS maxLen (Y2 maxLen) l∧∀ w∈l,b50 w:=by
 unfold a0t at h
 rw [Tryz.underlying38] at h
 obtain ⟨css,h1,h2,h3⟩:=h
 have hc:Tryz.prog.cellsOf 30=7:=by kernel_rfl
 have hs:a3y Tryz.prog 30=true:=by kernel_rfl
 obtain ⟨l,q1,q2⟩:=a6w (rv:=O0) (p:=fun x=>Y2 maxLen x∧b50 x) (f:=a92 Tryz.prog 30) css (fun cs hcs=>by
  obtain ⟨x,q3,q4⟩:=b79 (h3 cs hcs)
  exact ⟨x,by unfold a92;rw [hs];exact q3.symm,q4⟩)
 refine ⟨l,?_,⟨?_,fun x hx=>(q2 x hx).1⟩,fun x hx=>(q2 x hx).2⟩
 · rw [h1,hc,q1]
 · have:=congrArg List.length q1
   simp at this
   omega
end Go.Proofs.YtfoapolbgpjfaaaGreatDoor
end
