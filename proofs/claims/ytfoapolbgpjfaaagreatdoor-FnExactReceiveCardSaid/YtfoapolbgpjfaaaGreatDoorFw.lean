/- Fw: merged out of KUe. -/
import Derived.Test.YtfoapolbgpjfaaaGreatDoorFb
import Derived.Test.YtfoapolbgpjfaaaGreatDoorFs
set_option linter.unusedSectionVars false
set_option linter.unusedSimpArgs false
set_option linter.unusedVariables false
set_option maxRecDepth 100000
section
namespace Go.Proofs.YtfoapolbgpjfaaaGreatDoor
open Go.ChangeShapes Go.WideShapes Go.ChangeAt Go.RowKit Go.PW Go.KP
theorem b89 {n:Nat} {rs:List RV} (h:a0b Tryz.prog (n+1) 3 rs):∃ a:Int,rs=[num a]∧-9223372036854775808≤a∧a≤9223372036854775807:=by
 unfold a0b at h
 rw [Tryz.underlying3] at h
 obtain ⟨a,rfl,hw⟩:=h
 refine ⟨a,rfl,?_⟩
 simp [Lit.wf] at hw
 have e1:IntKind.i64.min=-9223372036854775808:=by decide
 have e2:IntKind.i64.max=9223372036854775807:=by decide
 first
  | exact hw
  | (rw [e1] at hw;exact hw)
  | (rw [e1,e2] at hw;exact hw)
theorem b76 {n:Nat} {rs:List RV} (h:a0b Tryz.prog (n+3) 30 rs):∃ x:LWire,P3 x=.agg rs∧a0v maxLen x∧c3s x:=by
 unfold a0b at h
 rw [Tryz.underlying30] at h
 obtain ⟨r0,r1,rfl,h0,r2,r3,rfl,h1,r4,r5,rfl,h2,r6,r7,rfl,h3,r8,r9,rfl,h4,r10,r11,rfl,h5,r12,r13,rfl,h6,rfl⟩:=h
 obtain ⟨s0,rfl⟩:=b3r h0
 obtain ⟨s1,rfl,b1⟩:=b89 h1
 obtain ⟨s2,rfl,b2⟩:=a5r h2
 obtain ⟨s3,rfl,b3⟩:=a5r h3
 obtain ⟨s4,rfl,b4⟩:=a68 h4
 obtain ⟨s5,rfl,b5⟩:=a5r h5
 obtain ⟨s6,rfl⟩:=b9z h6
 exact ⟨⟨s0,s1,s2,s3,s4,s5,s6⟩,rfl,⟨b2,b3,b4,b5⟩,b1⟩
end Go.Proofs.YtfoapolbgpjfaaaGreatDoor
end
