/- Fb: merged out of KUa, KUc, KUd. -/
import Derived.Test.YtnopddgnkefljaaGreatDoorFa
import Derived.Test.YtnopddgnkefljaaGreatDoorEa
import Derived.Test.YtnopddgnkefljaaGreatDoorRows
import Derived.ProofKit
import Derived.LaidMore
import Derived.OpenShut
import Derived.Stop.Joined
import Derived.Lib.LaidTab
import Derived.Test.YtnopddgnkefljaaGreatDoorAc
import Derived.JoinedOf
import Derived.SevenTiedAt

/- What the row's condition gives: the library's variables. -/
section
set_option maxRecDepth 100000
set_option linter.unusedVariables false
set_option linter.unusedSectionVars false
set_option linter.unusedSimpArgs false
namespace Go.Proofs.YtnopddgnkefljaaGreatDoor
open Go.ChangeShapes Go.WideShapes Go.ChangeAt Go.WideMaps Go.WideElems Go.RowKit Go.PW Go.KP

theorem own : ownKnob Tryz.prog.godebug = none := by kernel_rfl
theorem laidOut : laidOutB Tryz.prog = true := by kernel_rfl
def lay5 : List (String × DataW Unit) := [("math/bits.deBruijn32tab", Rows.laid_math_bits_deBruijn32tab), ("math/bits.deBruijn64tab", Rows.laid_math_bits_deBruijn64tab), ("internal/strconv.uint64pow10", Rows.laid_internal_strconv_uint64pow10), ("strconv.ErrRange", Rows.laid_strconv_ErrRange), ("strconv.ErrSyntax", Rows.laid_strconv_ErrSyntax)]

/-- The door's own heap meets the condition. -/
theorem door_met (os : Os) (args : Array Value) : laidMetH Tryz.prog lay5 ((World.doorLaid Tryz.prog 4000 os).forCall (fun _ _ => 0) ⟨#[], args, []⟩).memory :=
  laidMetH_of_parts3 (fuel := 8) (laidMet_of_run' 8 (by kernel_rfl) (by kernel_rfl)) (by kernel_rfl) (by kernel_rfl)

theorem pow10_data {H : Type} : (Rows.laid_internal_strconv_uint64pow10 : DataW H) = Lib.tabData .u64 Lib.pow10Tab := by rfl
theorem gPow : Tryz.prog.globalNamed "internal/strconv.uint64pow10" = some 1 := by kernel_rfl
theorem gSyn : Tryz.prog.globalNamed "strconv.ErrSyntax" = some 2 := by kernel_rfl
theorem gRng : Tryz.prog.globalNamed "strconv.ErrRange" = some 3 := by kernel_rfl

def isIface (P : Program) (t : TypeId) : Bool := match P.underlying t with | some (.interface _) => true | _ => false
theorem iface_of {w : World} {enc : TypeId × Value → Unit} {sp : Nat → Bool} {fuel : Nat} {t : TypeId} {cs : List Value} {name : String} {d : DataW Unit} {p : List MemPlace} (ht : isIface Tryz.prog t = true)
    (h : DataW.trod enc Tryz.prog w 0 sp false fuel t cs = some (.iface name d, p)) : ∃ u v, cs = [.iface u v] := by
  unfold isIface at ht
  split at ht
  · rename_i ms hu
    cases fuel with
    | zero => simp [DataW.trod] at h
    | succ fuel =>
      unfold DataW.trod at h
      rw [hu] at h
      split at h <;> simp_all
  · cases ht

/-- THE LIBRARY's VARIABLES, out of the row's condition and the world's shape. -/
theorem gh_of {W : World} (hL : laidMetH Tryz.prog lay5 W) (hsh : W.ShapedOpen Tryz.prog) : ∃ I : GH, (∀ g ∈ I.gs, W.cell? ⟨g.1, g.2.1, none⟩ = some g.2.2) ∧ ∀ g ∈ I.bs, W.heap[g.1]? = some g.2 := by
  obtain ⟨m, hm⟩ := Tryz.laysM145.s1_3 W hsh
  rw [MakeChecks.laidMetH_plain _ _ _ (by kernel_rfl)] at hL
  obtain ⟨ps, ⟨g0, t0, cs0, f0, p0, q0, _, _, _, _, ⟨g1, t1, cs1, f1, p1, q1, _, _, _, _, ⟨g2, t2, cs2, f2, p2, q2, hg2, ht2, hv2, hd2, ⟨g3, t3, cs3, f3, p3, q3, hg3, ht3, hv3, hd3, ⟨g4, t4, cs4, f4, p4, q4, hg4, ht4, hv4, hd4, _⟩, _⟩, _⟩, _⟩, _⟩, _⟩ := hL
  have k1 : (Tryz.prog.globals[1]?).map (·.type) = some 191 := by kernel_rfl
  have k2 : Tryz.prog.underlying 191 = some (.array 20 179) := by kernel_rfl
  have k3 : Tryz.prog.underlying 179 = some (.int .u64) := by kernel_rfl
  have k4 : Tryz.prog.cellsOf 179 = 1 := by kernel_rfl
  have k5 : Tryz.prog.cellsOf 191 = 20 := by kernel_rfl
  have y1 : (Tryz.prog.globals[2]?).map (·.type) = some 119 := by kernel_rfl
  have r1 : (Tryz.prog.globals[3]?).map (·.type) = some 119 := by kernel_rfl
  have y2 : isIface Tryz.prog 119 = true := by kernel_rfl
  have r2 := y2
  obtain rfl := Option.some.inj (gPow.symm.trans hg2)
  obtain rfl := Option.some.inj (gRng.symm.trans hg3)
  obtain rfl := Option.some.inj (gSyn.symm.trans hg4)
  obtain rfl := Option.some.inj (k1.symm.trans ht2)
  obtain rfl := Option.some.inj (r1.symm.trans ht3)
  obtain rfl := Option.some.inj (y1.symm.trans ht4)
  rw [pow10_data] at hd2
  have hp := Lib.cells_of_tab k2 k3 k4 k5 hd2
  have hblock : ∃ T z, W.heap[1]? = some (.cells cs2 T z) := by
    have h2 := hv2
    unfold World.var? at h2
    rw [gPow] at h2
    simp only [Option.bind_some] at h2
    split at h2
    · rename_i c T z hh
      obtain rfl := Option.some.inj h2
      exact ⟨T, z, hh⟩
    · cases h2
  obtain ⟨T, z, hblk⟩ := hblock
  have ecs : cs2 = (Lib.pow10Tab.map fun z => Value.int .u64 z).toArray := by rw [← hp]
  rw [ecs] at hblk
  obtain ⟨ur, vr, hr⟩ := iface_of r2 hd3
  obtain ⟨us, vs, hs⟩ := iface_of y2 hd4
  have cr : W.cell? ⟨3, 0, none⟩ = some (.iface ur vr) := by
    have := World.var?_cell hg3 hv3 0
    rw [Array.eq_one_of_toList hr] at this
    simpa using this
  have cs : W.cell? ⟨2, 0, none⟩ = some (.iface us vs) := by
    have := World.var?_cell hg4 hv4 0
    rw [Array.eq_one_of_toList hs] at this
    simpa using this
  refine ⟨{ gs := [(0, 0, .int .i64 m), (2, 0, .iface us vs), (3, 0, .iface ur vr)], bs := [(1, .cells (Lib.pow10Tab.map fun z => Value.int .u64 z).toArray T z)], m := m, hm := by simp, T10 := T, z10 := z, h10 := by simp, ts := us, ps := vs, hs := by simp, tr := ur, pr := vr, hr := by simp }, ?_, ?_⟩
  · intro g hg
    rcases List.mem_cons.1 hg with rfl | hg
    · exact hm
    · rcases List.mem_cons.1 hg with rfl | hg
      · exact cs
      · rcases List.mem_cons.1 hg with rfl | hg
        · exact cr
        · cases hg
  · intro g hg
    rcases List.mem_cons.1 hg with rfl | hg
    · exact hblk
    · cases hg
end Go.Proofs.YtnopddgnkefljaaGreatDoor
end

/- What a call reads as values of the law's types is such values. -/
section
set_option maxRecDepth 100000
set_option linter.unusedVariables false
set_option linter.unusedSectionVars false
set_option linter.unusedSimpArgs false
namespace Go.Proofs.YtnopddgnkefljaaGreatDoor
open Go.ChangeShapes Go.WideShapes Go.ChangeAt Go.RowKit Go.PW Go.KP

theorem str_of_rv {n : Nat} {rs : List RV} (h : RVof Tryz.prog (n + 1) 9 rs) : ∃ s : Tx, rs = [tx s] ∧ s.length ≤ maxLen := by
  unfold RVof at h
  rw [Tryz.underlying9] at h
  obtain ⟨s, rfl, hs⟩ := h
  refine ⟨s.data.toList, ?_, ?_⟩
  · show _ = [RV.str (bs s.data.toList)]
    rw [bs_eta]
  · have e : s.data.toList.length = s.size := by rw [Array.length_toList]; rfl
    rw [e]; exact hs
theorem int_of_rv {n : Nat} {rs : List RV} (h : RVof Tryz.prog (n + 1) 3 rs) : ∃ a : Int, rs = [num a] := by
  unfold RVof at h
  rw [Tryz.underlying3] at h
  obtain ⟨a, rfl, _⟩ := h
  exact ⟨a, rfl⟩
theorem list_of_rv {α : Type} {rv : α → RV} {p : α → Prop} {f : List RV → RV} : ∀ css : List (List RV), (∀ cs ∈ css, ∃ x, f cs = rv x ∧ p x) → ∃ l : List α, css.map f = l.map rv ∧ ∀ x ∈ l, p x
  | [], _ => ⟨[], rfl, by simp⟩
  | c :: css, h => by
    obtain ⟨l, q1, q2⟩ := list_of_rv css (fun cs hcs => h cs (List.mem_cons_of_mem _ hcs))
    obtain ⟨x, q3, q4⟩ := h c (by simp)
    refine ⟨x :: l, by simp only [List.map_cons, q1, q3], ?_⟩
    intro y hy
    rcases List.mem_cons.1 hy with rfl | hy
    · exact q4
    · exact q2 y hy
theorem target_ofrv {n : Nat} {rs : List RV} (h : RVof Tryz.prog (n + 2) 123 rs) : ∃ x : LTarget, rvTarget x = .agg rs ∧ bdTarget maxLen x := by
  unfold RVof at h
  rw [Tryz.underlying123] at h
  obtain ⟨r0, r1, rfl, h0, r2, r3, rfl, h1, r4, r5, rfl, h2, rfl⟩ := h
  obtain ⟨s0, rfl, b0⟩ := str_of_rv h0
  obtain ⟨s1, rfl⟩ := int_of_rv h1
  obtain ⟨s2, rfl⟩ := int_of_rv h2
  exact ⟨⟨s0, s1, s2⟩, rfl, b0⟩
theorem targets_ofrv {n : Nat} {rs : List RV} (h : RVof Tryz.prog (n + 3) 46 rs) : ∃ l : List LTarget, rs = [.list 3 (l.map rvTarget)] ∧ bdS maxLen (bdTarget maxLen) l := by
  unfold RVof at h
  rw [Tryz.underlying46] at h
  obtain ⟨css, h1, h2, h3⟩ := h
  have hc : Tryz.prog.cellsOf 123 = 3 := by kernel_rfl
  have hs : isStruct Tryz.prog 123 = true := by kernel_rfl
  obtain ⟨l, q1, q2⟩ := list_of_rv (rv := rvTarget) (p := bdTarget maxLen) (f := mkRV Tryz.prog 123) css (fun cs hcs => by
    obtain ⟨x, q3, q4⟩ := target_ofrv (h3 cs hcs)
    exact ⟨x, by unfold mkRV; rw [hs]; exact q3.symm, q4⟩)
  refine ⟨l, ?_, ?_, q2⟩
  · rw [h1, hc, q1]
  · have := congrArg List.length q1
    simp at this
    omega
theorem group_ofrv {n : Nat} {rs : List RV} (h : RVof Tryz.prog (n + 4) 48 rs) : ∃ x : LGroup, rvGroup x = .agg rs ∧ bdGroup maxLen x := by
  unfold RVof at h
  rw [Tryz.underlying48] at h
  obtain ⟨r0, r1, rfl, h0, r2, r3, rfl, h1, r4, r5, rfl, h2, rfl⟩ := h
  obtain ⟨s0, rfl, b0⟩ := str_of_rv h0
  obtain ⟨s1, rfl⟩ := int_of_rv h1
  obtain ⟨s2, rfl, b2⟩ := targets_ofrv h2
  exact ⟨⟨s0, s1, s2⟩, rfl, ⟨b0, b2⟩⟩
theorem groups_ofrv {n : Nat} {rs : List RV} (h : RVof Tryz.prog (n + 5) 29 rs) : ∃ l : List LGroup, rs = [.list 3 (l.map rvGroup)] ∧ bdS maxLen (bdGroup maxLen) l := by
  unfold RVof at h
  rw [Tryz.underlying29] at h
  obtain ⟨css, h1, h2, h3⟩ := h
  have hc : Tryz.prog.cellsOf 48 = 3 := by kernel_rfl
  have hs : isStruct Tryz.prog 48 = true := by kernel_rfl
  obtain ⟨l, q1, q2⟩ := list_of_rv (rv := rvGroup) (p := bdGroup maxLen) (f := mkRV Tryz.prog 48) css (fun cs hcs => by
    obtain ⟨x, q3, q4⟩ := group_ofrv (h3 cs hcs)
    exact ⟨x, by unfold mkRV; rw [hs]; exact q3.symm, q4⟩)
  refine ⟨l, ?_, ?_, q2⟩
  · rw [h1, hc, q1]
  · have := congrArg List.length q1
    simp at this
    omega
end Go.Proofs.YtnopddgnkefljaaGreatDoor
end

/- What a row asks of the program as a whole. -/
section
set_option maxRecDepth 100000
namespace Go.Proofs.YtnopddgnkefljaaGreatDoor
open Go Go.ChangeShapes Go.WideShapes Go.ChangeAt Go.RowKit
theorem z5All : mapsRowed Tryz.prog = true := by kernel_rfl
theorem z6All : (Tryz.prog.stops == []) = true := by kernel_rfl
theorem z7All : (Tryz.prog.stopKnobs == []) = true := by kernel_rfl
theorem z9All : Tryz.prog.stopsHeard = true := by kernel_rfl
theorem z10All : Tryz.prog.mayEnter = true := by kernel_rfl
theorem y3All : true = Tryz.prog.looks [] := by kernel_rfl
theorem z8All : Tryz.prog.plainKeys = true := by kernel_rfl
theorem z11All : Tryz.prog.liftsFinal = false := by kernel_rfl
theorem y2All : Tryz.prog.mainIs = some (true, "9a82fa75ed562d8c26fb36ce180077d7c6cd2abbad0cd8d94e3f41441645e045".toList) := by kernel_rfl
end Go.Proofs.YtnopddgnkefljaaGreatDoor
end
