/- Ep: merged out of IRoo, KJu, KJv. -/
import Derived.Test.YtaohlnejdphldaaGreatDoorPWv
import Derived.Test.YtaohlnejdphldaaGreatDoorChecked
import Derived.KernelRfl
import Derived.Test.YtaohlnejdphldaaGreatDoorEh
import Derived.Test.YtaohlnejdphldaaGreatDoorAc

/- Functions of the seat as data. MADE BY PROGRAM (print_ir.py). -/
section
set_option maxRecDepth 100000
namespace Go.Proofs
open Go.PW Go.PW.I

def ir22_s6 : PC := .seq (.block 3 (.seq (.reg [o 6 (.mov (i 0))]) (.block 4 (.loop (.ghost (.seq (.seq (.reg [m 41 6, o 42 (.faddr 7 (.t 1)), l 43 42, m 44 4, o 45 (.iaddr 7 (.t
 43) (.t 44)), o 46 (.faddr 4 (.t 45)), l 47 46, o 48 (.len (.t 47)), o 49 (.bin .lss (.t 41) (.t 48))]) (.cond (.t 49) (.skip) (.exit 4))) (.seq (.block 5 (.seq (.draw [o 52
 (.faddr 7 (.t 1)), l 53 52, m 54 5, o 55 (.iaddr 7 (.t 53) (.t 54)), o 56 (.faddr 4 (.t 55)), l 57 56, o 58 (.faddr 7 (.t 1)), l 59 58, m 60 4, o 61 (.iaddr 7 (.t 59) (.t 60)), o
 62 (.faddr 4 (.t 61)), l 63 62, m 64 6, o 65 (.iaddr 1 (.t 63) (.t 64)), l 66 65, o 67 (.call 61 [.t 57, .t 66])] []) (.cond (.t 67) (.seq (.reg [o 2 (.mov F), o 3 (.mov (i 0))])
 (.ret)) (.skip)))) (.reg [m 50 6, o 51 (.bin .add (.t 50) (i 1)), m 6 51])))))))) (.reg [m 39 5, o 40 (.bin .add (.t 39) (i 1)), m 5 40])
def ir22_s32 : PC := .seq (.reg [m 32 4, o 33 (.bin .add (.t 32) (i 1)), m 5 33]) (.block 2 (.loop (.ghost (.seq (.seq (.reg [m 34 5, o 35 (.faddr 7 (.t 1)), l 36 35, o 37 (.len (.t
 36)), o 38 (.bin .lss (.t 34) (.t 37))]) (.cond (.t 38) (.skip) (.exit 2))) (ir22_s6)))))
/-- spec.NeverAgain -/
def ir22 : PC := .seq (.reg [o 1 (.box (.t 0)), o 2 (.mov F), o 3 (.mov (i 0))]) (.seq (.seq (.reg [o 7 (.load true 8 (.t 1)), o 8 (.call 28 [.t 7]), o 9 (.un .not (.t 8))]) (.cond
 (.t 9) (.seq (.reg [o 2 (.mov F), o 3 (.mov (i 1))]) (.ret)) (.skip))) (.seq (.seq (.reg [o 4 (.mov (i 0))]) (.block 0 (.loop (.ghost (.seq (.seq (.reg [m 10 4, o 11 (.faddr 7 (.t
 1)), l 12 11, o 13 (.len (.t 12)), o 14 (.bin .lss (.t 10) (.t 13))]) (.cond (.t 14) (.skip) (.exit 0))) (.seq (.block 1 (.seq (.seq (.reg [o 17 (.faddr 7 (.t 1)), l 18 17, m 19 4,
 o 20 (.iaddr 7 (.t 18) (.t 19)), o 21 (.load true 7 (.t 20)), o 22 (.call 60 [.t 21]), o 23 (.un .not (.t 22)), m 24 23, g 25 24 false (.faddr 7 (.t 1)), g 26 24 false (.load false
 1 (.t 25)), g 27 24 false (.mov (.t 4)), g 28 24 false (.iaddr 7 (.t 26) (.t 27)), g 29 24 false (.faddr 6 (.t 28)), g 30 24 false (.load false 1 (.t 29)), o 31 (.pick (.t 24) T
 (.t 30))]) (.cond (.t 31) (.exit 1) (.skip))) (ir22_s32))) (.reg [m 15 4, o 16 (.bin .add (.t 15) (i 1)), m 4 16]))))))) (.seq (.reg [o 2 (.mov T), o 3 (.mov (i 0))]) (.ret))))
theorem ok22 : chkFn Tryz.prog 22 ir22 1 [.t 2, .t 3] = true := by kernel_rfl
def ir23_s33 : PC := .seq (.reg [o 33 (.faddr 4 (.t 6)), l 34 33, o 35 (.len (.t 34)), o 36 (.mov (i 0))]) (.block 4 (.loop (.ghost (.seq (.reg [o 37 (.bin .lss (.t 36) (.t 35))])
 (.seq (.cond (.t 37) (.skip) (.exit 4)) (.seq (.block 5 (.seq (.reg [o 38 (.iaddr 1 (.t 34) (.t 36)), l 39 38, m 10 39]) (.seq (.reg [o 40 (.load true 7 (.t 6)), o 41 (.call 36 [.t
 40]), m 42 41, g 43 42 true (.faddr 6 (.t 6)), g 44 42 true (.load false 1 (.t 43)), g 45 42 true (.un .not (.t 44)), o 46 (.pick (.t 42) (.t 45) F)]) (.cond (.t 46) (.reg [m 47 4,
 m 48 10, n (.xop (.mupd false (.t 47) (.t 48) T))]) (.skip))))) (.reg [o 49 (.bin .add (.t 36) (i 1)), m 36 49])))))))
def ir23_s22 : PC := .seq (.seq (.reg [o 22 (.faddr 4 (.t 6)), l 23 22, o 24 (.len (.t 23)), o 25 (.mov (i 0))]) (.block 2 (.loop (.ghost (.seq (.reg [o 26 (.bin .lss (.t 25) (.t
 24))]) (.seq (.cond (.t 26) (.skip) (.exit 2)) (.seq (.block 3 (.seq (.reg [o 27 (.iaddr 1 (.t 23) (.t 25)), l 28 27, m 8 28]) (.seq (.reg [m 29 4, m 30 8, o 31 (.xop (.mlook false
 false (.val (.bool false)) (.t 29) (.t 30)))]) (.cond (.t 31) (.seq (.reg [o 2 (.mov F), o 3 (.mov (i 0))]) (.ret)) (.skip))))) (.reg [o 32 (.bin .add (.t 25) (i 1)), m 25
 32])))))))) (ir23_s33)
/-- impl.NeverAgain -/
def ir23 : PC := .seq (.reg [o 1 (.box (.t 0)), o 2 (.mov F), o 3 (.mov (i 0))]) (.seq (.seq (.reg [o 11 (.load true 8 (.t 1)), o 12 (.call 34 [.t 11]), o 13 (.un .not (.t 12))])
 (.cond (.t 13) (.seq (.reg [o 2 (.mov F), o 3 (.mov (i 1))]) (.ret)) (.skip))) (.seq (.reg [o 14 (.xop (.mkmap false)), m 4 14]) (.seq (.seq (.reg [o 15 (.faddr 7 (.t 1)), l 16 15,
 o 17 (.len (.t 16)), o 18 (.mov (i 0))]) (.block 0 (.loop (.ghost (.seq (.reg [o 19 (.bin .lss (.t 18) (.t 17))]) (.seq (.cond (.t 19) (.skip) (.exit 0)) (.seq (.block 1 (.seq
 (.reg [o 20 (.iaddr 7 (.t 16) (.t 18)), o 21 (.load true 7 (.t 20)), o 6 (.alloc [.val (.int .i64 0), .val (.int .i64 0), .val (.str ⟨#[]⟩), .val (.str ⟨#[]⟩), .emp 1, .val (.str
 ⟨#[]⟩), .val (.bool false)]), n (.store 7 (.t 6) (.t 21))]) (ir23_s22))) (.reg [o 50 (.bin .add (.t 18) (i 1)), m 18 50])))))))) (.seq (.reg [o 2 (.mov T), o 3 (.mov (i 0))])
 (.ret)))))
theorem ok23 : chkFn Tryz.prog 23 ir23 1 [.t 2, .t 3] = true := by kernel_rfl
/-- laws.FnExactNeverAgain -/
def ir8 : PC := .seq (.reg [o 1 (.box (.t 0)), o 2 (.mov F)]) (.seq (.reg [o 3 (.mov (i 1048576))]) (.seq (.reg [o 9 (.load true 8 (.t 1)), m 10 3, o 11 (.call 9 [.t 9, .t 10]), m 3
 11]) (.seq (.seq (.reg [m 12 3, o 13 (.bin .lss (.t 12) (i 0))]) (.cond (.t 13) (.seq (.reg [o 2 (.mov T)]) (.ret)) (.skip))) (.seq (.reg [o 15 (.load true 8 (.t 1)), o 16 (.call
 11 [.t 15]), o 17 (.call 22 [.t 16]), m 14 17, o 18 (.ext 0 (.t 14)), o 19 (.ext 1 (.t 14)), m 4 18, m 5 19]) (.seq (.reg [o 20 (.load true 8 (.t 1)), o 21 (.call 11 [.t 20]), o 6
 (.alloc [.emp 6, .val (.str ⟨#[]⟩), .emp 1, .emp 2, .val (.int .i64 0), .val (.int .i64 0), .emp 3, .emp 7]), n (.store 8 (.t 6) (.t 21))]) (.seq (.reg [o 23 (.load true 8 (.t 6)),
 o 24 (.call 23 [.t 23]), m 22 24, o 25 (.ext 0 (.t 22)), o 26 (.ext 1 (.t 22)), m 7 25, m 8 26]) (.seq (.seq (.reg [m 27 7, m 28 4, o 29 (.eqb true (.t 27) (.t 28)), m 30 29, g 31
 30 false (.mov (.t 8)), g 32 30 false (.mov (.t 5)), g 33 30 false (.bin .neq (.t 31) (.t 32)), o 34 (.pick (.t 30) T (.t 33))]) (.cond (.t 34) (.seq (.reg [o 2 (.mov F)]) (.ret))
 (.skip))) (.seq (.seq (.draw [o 35 (.load true 8 (.t 6)), o 36 (.load true 8 (.t 1)), o 37 (.call 11 [.t 36])] [o 38 (.call 13 [.t 35, .t 37]), o 39 (.un .not (.t 38))]) (.cond (.t
 39) (.seq (.reg [o 2 (.mov F)]) (.ret)) (.skip))) (.seq (.reg [o 2 (.mov T)]) (.ret))))))))))
theorem ok8 : chkFn Tryz.prog 8 ir8 1 [.t 2] = true := by kernel_rfl
end Go.Proofs
end

/- Nothing is sent again: by the program. -/
section
set_option maxRecDepth 100000
set_option linter.unusedVariables false
set_option linter.unusedSectionVars false
set_option linter.unusedSimpArgs false
namespace Go.Proofs
open Go.PW Go.KP
attribute [local simp] RV.cells RV.one PV.cells PV.solid PV.one vals? allVal mkAgg setAt RV.ofCells elems PV.killL
variable [GH]
/-- What the map holds: the numbers that are done. -/
def MR (m : MKey → Option (PV × Nat)) (d : Int → Bool) : Prop := (∀ n, (m (.i n) = none ∧ d n = false) ∨ (∃ b, m (.i n) = some (.val (.bool true), b) ∧ d n = true)) ∧ ∀ t, m (.s t) = none
theorem MR.put {m : MKey → Option (PV × Nat)} {d : Int → Bool} (h : MR m d) (k : Int) (b : Nat) : MR (mput m (.i k) (.val (.bool true)) b) (fun n => d n || decide (n = k)) := by
  refine ⟨fun n => ?_, fun t => ?_⟩
  · by_cases hk : n = k
    · subst hk
      exact .inr ⟨b, by unfold mput; rw [if_pos rfl], by simp⟩
    · have : ¬ MKey.i n = MKey.i k := fun e => hk (by cases e; rfl)
      have e : mput m (.i k) (.val (.bool true)) b (.i n) = m (.i n) := by unfold mput; rw [if_neg this]
      rw [e]
      simpa [hk] using h.1 n
  · have : ¬ MKey.s t = MKey.i k := fun e => by cases e
    unfold mput; rw [if_neg this]; exact h.2 t
theorem MR.same {m : MKey → Option (PV × Nat)} {d d' : Int → Bool} (h : MR m d) (e : ∀ n, d n = d' n) : MR m d' := ⟨fun n => by rw [← e n]; exact h.1 n, h.2⟩
theorem MR.kill {m : MKey → Option (PV × Nat)} {d : Int → Bool} (h : MR m d) (f : Nat → Bool) : (fun k => (m k).map fun p => (p.1.kill f, p.2)) = m := by
  funext k
  cases k with
  | s t => rw [h.2 t]; rfl
  | i n =>
    rcases h.1 n with ⟨e, _⟩ | ⟨b, e, _⟩
    · rw [e]; rfl
    · rw [e]; rfl
def wbox (w : LWire) : MObj := .box [.val (num w.at_), .val (num w.status), .val (tx w.group), .val (tx w.url), .val (.list 1 (w.ids.map num)), .val (tx w.body), .val (.bool w.lost)]
def wgood (w : LWire) : Bool := lgood w && !w.lost
structure NS (st : St) (ws : List LWire) (i : Nat) (w : LWire) : Prop where
  e4 : st.env 4 = .own 14
  e6 : st.env 6 = .ptr 6 0
  e16 : st.env 16 = .val (.list 7 (ws.map rvWire))
  e17 : st.env 17 = .val (num ws.length)
  e18 : st.env 18 = .val (num i)
  m6 : st.mem 6 = wbox w
theorem nev_s33 {K : Kx (PExit → St → Prop)} (ws : List LWire) (i : Nat) (w : LWire) (hl : w.ids.length ≤ 1048576) (d : Int → Bool) (clk : Nat) (m : MKey → Option (PV × Nat)) (hd : MR m d)
    (hn : ∀ st' clk' m', NS st' ws i w → st'.mem 14 = .map false clk' m' → MR m' (fun n => d n || (wgood w && decide (n ∈ w.ids))) → K.k .normal st')
    (st : St) (h : NS st ws i w) (m14 : st.mem 14 = .map false clk m) : EC Tryz.prog ir23_s33 st (K := K) := by
  obtain ⟨e4, e6, e16, e17, e18, m6⟩ := h
  unfold ir23_s33
  simp [e4, e6, e16, e17, e18, m6, m14, wbox, num, tx]
  refine loop_EC (X := Nat × Nat × (MKey → Option (PV × Nat))) (fun x => ⟨envOf [(4, .own 14), (6, .ptr 6 0), (16, .val (.list 7 (ws.map rvWire))), (17, .val (num ws.length)), (18, .val (num i)), (34, .val (.list 1 (w.ids.map num))), (35, .val (num w.ids.length)), (36, .val (num x.1))], memOf [(6, wbox w), (14, .map false x.2.1 x.2.2)]⟩)
    (fun x => x.1 ≤ w.ids.length ∧ MR x.2.2 (fun n => d n || (wgood w && decide (n ∈ w.ids.take x.1)))) (fun x => w.ids.length - x.1) (0, clk, m) (Le.mk _ _ ?_ ?_) ?_ ?_
  · simp [e4, e6, e16, e17, e18, num]
  · simp [m6, m14, wbox, num, tx]
  · exact ⟨by simp, hd.same fun n => by simp⟩
  · rintro ⟨j, clk, m⟩ ⟨hj, hm⟩
    simp only at hj hm
    simp [num]
    refine iteP_intro (fun h1 => ?_) (fun h1 => ?_)
    · obtain ⟨id, hid⟩ : ∃ id, w.ids[j] = id := ⟨_, rfl⟩
      have wi : IntKind.i64.wrap ((j : Int) + 1) = ((j + 1 : Nat) : Int) := by rw [wrap_i64 (by omega) (by omega)]; omega
      have htk : w.ids.take (j + 1) = w.ids.take j ++ [id] := by rw [List.take_add_one, List.getElem?_eq_getElem h1, hid]; rfl
      have hG := i_successful w
      simp [num, tx, h1, hid, wbox, allVal]
      refine callS_val rfl rfl (.inl rfl) hG ?_
      have hskip : wgood w = false → MR m (fun n => d n || (wgood w && decide (n ∈ w.ids.take (j + 1)))) := fun hw => hm.same fun n => by rw [hw]; rfl
      have hput : wgood w = true → ∀ b, MR (mput m (.i id) (.val (.bool true)) b) (fun n => d n || (wgood w && decide (n ∈ w.ids.take (j + 1)))) := fun hw b => (hm.put id b).same fun n => by
        rw [hw, htk]
        simp [Bool.or_assoc]
      cases hg : lgood w with
      | false =>
        have hw : wgood w = false := by unfold wgood; rw [hg]; rfl
        simp [num, tx]
        refine LoopNext.mk (j + 1, clk, m) ⟨h1, hskip hw⟩ (by simp only; omega) (Le.mk _ _ ?_ ?_)
        · simp [num, wi]
        · simp [wbox, num, tx]
      | true =>
        cases hlo : w.lost with
        | true =>
          have hw : wgood w = false := by unfold wgood; rw [hg, hlo]; rfl
          simp [num, tx, hlo]
          refine LoopNext.mk (j + 1, clk, m) ⟨h1, hskip hw⟩ (by simp only; omega) (Le.mk _ _ ?_ ?_)
          · simp [num, wi]
          · simp [wbox, num, tx, hlo]
        | false =>
          have hw : wgood w = true := by unfold wgood; rw [hg, hlo]; rfl
          rcases hm.1 id with ⟨hnone, _⟩ | ⟨b, hsome, _⟩
          · simp [num, tx, hlo, hnone]
            refine LoopNext.mk (j + 1, clk + 1, mput m (.i id) (.val (.bool true)) clk) ⟨h1, hput hw clk⟩ (by simp only; omega) (Le.mk _ _ ?_ ?_)
            · simp [num, wi]
            · simp [wbox, num, tx, hlo]
          · simp [num, tx, hlo, hsome]
            refine LoopNext.mk (j + 1, clk, mput m (.i id) (.val (.bool true)) b) ⟨h1, hput hw b⟩ (by simp only; omega) (Le.mk _ _ ?_ ?_)
            · simp [num, wi]
            · simp [wbox, num, tx, hlo]
    · have e : j = w.ids.length := by omega
      subst e
      rw [List.take_length] at hm
      simp [num]
      refine hn _ clk m ⟨?_, ?_, ?_, ?_, ?_, ?_⟩ ?_ hm
      all_goals simp [num, wbox, tx]
theorem nev_s22 {K : Kx (PExit → St → Prop)} (ws : List LWire) (i : Nat) (w : LWire) (hl : w.ids.length ≤ 1048576) (d : Int → Bool) (clk : Nat) (m : MKey → Option (PV × Nat)) (hd : MR m d)
    (hn : w.ids.any d = false → ∀ st' clk' m', NS st' ws i w → st'.mem 14 = .map false clk' m' → MR m' (fun n => d n || (wgood w && decide (n ∈ w.ids))) → K.k .normal st')
    (hr : w.ids.any d = true → ∀ st', st'.env 2 = .val (.bool false) → st'.env 3 = .val (num 0) → K.k .ret st')
    (st : St) (h : NS st ws i w) (m14 : st.mem 14 = .map false clk m) : EC Tryz.prog ir23_s22 st (K := K) := by
  obtain ⟨e4, e6, e16, e17, e18, m6⟩ := h
  unfold ir23_s22
  simp [e4, e6, e16, e17, e18, m6, m14, wbox, num, tx]
  refine loop_EC (X := Nat) (fun j => ⟨envOf [(4, .own 14), (6, .ptr 6 0), (16, .val (.list 7 (ws.map rvWire))), (17, .val (num ws.length)), (18, .val (num i)), (23, .val (.list 1 (w.ids.map num))), (24, .val (num w.ids.length)), (25, .val (num j))], memOf [(6, wbox w), (14, .map false clk m)]⟩)
    (fun j => j ≤ w.ids.length ∧ (w.ids.take j).any d = false) (fun j => w.ids.length - j) 0 (Le.mk _ _ ?_ ?_) ?_ ?_
  · simp [e4, e6, e16, e17, e18, num]
  · simp [m6, m14, wbox, num, tx]
  · simp
  · rintro j ⟨hj, hall⟩
    simp [num]
    refine iteP_intro (fun h1 => ?_) (fun h1 => ?_)
    · obtain ⟨id, hid⟩ : ∃ id, w.ids[j] = id := ⟨_, rfl⟩
      have wi : IntKind.i64.wrap ((j : Int) + 1) = ((j + 1 : Nat) : Int) := by rw [wrap_i64 (by omega) (by omega)]; omega
      have htk : w.ids.take (j + 1) = w.ids.take j ++ [id] := by rw [List.take_add_one, List.getElem?_eq_getElem h1, hid]; rfl
      have hmem : id ∈ w.ids := by rw [← hid]; exact List.getElem_mem h1
      rcases hd.1 id with ⟨hnone, hdf⟩ | ⟨b, hsome, hdt⟩
      · simp [num, tx, h1, hid, wbox, hnone]
        refine LoopNext.mk (j + 1) ⟨h1, ?_⟩ (by omega) (Le.mk _ _ ?_ ?_)
        · rw [htk, List.any_append, hall]; simp [hdf]
        · simp [num, wi]
        · simp [wbox, num, tx]
      · simp [num, tx, h1, hid, wbox, hsome]
        refine hr (List.any_eq_true.2 ⟨id, hmem, hdt⟩) _ ?_ ?_
        all_goals simp [num]
    · have e : j = w.ids.length := by omega
      subst e
      rw [List.take_length] at hall
      simp [num]
      refine nev_s33 ws i w hl d clk m hd (hn hall) _ ⟨?_, ?_, ?_, ?_, ?_, ?_⟩ ?_
      all_goals simp [num, wbox, tx]
def naRes (p : LPipe) : PV := .tup [.val (.bool (lpipeOK p && lsn wgood p.wires)), .val (num (if lpipeOK p then 0 else 1))]
theorem i_NeverAgain (p : LPipe) (hb : bdPipe 1048576 p) : CallOK Tryz.prog 23 [.val (rvPipe p)] (.ret (naRes p) []) [] := by
  have hwl : p.wires.length ≤ 1048576 := hb.2.2.2.1
  have hse : lnev wgood p.wires (fun _ => false) = lsn wgood p.wires := by
    rw [lnev_eq]
    have : (p.wires.all fun v => !(v.ids.any fun _ => false)) = true := by
      rw [List.all_eq_true]; intro v _; rw [List.any_eq_false.2 (by simp)]; rfl
    rw [this, Bool.true_and]
  refine call_val mixed ok23 rfl (fun _ => rfl) ?_
  unfold ir23
  rw [evalC_intro]
  unfold naRes
  rw [← hse]
  obtain ⟨r, hr⟩ : ∃ r, lnev wgood p.wires (fun _ => false) = r := ⟨_, rfl⟩
  rw [hr]
  simp [initSt, avPVs, avPV, avBoxesL, avBoxes, rvPipe, tx, num, allVal]
  refine callS_val rfl rfl (.inl rfl) (i_PipeOK p hb) ?_
  cases hok : lpipeOK p with
  | false => simp [num]
  | true =>
    simp [num]
    refine loop_EC (X := Nat × Nat × (MKey → Option (PV × Nat))) (fun x => ⟨envOf [(4, .own 14), (16, .val (.list 7 (p.wires.map rvWire))), (17, .val (num p.wires.length)), (18, .val (num x.1))], memOf [(14, .map false x.2.1 x.2.2)]⟩)
      (fun x => x.1 ≤ p.wires.length ∧ ∃ d, MR x.2.2 d ∧ lnev wgood (p.wires.drop x.1) d = r) (fun x => p.wires.length - x.1) (0, 0, fun _ => none) (Le.mk _ _ ?_ ?_) ?_ ?_
    · simp [num, PV.kill]
    · simp
    · exact ⟨by simp, fun _ => false, ⟨fun n => .inl ⟨rfl, rfl⟩, fun _ => rfl⟩, hr⟩
    · rintro ⟨i, clk, m⟩ ⟨hi, d, hd, hrr⟩
      simp only at hi hd hrr
      simp [num]
      refine iteP_intro (fun h1 => ?_) (fun h1 => ?_)
      · have hbw := hb.2.2.2.2 _ (List.getElem_mem h1)
        obtain ⟨w, hw⟩ : ∃ w, p.wires[i] = w := ⟨_, rfl⟩
        rw [hw] at hbw
        have hil : w.ids.length ≤ 1048576 := hbw.2.2.1
        have wi : IntKind.i64.wrap ((i : Int) + 1) = ((i + 1 : Nat) : Int) := by rw [wrap_i64 (by omega) (by omega)]; omega
        rw [List.drop_eq_getElem_cons h1, hw, lnev] at hrr
        simp [num, h1, hw, rvWire, tx, PV.kill, MObj.kill]
        refine nev_s22 p.wires i w hil d clk m hd (fun ha st' clk' m' q m14 hm' => ?_) (fun ha st' q2 q3 => ?_) _ ⟨?_, ?_, ?_, ?_, ?_, ?_⟩ ?_
        · obtain ⟨e4, e6, e16, e17, e18, m6⟩ := q
          simp [e4, e16, e17, e18, num]
          rw [ha] at hrr
          refine LoopNext.mk (i + 1, clk', m') ⟨h1, _, hm', by simpa using hrr⟩ (by simp only; omega) (Le.mk _ _ ?_ ?_)
          · simp [num, wi, e4, e16, e17, e18]
          · simp [m14]
        · rw [ha] at hrr
          have hf : r = false := by rw [← hrr]; rfl
          subst hf
          simp [q2, q3, num]
        all_goals simp [num, wbox, tx, rvWire, PV.kill, MObj.kill]
        exact hd.kill _
      · have e : i = p.wires.length := by omega
        subst e
        rw [List.drop_length, lnev] at hrr
        subst hrr
        simp [num]
end Go.Proofs
end

/- Nothing is sent again: by the reference; the law of NeverAgain. -/
section
set_option maxRecDepth 100000
set_option linter.unusedVariables false
set_option linter.unusedSectionVars false
set_option linter.unusedSimpArgs false
namespace Go.Proofs
open Go.PW Go.KP
attribute [local simp] RV.cells RV.one PV.cells PV.solid PV.one vals? allVal mkAgg setAt RV.ofCells elems PV.killL
variable [GH]
theorem sp_s6 {K : Kx (PExit → St → Prop)} (p : LPipe) (hb : bdPipe 1048576 p) (i k : Nat) (h1 : i < p.wires.length) (h2 : k < p.wires.length)
    (hn : lapart p.wires[i] p.wires[k] = true → ∀ st' : St, st'.env 1 = .ptr 1 0 → st'.env 4 = .val (num i) → st'.env 5 = .val (num ((k + 1 : Nat) : Int)) → st'.mem 1 = pBox p → K.k .normal st')
    (hr : lapart p.wires[i] p.wires[k] = false → ∀ st' : St, st'.env 2 = .val (.bool false) → st'.env 3 = .val (num 0) → K.k .ret st')
    (st : St) (e1 : st.env 1 = .ptr 1 0) (e4 : st.env 4 = .val (num i)) (e5 : st.env 5 = .val (num k)) (m1 : st.mem 1 = pBox p) : EC Tryz.prog ir22_s6 st (K := K) := by
  have hwl : p.wires.length ≤ 1048576 := hb.2.2.2.1
  have bw := hb.2.2.2.2 _ (List.getElem_mem h1)
  have bv := hb.2.2.2.2 _ (List.getElem_mem h2)
  obtain ⟨w, hw⟩ : ∃ w, p.wires[i] = w := ⟨_, rfl⟩
  obtain ⟨v, hv⟩ : ∃ v, p.wires[k] = v := ⟨_, rfl⟩
  rw [hw, hv] at hn hr
  rw [hw] at bw
  rw [hv] at bv
  have wl : w.ids.length ≤ 1048576 := bw.2.2.1
  have vl : v.ids.length ≤ 1048576 := bv.2.2.1
  have wk : IntKind.i64.wrap ((k : Int) + 1) = ((k + 1 : Nat) : Int) := by rw [wrap_i64 (by omega) (by omega)]; omega
  unfold ir22_s6
  simp [e1, e4, e5, m1, pBox, num, tx]
  refine loop_EC (X := Nat) (fun j => ⟨envOf [(1, .ptr 1 0), (4, .val (num i)), (5, .val (num k)), (6, .val (num j))], memOf [(1, pBox p)]⟩) (fun j => j ≤ w.ids.length ∧ (w.ids.take j).all (fun n => decide (n ∉ v.ids)) = true) (fun j => w.ids.length - j) 0 (Le.mk _ _ ?_ ?_) ?_ ?_
  · simp [e1, e4, e5, num]
  · simp [m1]
  · simp
  · rintro j ⟨hj, hall⟩
    simp [num, tx, pBox, h1, hw, rvWire]
    refine iteP_intro (fun h3 => ?_) (fun h3 => ?_)
    · obtain ⟨id, hid⟩ : ∃ id, w.ids[j] = id := ⟨_, rfl⟩
      have wi : IntKind.i64.wrap ((j : Int) + 1) = ((j + 1 : Nat) : Int) := by rw [wrap_i64 (by omega) (by omega)]; omega
      have htk : w.ids.take (j + 1) = w.ids.take j ++ [id] := by rw [List.take_add_one, List.getElem?_eq_getElem h3, hid]; rfl
      have hmem : id ∈ w.ids := by rw [← hid]; exact List.getElem_mem h3
      simp [num, tx, pBox, h1, h2, h3, hw, hv, hid, rvWire]
      refine callX_val rfl rfl (.inl rfl) (c_l12In v.ids id (by omega)) ?_
      by_cases hm : id ∈ v.ids
      · simp [num, hm]
        refine hr ?_ _ ?_ ?_
        · unfold lapart
          rw [Bool.eq_false_iff]
          intro hh
          have := List.all_eq_true.1 hh id hmem
          simp [hm] at this
        all_goals simp [num]
      · simp [num, hm]
        refine LoopNext.mk (j + 1) ⟨h3, ?_⟩ (by omega) (Le.mk _ _ ?_ ?_)
        · rw [htk, List.all_append, hall]; simp [hm]
        · simp [num, wi]
        · simp [pBox, num, tx]
    · have e : j = w.ids.length := by omega
      subst e
      rw [List.take_length] at hall
      simp [num]
      refine hn hall _ ?_ ?_ ?_ ?_
      all_goals simp [num, wk, pBox, tx]

theorem drop_all (ws : List LWire) (f : LWire → Bool) (i : Nat) : ((ws.drop i).all f = true) ↔ ∀ t, i ≤ t → ∀ h : t < ws.length, f ws[t] = true := by
  rw [List.all_eq_true]
  constructor
  · intro h t ht hl
    refine h _ ?_
    rw [List.mem_iff_getElem]
    exact ⟨t - i, by rw [List.length_drop]; omega, by rw [List.getElem_drop]; congr 1; omega⟩
  · intro h x hx
    obtain ⟨t, ht, rfl⟩ := List.mem_iff_getElem.1 hx
    rw [List.getElem_drop]
    exact h _ (by omega) _
theorem sp_s32 {K : Kx (PExit → St → Prop)} (p : LPipe) (hb : bdPipe 1048576 p) (i : Nat) (h1 : i < p.wires.length)
    (hn : (p.wires.drop (i + 1)).all (lapart p.wires[i]) = true → ∀ st' : St, st'.env 1 = .ptr 1 0 → st'.env 4 = .val (num i) → st'.mem 1 = pBox p → K.k .normal st')
    (hr : (p.wires.drop (i + 1)).all (lapart p.wires[i]) = false → ∀ st' : St, st'.env 2 = .val (.bool false) → st'.env 3 = .val (num 0) → K.k .ret st')
    (st : St) (e1 : st.env 1 = .ptr 1 0) (e4 : st.env 4 = .val (num i)) (m1 : st.mem 1 = pBox p) : EC Tryz.prog ir22_s32 st (K := K) := by
  have hwl : p.wires.length ≤ 1048576 := hb.2.2.2.1
  have wi : IntKind.i64.wrap ((i : Int) + 1) = ((i + 1 : Nat) : Int) := by rw [wrap_i64 (by omega) (by omega)]; omega
  unfold ir22_s32
  simp [e1, e4, m1, num, wi]
  refine loop_EC (X := Nat) (fun k => ⟨envOf [(1, .ptr 1 0), (4, .val (num i)), (5, .val (num k))], memOf [(1, pBox p)]⟩) (fun k => (i + 1 ≤ k ∧ k ≤ p.wires.length) ∧ ∀ t, i + 1 ≤ t → t < k → ∀ h : t < p.wires.length, lapart p.wires[i] p.wires[t] = true) (fun k => p.wires.length - k) (i + 1) (Le.mk _ _ ?_ ?_) ?_ ?_
  · simp [e1, e4, num]
  · simp [m1]
  · exact ⟨⟨by omega, by omega⟩, fun t h1 h2 => by omega⟩
  · rintro k ⟨⟨hk1, hk2⟩, hall⟩
    simp [num, tx, pBox]
    refine iteP_intro (fun h3 => ?_) (fun h3 => ?_)
    · simp [num, tx]
      refine sp_s6 p hb i k h1 h3 (fun ha st' q1 q4 q5 p1 => ?_) (fun ha st' q2 q3 => ?_) _ ?_ ?_ ?_ ?_
      · simp [q1, q4, q5, num]
        refine LoopNext.mk (k + 1) ⟨⟨by omega, by omega⟩, fun t t1 t2 t3 => ?_⟩ (by omega) (Le.mk _ _ ?_ ?_)
        · by_cases ht : t = k
          · subst ht; exact ha
          · exact hall t t1 (by omega) t3
        · simp [num, q1, q4, q5]
        · simp [p1]
      · simp
        refine hr ?_ _ q2 q3
        rw [Bool.eq_false_iff]
        intro hh
        rw [(drop_all _ _ _).1 hh k (by omega) h3] at ha
        cases ha
      all_goals simp [num, pBox, tx]
    · simp
      refine hn ((drop_all _ _ _).2 fun t t1 t2 => hall t t1 (by omega) t2) _ ?_ ?_ ?_
      all_goals simp [num, pBox, tx]

theorem c_NeverAgain (p : LPipe) (hb : bdPipe 1048576 p) : CallOK Tryz.prog 22 [.val (rvPipe p)] (.ret (naRes p) []) [] := by
  have hwl : p.wires.length ≤ 1048576 := hb.2.2.2.1
  refine call_val mixed ok22 rfl (fun _ => rfl) ?_
  unfold ir22
  rw [evalC_intro]
  unfold naRes
  obtain ⟨r, hr⟩ : ∃ r, lsn wgood p.wires = r := ⟨_, rfl⟩
  rw [hr]
  simp [initSt, avPVs, avPV, avBoxesL, avBoxes, rvPipe, tx, num, allVal]
  refine callS_val rfl rfl (.inl rfl) (c_l08OK p hb) ?_
  cases hok : lpipeOK p with
  | false => simp [num]
  | true =>
    have hst := statuses p hok
    simp [num]
    refine loop_EC (X := Nat) (fun i => ⟨envOf [(1, .ptr 1 0), (4, .val (num i))], memOf [(1, pBox p)]⟩) (fun i => i ≤ p.wires.length ∧ lsn wgood (p.wires.drop i) = r) (fun i => p.wires.length - i) 0 (Le.mk _ _ ?_ ?_) ?_ ?_
    · simp [num, PV.kill]
    · simp [pBox, tx, num, MObj.kill, PV.kill]
    · exact ⟨by simp, hr⟩
    · rintro i ⟨hi, hrr⟩
      simp [num, pBox, tx]
      refine iteP_intro (fun h1 => ?_) (fun h1 => ?_)
      · have hsw := hst _ (List.getElem_mem h1)
        obtain ⟨w, hw⟩ : ∃ w, p.wires[i] = w := ⟨_, rfl⟩
        rw [hw] at hsw
        have wi : IntKind.i64.wrap ((i : Int) + 1) = ((i + 1 : Nat) : Int) := by rw [wrap_i64 (by omega) (by omega)]; omega
        rw [List.drop_eq_getElem_cons h1, hw, lsn] at hrr
        simp [num, h1, hw, rvWire, tx, PV.kill, MObj.kill]
        refine callS_val rfl rfl (.inl rfl) (c_l12Good w hsw) ?_
        have hskip : wgood w = false → lsn wgood (p.wires.drop (i + 1)) = r := fun h => by rw [h] at hrr; simpa using hrr
        cases hg : lgood w with
        | false =>
          simp [num, tx]
          refine LoopNext.mk (i + 1) ⟨h1, hskip (by unfold wgood; rw [hg]; rfl)⟩ (by omega) (Le.mk _ _ ?_ ?_)
          · simp [num, wi]
          · simp [pBox, num, tx]
        | true =>
          cases hlo : w.lost with
          | true =>
            simp [num, tx, h1, hw, rvWire, hlo]
            refine LoopNext.mk (i + 1) ⟨h1, hskip (by unfold wgood; rw [hg, hlo]; rfl)⟩ (by omega) (Le.mk _ _ ?_ ?_)
            · simp [num, wi]
            · simp [pBox, num, tx]
          | false =>
            have hgd : wgood w = true := by unfold wgood; rw [hg, hlo]; rfl
            rw [hgd] at hrr
            simp only [Bool.not_true, Bool.false_or] at hrr
            simp [num, tx, h1, hw, rvWire, hlo]
            refine sp_s32 p hb i h1 (fun ha st' q1 q4 p1 => ?_) (fun ha st' q2 q3 => ?_) _ ?_ ?_ ?_
            · simp [q1, q4, num]
              rw [hw] at ha
              rw [ha] at hrr
              refine LoopNext.mk (i + 1) ⟨h1, by simpa using hrr⟩ (by omega) (Le.mk _ _ ?_ ?_)
              · simp [num, wi, q1, q4]
              · simp [p1]
            · rw [hw] at ha
              rw [ha] at hrr
              have hf : r = false := by rw [← hrr]; rfl
              subst hf
              simp [q2, q3, num]
            all_goals simp [num, pBox, tx]
      · have e : i = p.wires.length := by omega
        subst e
        rw [List.drop_length, lsn] at hrr
        subst hrr
        simp [num]
theorem law_NeverAgain (p : LPipe) (hb : bdPipe 9223372036854775807 p) : CallOK Tryz.prog 8 [.val (rvPipe p)] (.ret (.val (.bool true)) []) [] := by
  refine call_val mixed ok8 rfl (fun _ => rfl) ?_
  unfold ir8
  rw [evalC_intro]
  simp [initSt, avPVs, avPV, avBoxesL, avBoxes, rvPipe, tx, num, allVal]
  refine callS_val rfl rfl (.inl rfl) (g_szPipe p 1048576 (by omega) (by omega) hb) ?_
  by_cases hz : cut 1048576 (zPipe p) < 0
  · simp [num, hz]
  · obtain ⟨hz1, _⟩ := cut_small hz (by omega)
    have hs : bdPipe 1048576 p := zPipe_bd (by omega)
    simp [num, hz, allVal]
    refine callS_val rfl rfl (.inl rfl) (g_toPipe p hs) ?_
    simp [allVal, num]
    refine callS_pv rfl rfl (fun _ => rfl) rfl (.inl rfl) (c_NeverAgain p hs) ?_
    simp [allVal, rvPipe, tx, num, naRes]
    refine callS_val rfl rfl (.inl rfl) (g_toPipe p hs) ?_
    simp [allVal, rvPipe, tx, num]
    refine callS_pv rfl rfl (fun _ => rfl) rfl (.inl rfl) (i_NeverAgain p hs) ?_
    simp [allVal, rvPipe, tx, num, naRes]
    refine callX_val rfl rfl (.inl rfl) (g_toPipe p hs) ?_
    simp [allVal, rvPipe, tx, num]
    refine callS_val rfl rfl (.inl rfl) (g_eqPipe p hs) ?_
    simp
end Go.Proofs
end
