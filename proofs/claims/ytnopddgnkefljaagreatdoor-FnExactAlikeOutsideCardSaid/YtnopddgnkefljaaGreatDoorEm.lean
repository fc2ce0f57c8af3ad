/- Em: merged out of IRll, KJr. -/
import Derived.Test.YtnopddgnkefljaaGreatDoorPWv
import Derived.Test.YtnopddgnkefljaaGreatDoorChecked
import Derived.KernelRfl
import Derived.Test.YtnopddgnkefljaaGreatDoorEl
import Derived.Test.YtnopddgnkefljaaGreatDoorAc

/- Functions of the seat as data. MADE BY PROGRAM (print_ir.py). -/
section
set_option maxRecDepth 100000
namespace Go.Proofs
open Go.PW Go.PW.I

/-- slices.EqualFunc[[]impl.Json,[]impl.Json,impl.Json,impl.Json] -/
def ir85 : PC := .seq (.reg [o 6 (.mov F)]) (.seq (.seq (.reg [m 10 0, o 11 (.len (.t 10)), m 12 1, o 13 (.len (.t 12)), o 14 (.bin .neq (.t 11) (.t 13))]) (.cond (.t 14) (.seq
 (.reg [o 6 (.mov F)]) (.ret)) (.skip))) (.seq (.seq (.reg [m 15 0, o 16 (.len (.t 15)), o 17 (.mov (i 0))]) (.block 0 (.loop (.ghost (.seq (.reg [o 18 (.bin .lss (.t 17) (.t 16))])
 (.seq (.cond (.t 18) (.skip) (.exit 0)) (.seq (.block 1 (.seq (.reg [m 19 17, o 20 (.iaddr 5 (.t 15) (.t 17)), o 21 (.load true 5 (.t 20)), o 8 (.alloc [.val (.int .i64 0), .val
 (.int .i64 0), .val (.str ⟨#[]⟩), .emp 1, .emp 5]), m 7 19, n (.store 5 (.t 8) (.t 21))]) (.seq (.reg [m 22 1, m 23 7, o 24 (.iaddr 5 (.t 22) (.t 23)), o 25 (.load true 5 (.t 24)),
 o 9 (.alloc [.val (.int .i64 0), .val (.int .i64 0), .val (.str ⟨#[]⟩), .emp 1, .emp 5]), n (.store 5 (.t 9) (.t 25))]) (.seq (.reg [m 26 2, o 27 (.load true 5 (.t 8)), o 28 (.load
 true 5 (.t 9)), o 29 (.callv (.t 26) [.t 27, .t 28]), o 30 (.un .not (.t 29))]) (.cond (.t 30) (.seq (.reg [o 6 (.mov F)]) (.ret)) (.skip)))))) (.reg [o 31 (.bin .add (.t 17) (i
 1)), m 17 31])))))))) (.seq (.reg [o 6 (.mov T)]) (.ret))))
theorem ok85 : chkFn Tryz.prog 85 ir85 3 [.t 6] = true := by kernel_rfl
/-- (impl.Json).same -/
def ir40 : PC := .seq (.reg [o 2 (.box (.t 0)), o 3 (.box (.t 1)), o 4 (.mov F)]) (.seq (.reg [o 5 (.faddr 0 (.t 2)), l 6 5, o 7 (.faddr 0 (.t 3)), l 8 7, o 9 (.bin .eql (.t 6) (.t
 8)), m 10 9, g 11 10 true (.faddr 1 (.t 2)), g 12 10 true (.load false 1 (.t 11)), g 13 10 true (.faddr 1 (.t 3)), g 14 10 true (.load false 1 (.t 13)), g 15 10 true (.bin .eql (.t
 12) (.t 14)), o 16 (.pick (.t 10) (.t 15) F), m 17 16, g 18 17 true (.faddr 2 (.t 2)), g 19 17 true (.load false 1 (.t 18)), g 20 17 true (.faddr 2 (.t 3)), g 21 17 true (.load
 false 1 (.t 20)), g 22 17 true (.bin .eql (.t 19) (.t 21)), o 23 (.pick (.t 17) (.t 22) F), m 24 23, g 25 24 true (.faddr 3 (.t 2)), g 26 24 true (.load false 1 (.t 25)), g 27 24
 true (.faddr 3 (.t 3)), g 28 24 true (.load false 1 (.t 27)), g 29 24 true (.call 84 [.t 26, .t 28]), o 30 (.pick (.t 24) (.t 29) F), m 31 30, g 32 31 true (.faddr 4 (.t 2)), g 33
 31 true (.load false 1 (.t 32)), g 34 31 true (.faddr 4 (.t 3)), g 35 31 true (.load false 1 (.t 34)), g 36 31 true (.call 85 [.t 33, .t 35, .k (.fn 40 [])]), o 37 (.pick (.t 31)
 (.t 36) F), m 4 37]) (.ret))
theorem ok40 : chkFn Tryz.prog 40 ir40 2 [.t 4] = true := by kernel_rfl
/-- spec.AlikeOutside -/
def ir10 : PC := .seq (.reg [o 2 (.box (.t 0)), o 3 (.box (.t 1)), o 4 (.mov F)]) (.seq (.draw [o 5 (.load true 9 (.t 2)), o 6 (.call 35 [.t 5]), m 7 6, g 8 7 true (.load true 9 (.t
 3)), g 9 7 true (.call 35 [.t 8]), o 10 (.pick (.t 7) (.t 9) F), m 11 10, g 12 11 true (.load true 9 (.t 2)), g 13 11 true (.call 37 [.t 12]), g 14 11 true (.call 36 [.t 13]), g 15
 11 true (.load true 9 (.t 3)), g 16 11 true (.call 37 [.t 15]), g 17 11 true (.call 36 [.t 16]), g 18 11 true (.bin .eql (.t 14) (.t 17)), o 19 (.pick (.t 11) (.t 18) F)] [m 4 19])
 (.ret))
theorem ok10 : chkFn Tryz.prog 10 ir10 2 [.t 4] = true := by kernel_rfl
/-- impl.AlikeOutside -/
def ir12 : PC := .seq (.reg [o 2 (.box (.t 0)), o 3 (.box (.t 1)), o 4 (.mov F)]) (.seq (.draw [o 5 (.load true 9 (.t 2)), o 6 (.call 38 [.t 5]), m 7 6, g 8 7 true (.load true 9 (.t
 3)), g 9 7 true (.call 38 [.t 8]), o 10 (.pick (.t 7) (.t 9) F), m 11 10, g 12 11 true (.load true 9 (.t 2)), g 13 11 true (.call 39 [.t 12]), g 14 11 true (.load true 9 (.t 3)), g
 15 11 true (.call 39 [.t 14]), g 16 11 true (.call 40 [.t 13, .t 15]), o 17 (.pick (.t 11) (.t 16) F)] [m 4 17]) (.ret))
theorem ok12 : chkFn Tryz.prog 12 ir12 2 [.t 4] = true := by kernel_rfl
/-- laws.FnExactAlikeOutside -/
def ir3 : PC := .seq (.reg [o 2 (.box (.t 0)), o 3 (.box (.t 1)), o 4 (.mov F)]) (.seq (.reg [o 5 (.mov (i 1048576))]) (.seq (.reg [o 8 (.load true 9 (.t 2)), m 9 5, o 10 (.call 9
 [.t 8, .t 9]), m 5 10]) (.seq (.seq (.reg [m 11 5, o 12 (.bin .lss (.t 11) (i 0))]) (.cond (.t 12) (.seq (.reg [o 4 (.mov T)]) (.ret)) (.skip))) (.seq (.reg [o 13 (.load true 9 (.t
 3)), m 14 5, o 15 (.call 9 [.t 13, .t 14]), m 5 15]) (.seq (.seq (.reg [m 16 5, o 17 (.bin .lss (.t 16) (i 0))]) (.cond (.t 17) (.seq (.reg [o 4 (.mov T)]) (.ret)) (.skip))) (.seq
 (.draw [o 18 (.load true 9 (.t 2)), o 19 (.call 11 [.t 18]), o 20 (.load true 9 (.t 3))] [o 21 (.call 11 [.t 20]), o 22 (.call 10 [.t 19, .t 21]), m 6 22]) (.seq (.draw [o 23
 (.load true 9 (.t 2)), o 24 (.call 11 [.t 23]), o 25 (.load true 9 (.t 3))] [o 26 (.call 11 [.t 25]), o 27 (.call 12 [.t 24, .t 26]), m 7 27]) (.seq (.seq (.reg [m 28 7, m 29 6, o
 30 (.eqb true (.t 28) (.t 29))]) (.cond (.t 30) (.seq (.reg [o 4 (.mov F)]) (.ret)) (.skip))) (.seq (.reg [o 4 (.mov T)]) (.ret))))))))))
theorem ok3 : chkFn Tryz.prog 3 ir3 2 [.t 4] = true := by kernel_rfl
end Go.Proofs
end

/- Whether two violations are told alike; the law of AlikeOutside. -/
section
set_option maxRecDepth 100000
set_option linter.unusedVariables false
set_option linter.unusedSectionVars false
set_option linter.unusedSimpArgs false
namespace Go.Proofs
open Go.PW Go.KP
attribute [local simp] RV.cells RV.one PV.cells PV.solid PV.one vals? allVal mkAgg setAt RV.ofCells elems PV.killL
variable [GH]
theorem i_EqualFunc_Json (a b : List LJson) (g : Nat) (q : LJson → LJson → Bool) (r : Bool) (ha : a.length < 1099511627776) (hb : b.length < 1099511627776) (hg : fnB Tryz.prog g = true)
    (hp : ∀ x ∈ a, ∀ y ∈ b, CallOK Tryz.prog g [.val (rvJson x), .val (rvJson y)] (.ret (.val (.bool (q x y))) []) [])
    (hr : r = true ↔ (a.length = b.length ∧ ∀ j (h1 : j < a.length) (h2 : j < b.length), q a[j] b[j] = true)) :
    CallOK Tryz.prog 85 [.val (.list 5 (a.map rvJson)), .val (.list 5 (b.map rvJson)), .fn g []] (.ret (.val (.bool r)) []) [] := by
  refine call_val mixed ok85 rfl (fun _ => rfl) ?_
  unfold ir85
  rw [evalC_intro]
  by_cases hlen : a.length = b.length
  rotate_left
  · have h1 : ¬ (a.length : Int) = b.length := by omega
    obtain rfl : r = false := by
      cases r with
      | false => rfl
      | true => exact absurd (hr.1 rfl).1 hlen
    simp [initSt, avPVs, avPV, avBoxesL, avBoxes, h1]
  simp [initSt, avPVs, avPV, avBoxesL, avBoxes, num, hlen]
  refine loop_EC (X := Nat) (fun i => ⟨envOf [(0, .val (.list 5 (a.map rvJson))), (1, .val (.list 5 (b.map rvJson))), (2, .fn g []), (15, .val (.list 5 (a.map rvJson))), (16, .val (num b.length)), (17, .val (num i))], memOf []⟩) (fun i => i ≤ b.length ∧ ∀ j (h1 : j < a.length) (h2 : j < b.length), j < i → q a[j] b[j] = true) (fun i => b.length - i) 0 (Le.mk _ _ ?_ ?_) ?_ ?_
  · simp [upd, num]
  · simp
  · simp
  · rintro i ⟨hi, heq⟩
    simp [num]
    refine iteP_intro (fun h1b => ?_) (fun h1 => ?_)
    · have h1 : i < a.length := by omega
      obtain ⟨x, hx⟩ : ∃ x, a[i] = x := ⟨_, rfl⟩
      obtain ⟨y, hy⟩ : ∃ y, b[i] = y := ⟨_, rfl⟩
      have hc := hp x (hx ▸ List.getElem_mem h1) y (hy ▸ List.getElem_mem h1b)
      have hq : q a[i] b[i] = q x y := by rw [hx, hy]
      obtain ⟨k, n, t, ns, is⟩ := x
      obtain ⟨k', n', t', ns', is'⟩ := y
      rw [rvJson_mk, rvJson_mk] at hc
      have wi : IntKind.i64.wrap ((i : Int) + 1) = ((i + 1 : Nat) : Int) := by rw [wrap_i64 (by omega) (by omega)]; omega
      simp [h1, h1b, hx, hy, rvJson_mk, tx, num, hg, PV.kill, MObj.kill]
      refine callS_val rfl rfl (.inl rfl) hc ?_
      cases hu : q (.mk k n t ns is) (.mk k' n' t' ns' is') with
      | true =>
        simp [hu]
        refine LoopNext.mk (i + 1) ⟨by omega, fun j j1 j2 j3 => ?_⟩ (by omega) (Le.mk _ _ ?_ ?_)
        · by_cases hj : j = i
          · subst hj; rw [hq, hu]
          · exact heq j j1 j2 (by omega)
        · simp [num, wi, PV.kill]
        · simp
      | false =>
        obtain rfl : r = false := by
          cases r with
          | false => rfl
          | true => have := (hr.1 rfl).2 i h1 h1b; rw [hq, hu] at this; cases this
        simp [hu]
    · have e : i = b.length := by omega
      subst e
      obtain rfl : r = true := hr.2 ⟨hlen, fun j j1 j2 => heq j j1 j2 j2⟩
      simp

/-- Two values: their own parts. -/
theorem i_same_of (a b : LJson) (q : LJson → LJson → Bool) (r : Bool) (h1 : a.names.length < 1099511627776) (h2 : b.names.length < 1099511627776) (h3 : a.items.length < 1099511627776) (h4 : b.items.length < 1099511627776)
    (hp : ∀ x ∈ a.items, ∀ y ∈ b.items, CallOK Tryz.prog 40 [.val (rvJson x), .val (rvJson y)] (.ret (.val (.bool (q x y))) []) [])
    (hr : r = true ↔ (a.items.length = b.items.length ∧ ∀ j (h1 : j < a.items.length) (h2 : j < b.items.length), q a.items[j] b.items[j] = true)) :
    CallOK Tryz.prog 40 [.val (rvJson a), .val (rvJson b)] (.ret (.val (.bool (leq a b && decide (a.names = b.names) && r))) []) [] := by
  obtain ⟨k, n, t, ns, is⟩ := a
  obtain ⟨k', n', t', ns', is'⟩ := b
  simp only [LJson.names, LJson.items] at h1 h2 h3 h4 hp hr
  have e0 : (leq (.mk k n t ns is) (.mk k' n' t' ns' is') && decide ((LJson.mk k n t ns is).names = (LJson.mk k' n' t' ns' is').names) && r) = (decide (k = k') && decide (n = n') && decide (t = t') && decide (ns = ns') && r) := rfl
  rw [e0]
  have hE := i_EqualFunc_Json is is' 40 q r h3 h4 rfl hp hr
  refine call_val mixed ok40 rfl (fun _ => rfl) ?_
  unfold ir40
  rw [evalC_intro, rvJson_mk, rvJson_mk]
  by_cases a1 : k = k'
  · by_cases a2 : n = n'
    · by_cases a3 : t = t'
      · simp [initSt, avPVs, avPV, avBoxesL, avBoxes, tx, num, a1, a2, a3]
        refine callS_val rfl rfl (.inl rfl) (i_Equal_str ns ns' h1 h2) ?_
        by_cases a4 : ns = ns'
        · simp [tx, num, a4]
          refine callS_val rfl rfl (.inl rfl) hE ?_
          simp [a1, a2, a3, a4]
        · simp [tx, num, a4]
      · simp [initSt, avPVs, avPV, avBoxesL, avBoxes, tx, num, a1, a2, a3, bs_inj]
    · simp [initSt, avPVs, avPV, avBoxesL, avBoxes, tx, num, a1, a2]
  · simp [initSt, avPVs, avPV, avBoxesL, avBoxes, tx, num, a1]
theorem i_same_leaf (a b : LJson) (ha : a.names = [] ∧ a.items = []) (hb : b.names = [] ∧ b.items = []) : CallOK Tryz.prog 40 [.val (rvJson a), .val (rvJson b)] (.ret (.val (.bool (leq a b))) []) [] := by
  have := i_same_of a b (fun _ _ => true) true (by rw [ha.1]; decide) (by rw [hb.1]; decide) (by rw [ha.2]; decide) (by rw [hb.2]; decide) (fun x hx => by rw [ha.2] at hx; cases hx)
    ⟨fun _ => ⟨by rw [ha.2, hb.2], fun _ _ _ => rfl⟩, fun _ => rfl⟩
  rw [ha.1, hb.1] at this
  simpa using this
theorem leaf_items (v : LViolation) : ∀ x ∈ bItems v, x.names = [] ∧ x.items = [] := by
  intro x hx
  simp only [bItems, List.mem_cons, List.not_mem_nil, or_false] at hx
  rcases hx with rfl | rfl | rfl | rfl | rfl | rfl | rfl | rfl <;> exact ⟨rfl, rfl⟩
theorem i_same_body (a b : LViolation) : CallOK Tryz.prog 40 [.val (rvJson (lbody a)), .val (rvJson (lbody b))] (.ret (.val (.bool (lalike a b))) []) [] := by
  have := i_same_of (lbody a) (lbody b) leq (lalike a b) (by show (8 : Nat) < _; omega) (by show (8 : Nat) < _; omega) (by show (8 : Nat) < _; omega) (by show (8 : Nat) < _; omega) (fun x hx y hy => i_same_leaf x y (leaf_items a x hx) (leaf_items b y hy)) (by
    constructor
    · intro h
      unfold lalike at h
      simp only [Bool.and_eq_true, decide_eq_true_eq] at h
      obtain ⟨⟨⟨⟨⟨⟨⟨h1, h2⟩, h3⟩, h4⟩, h5⟩, h6⟩, h7⟩, h8⟩ := h
      refine ⟨rfl, fun j j1 j2 => ?_⟩
      have hj : j < 8 := j1
      match j, hj with
      | 0, _ => show leq (jt _) (jt _) = true; rw [h1]; simp [leq]
      | 1, _ => show leq (jn _) (jn _) = true; rw [h2]; simp [leq]
      | 2, _ => show leq (jt _) (jt _) = true; rw [h3]; simp [leq]
      | 3, _ => show leq (jt _) (jt _) = true; rw [h4]; simp [leq]
      | 4, _ => show leq (jn _) (jn _) = true; rw [h5]; simp [leq]
      | 5, _ => show leq (jt _) (jt _) = true; rw [h6]; simp [leq]
      | 6, _ => show leq (jt _) (jt _) = true; rw [h7]; simp [leq]
      | 7, _ => show leq (jt _) (jt _) = true; rw [h8]; simp [leq]
    · rintro ⟨_, h⟩
      have L : ∀ s t, leq (jt s) (jt t) = true → s = t := fun s t h => by
        unfold leq at h; simp only [Bool.and_eq_true, decide_eq_true_eq] at h; exact h.2
      have N : ∀ s t, leq (jn s) (jn t) = true → s = t := fun s t h => by
        unfold leq at h; simp only [Bool.and_eq_true, decide_eq_true_eq] at h; exact h.1.2
      have g := fun j (hj : j < 8) => h j hj hj
      unfold lalike
      simp only [Bool.and_eq_true, decide_eq_true_eq]
      exact ⟨⟨⟨⟨⟨⟨⟨L _ _ (g 0 (by omega)), N _ _ (g 1 (by omega))⟩, L _ _ (g 2 (by omega))⟩, L _ _ (g 3 (by omega))⟩, N _ _ (g 4 (by omega))⟩, L _ _ (g 5 (by omega))⟩, L _ _ (g 6 (by omega))⟩, L _ _ (g 7 (by omega))⟩)
  have e : (leq (lbody a) (lbody b) && decide ((lbody a).names = (lbody b).names) && lalike a b) = lalike a b := by
    have e1 : leq (lbody a) (lbody b) = true := by simp [leq, lbody, LJson.kind, LJson.num, LJson.text]
    have e2 : decide ((lbody a).names = (lbody b).names) = true := by simp [lbody, LJson.names]
    rw [e1, e2]; rfl
  rw [e] at this
  exact this

theorem c_AlikeOutside (a b : LViolation) (hb : bdViolation 1048576 a) (hb' : bdViolation 1048576 b) : CallOK Tryz.prog 10 [.val (rvViolation a), .val (rvViolation b)] (.ret (.val (.bool (lvOK a && lvOK b && lalike a b))) []) [] := by
  refine call_val mixed ok10 rfl (fun _ => rfl) ?_
  unfold ir10
  rw [evalC_intro]
  simp [initSt, avPVs, avPV, avBoxesL, avBoxes, tx, num, rvViolation, allVal]
  refine callX_val rfl rfl (.inl rfl) (c_l05OK a hb) ?_
  cases h : lvOK a with
  | false => simp [tx, num]
  | true =>
    simp [tx, num, allVal]
    refine callX_val rfl rfl (.inl rfl) (c_l05OK b hb') ?_
    cases h' : lvOK b with
    | false => simp [tx, num]
    | true =>
      simp [tx, num, allVal]
      refine callX_val rfl rfl (.inl rfl) (c_l05Body a (vok_of h)) ?_
      simp [tx, num, allVal]
      refine callX_val rfl rfl (.inl rfl) (c_l02Text 2 (lbody a) (by omega) (lbody_ok h)) ?_
      simp [tx, num, allVal]
      refine callX_val rfl rfl (.inl rfl) (c_l05Body b (vok_of h')) ?_
      simp [tx, num, allVal]
      refine callX_val rfl rfl (.inl rfl) (c_l02Text 2 (lbody b) (by omega) (lbody_ok h')) ?_
      have := lalike_text (vok_of h) (vok_of h')
      simp [tx, num, bs_inj, ← this]
theorem i_AlikeOutside (a b : LViolation) (hb : bdViolation 1048576 a) (hb' : bdViolation 1048576 b) : CallOK Tryz.prog 12 [.val (rvViolation a), .val (rvViolation b)] (.ret (.val (.bool (lvOK a && lvOK b && lalike a b))) []) [] := by
  refine call_val mixed ok12 rfl (fun _ => rfl) ?_
  unfold ir12
  rw [evalC_intro]
  simp [initSt, avPVs, avPV, avBoxesL, avBoxes, tx, num, rvViolation, allVal]
  refine callX_val rfl rfl (.inl rfl) (i_ViolationOK a hb) ?_
  cases h : lvOK a with
  | false => simp [tx, num]
  | true =>
    simp [tx, num, allVal]
    refine callX_val rfl rfl (.inl rfl) (i_ViolationOK b hb') ?_
    cases h' : lvOK b with
    | false => simp [tx, num]
    | true =>
      simp [tx, num, allVal]
      refine callX_val rfl rfl (.inl rfl) (i_body a (vok_of h)) ?_
      simp [tx, num, allVal]
      refine callX_val rfl rfl (.inl rfl) (i_body b (vok_of h')) ?_
      simp [tx, num, allVal]
      refine callX_val rfl rfl (.inl rfl) (i_same_body a b) ?_
      simp [tx, num]
theorem law_AlikeOutside (a b : LViolation) (hb : bdViolation 9223372036854775807 a) (hb' : bdViolation 9223372036854775807 b) : CallOK Tryz.prog 3 [.val (rvViolation a), .val (rvViolation b)] (.ret (.val (.bool true)) []) [] := by
  refine call_val mixed ok3 rfl (fun _ => rfl) ?_
  unfold ir3
  rw [evalC_intro]
  simp [initSt, avPVs, avPV, avBoxesL, avBoxes, rvViolation, tx, num, allVal]
  refine callS_val rfl rfl (.inl rfl) (g_szViolation a 1048576 (by omega) (by omega) hb) ?_
  by_cases hz : cut 1048576 (zViolation a) < 0
  · simp [num, hz]
  obtain ⟨hz1, hz2⟩ := cut_small hz (by omega)
  have hs : bdViolation 1048576 a := zViolation_bd (by omega)
  simp [num, hz, tx, allVal]
  refine callS_val rfl rfl (.inl rfl) (g_szViolation b (cut 1048576 (zViolation a)) (by omega) (by omega) hb') ?_
  by_cases hy : cut (cut 1048576 (zViolation a)) (zViolation b) < 0
  · simp [num, hy]
  obtain ⟨hy1, hy2⟩ := cut_small hy (by omega)
  have hs' : bdViolation 1048576 b := zViolation_bd (by omega)
  simp [num, hy, tx, allVal]
  refine callX_val rfl rfl (.inl rfl) (g_toViolation a hs) ?_
  simp [allVal, rvViolation, tx, num]
  refine callS_val rfl rfl (.inl rfl) (g_toViolation b hs') ?_
  simp [allVal, rvViolation, tx, num]
  refine callS_val rfl rfl (.inl rfl) (c_AlikeOutside a b hs hs') ?_
  simp [allVal, rvViolation, tx, num]
  refine callX_val rfl rfl (.inl rfl) (g_toViolation a hs) ?_
  simp [allVal, rvViolation, tx, num]
  refine callS_val rfl rfl (.inl rfl) (g_toViolation b hs') ?_
  simp [allVal, rvViolation, tx, num]
  refine callS_val rfl rfl (.inl rfl) (i_AlikeOutside a b hs hs') ?_
  simp [allVal, rvViolation, tx, num]
end Go.Proofs
end
