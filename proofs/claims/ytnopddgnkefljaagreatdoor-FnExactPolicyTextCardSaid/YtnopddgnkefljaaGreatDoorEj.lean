/- Ej: merged out of IRii, KJg, KJh. -/
import Derived.Test.YtnopddgnkefljaaGreatDoorPWv
import Derived.Test.YtnopddgnkefljaaGreatDoorChecked
import Derived.KernelRfl
import Derived.Test.YtnopddgnkefljaaGreatDoorCb
import Derived.Test.YtnopddgnkefljaaGreatDoorAc
import Derived.Test.YtnopddgnkefljaaGreatDoorEc
import Derived.Test.YtnopddgnkefljaaGreatDoorCc
import Derived.Test.YtnopddgnkefljaaGreatDoorShelf
import Derived.Shelf.Strings.OnBuilder

/- Functions of the seat as data. MADE BY PROGRAM (print_ir.py). -/
section
set_option maxRecDepth 100000
namespace Go.Proofs
open Go.PW Go.PW.I

def ir65_s17 : PC := .seq (.reg [m 17 3, o 18 (.faddr 2 (.t 1)), l 19 18, m 20 4, o 21 (.iaddr 2 (.t 19) (.t 20)), o 22 (.faddr 0 (.t 21)), l 23 22, o 24 (.bin .add (.t 17) (.t
 23)), m 3 24]) (.seq (.reg [o 5 (.mov (i 0))]) (.block 2 (.loop (.ghost (.seq (.seq (.reg [m 25 5, o 26 (.faddr 2 (.t 1)), l 27 26, m 28 4, o 29 (.iaddr 2 (.t 27) (.t 28)), o 30
 (.faddr 1 (.t 29)), l 31 30, o 32 (.len (.t 31)), o 33 (.bin .lss (.t 25) (.t 32))]) (.cond (.t 33) (.skip) (.exit 2))) (.seq (.block 3 (.reg [m 36 3, o 37 (.faddr 2 (.t 1)), l 38
 37, m 39 4, o 40 (.iaddr 2 (.t 38) (.t 39)), o 41 (.faddr 1 (.t 40)), l 42 41, m 43 5, o 44 (.iaddr 1 (.t 42) (.t 43)), l 45 44, o 46 (.bin .add (z #[32]) (.t 45)), o 47 (.bin .add
 (.t 36) (.t 46)), m 3 47])) (.reg [m 34 5, o 35 (.bin .add (.t 34) (i 1)), m 5 35])))))))
/-- spec.l04Text -/
def ir65 : PC := .seq (.reg [o 1 (.box (.t 0)), o 2 (.mov (z #[]))]) (.seq (.reg [o 3 (.mov (z #[]))]) (.seq (.seq (.reg [o 4 (.mov (i 0))]) (.block 0 (.loop (.ghost (.seq (.seq
 (.reg [m 6 4, o 7 (.faddr 2 (.t 1)), l 8 7, o 9 (.len (.t 8)), o 10 (.bin .lss (.t 6) (.t 9))]) (.cond (.t 10) (.skip) (.exit 0))) (.seq (.block 1 (.seq (.seq (.reg [m 13 4, o 14
 (.bin .gtr (.t 13) (i 0))]) (.cond (.t 14) (.reg [m 15 3, o 16 (.bin .add (.t 15) (z #[59, 32])), m 3 16]) (.skip))) (ir65_s17))) (.reg [m 11 4, o 12 (.bin .add (.t 11) (i 1)), m 4
 12]))))))) (.seq (.reg [m 48 3, m 2 48]) (.ret))))
theorem ok65 : chkFn Tryz.prog 65 ir65 1 [.t 2] = true := by kernel_rfl
/-- spec.PolicyText -/
def ir31 : PC := .seq (.reg [o 1 (.box (.t 0)), o 2 (.mov (z #[])), o 3 (.mov (i 0))]) (.seq (.seq (.reg [o 4 (.load true 3 (.t 1)), o 5 (.call 64 [.t 4]), o 6 (.un .not (.t 5))])
 (.cond (.t 6) (.seq (.reg [o 2 (.mov (z #[])), o 3 (.mov (i 1))]) (.ret)) (.skip))) (.seq (.reg [o 7 (.load true 3 (.t 1)), o 8 (.call 65 [.t 7]), m 2 8, o 3 (.mov (i 0))])
 (.ret)))
theorem ok31 : chkFn Tryz.prog 31 ir31 1 [.t 2, .t 3] = true := by kernel_rfl
/-- impl.PolicyText -/
def ir33 : PC := .seq (.reg [o 1 (.box (.t 0)), o 2 (.mov (z #[])), o 3 (.mov (i 0))]) (.seq (.seq (.reg [o 7 (.load true 3 (.t 1)), o 8 (.call 68 [.t 7]), o 9 (.un .not (.t 8))])
 (.cond (.t 9) (.seq (.reg [o 2 (.mov (z #[])), o 3 (.mov (i 1))]) (.ret)) (.skip))) (.seq (.reg [o 10 (.lit 9 1 []), m 4 10]) (.seq (.seq (.reg [o 11 (.faddr 2 (.t 1)), l 12 11, o
 13 (.len (.t 12)), o 14 (.mov (i 0))]) (.block 0 (.loop (.ghost (.seq (.reg [o 15 (.bin .lss (.t 14) (.t 13))]) (.seq (.cond (.t 15) (.skip) (.exit 0)) (.seq (.block 1 (.seq (.reg
 [o 16 (.iaddr 2 (.t 12) (.t 14)), o 17 (.load true 2 (.t 16)), o 6 (.alloc [.val (.str ⟨#[]⟩), .emp 1]), n (.store 2 (.t 6) (.t 17))]) (.reg [m 18 4, o 19 (.faddr 0 (.t 6)), l 20
 19, o 21 (.lit 9 1 [.t 20]), o 22 (.faddr 1 (.t 6)), l 23 22, o 24 (.app 9 1 16 (.t 21) (.t 23)), o 25 (.call 47 [.t 24, .k (.val (.str ⟨#[32]⟩))]), o 26 (.lit 9 1 [.t 25]), o 27
 (.app 9 1 16 (.t 18) (.t 26)), m 4 27]))) (.reg [o 28 (.bin .add (.t 14) (i 1)), m 14 28])))))))) (.seq (.reg [m 29 4, o 30 (.call 47 [.t 29, .k (.val (.str ⟨#[59, 32]⟩))]), m 2
 30, o 3 (.mov (i 0))]) (.ret)))))
theorem ok33 : chkFn Tryz.prog 33 ir33 1 [.t 2, .t 3] = true := by kernel_rfl
/-- laws.FnExactPolicyText -/
def ir8 : PC := .seq (.reg [o 1 (.box (.t 0)), o 2 (.mov F)]) (.seq (.reg [o 3 (.mov (i 1048576))]) (.seq (.reg [o 9 (.load true 3 (.t 1)), m 10 3, o 11 (.call 30 [.t 9, .t 10]), m
 3 11]) (.seq (.seq (.reg [m 12 3, o 13 (.bin .lss (.t 12) (i 0))]) (.cond (.t 13) (.seq (.reg [o 2 (.mov T)]) (.ret)) (.skip))) (.seq (.reg [o 15 (.load true 3 (.t 1)), o 16 (.call
 32 [.t 15]), o 17 (.call 31 [.t 16]), m 14 17, o 18 (.ext 0 (.t 14)), o 19 (.ext 1 (.t 14)), m 4 18, m 5 19]) (.seq (.reg [o 20 (.load true 3 (.t 1)), o 21 (.call 32 [.t 20]), o 6
 (.alloc [.val (.str ⟨#[]⟩), .emp 1, .emp 2]), n (.store 3 (.t 6) (.t 21))]) (.seq (.reg [o 23 (.load true 3 (.t 6)), o 24 (.call 33 [.t 23]), m 22 24, o 25 (.ext 0 (.t 22)), o 26
 (.ext 1 (.t 22)), m 7 25, m 8 26]) (.seq (.seq (.reg [m 27 7, m 28 4, o 29 (.bin .neq (.t 27) (.t 28)), m 30 29, g 31 30 false (.mov (.t 8)), g 32 30 false (.mov (.t 5)), g 33 30
 false (.bin .neq (.t 31) (.t 32)), o 34 (.pick (.t 30) T (.t 33))]) (.cond (.t 34) (.seq (.reg [o 2 (.mov F)]) (.ret)) (.skip))) (.seq (.seq (.draw [o 35 (.load true 3 (.t 6)), o
 36 (.load true 3 (.t 1)), o 37 (.call 32 [.t 36])] [o 38 (.call 34 [.t 35, .t 37]), o 39 (.un .not (.t 38))]) (.cond (.t 39) (.seq (.reg [o 2 (.mov F)]) (.ret)) (.skip))) (.seq
 (.reg [o 2 (.mov T)]) (.ret))))))))))
theorem ok8 : chkFn Tryz.prog 8 ir8 1 [.t 2] = true := by kernel_rfl
end Go.Proofs
end

/- The text of a policy by the reference. -/
section
set_option maxRecDepth 100000
set_option linter.unusedVariables false
set_option linter.unusedSectionVars false
set_option linter.unusedSimpArgs false
namespace Go.Proofs
open Go.PW Go.KP
attribute [local simp] RV.cells RV.one PV.cells PV.solid PV.one vals? allVal mkAgg setAt RV.ofCells elems PV.killL
variable [GF]

def polBox (p : LPolicy) : MObj := .box [.val (tx p.reportTo), .val (.list 1 (p.uris.map tx)), .val (.list 2 (p.rules.map rvRule))]
theorem pol_s17 {K : Kx (PExit → St → Prop)} (p : LPolicy) (i : Nat) (q : Tx) (h1 : i < p.rules.length) (hq : q.length ≤ 75497562) (hok : lruleOK p.rules[i] = true) (hw : ∀ w ∈ p.rules[i].words, w.length ≤ 1048576)
    (hn : ∀ st' : St, st'.env 1 = .ptr 1 0 → st'.env 3 = .val (tx (q ++ lruleText p.rules[i])) → st'.env 4 = .val (num i) → st'.mem 1 = polBox p → K.k .normal st')
    (st : St) (e1 : st.env 1 = .ptr 1 0) (e3 : st.env 3 = .val (tx q)) (e4 : st.env 4 = .val (num i)) (m1 : st.mem 1 = polBox p) : EC Tryz.prog ir65_s17 st (K := K) := by
  obtain ⟨r, hr⟩ : ∃ r, p.rules[i] = r := ⟨_, rfl⟩
  rw [hr] at hok hw hn
  obtain ⟨hrl, hnl, hwl⟩ := ruleText_len hok hw
  unfold ir65_s17
  simp [e1, e3, e4, m1, polBox, num, tx, h1, hr, rvRule, bs_size, bs_append]
  refine ⟨by omega, ?_⟩
  have e32 : (⟨#[32]⟩ : ByteArray) = bs [32] := rfl
  refine loop_EC (X := Nat) (fun k => ⟨envOf [(1, .ptr 1 0), (3, .val (tx (q ++ r.name ++ lwtail r.words k))), (4, .val (num i)), (5, .val (num k))], memOf [(1, polBox p)]⟩) (fun k => k ≤ r.words.length) (fun k => r.words.length - k) 0 (Le.mk _ _ ?_ ?_) ?_ ?_
  · simp [upd, num, tx, e1, e4, lwtail_zero]
  · simp [m1]
  · simp
  · intro k hk
    simp [num, tx, polBox, h1, hr, rvRule]
    have hfl := lwtail_len hw hwl k
    refine iteP_intro (fun h2 => ?_) (fun h2 => ?_)
    · have hwk := hw _ (List.getElem_mem h2)
      have hst := lwtail_succ r.words k h2
      have wi : IntKind.i64.wrap ((k : Int) + 1) = ((k + 1 : Nat) : Int) := by rw [wrap_i64 (by omega) (by omega)]; omega
      simp [num, tx, h1, h2, hr, rvRule, bs_size, bs_append, e32]
      refine ⟨by omega, by omega, ?_⟩
      refine LoopNext.mk (k + 1) h2 (by omega) (Le.mk _ _ ?_ ?_)
      · simp [num, wi, hst, tx]
      · simp [polBox, tx]
    · have e : k = r.words.length := by omega
      subst e
      simp
      refine hn _ ?_ ?_ ?_ ?_
      · simp
      · simp [← lwtail_all, tx]
      · simp [num]
      · simp [polBox, tx]

theorem c_l04Text (p : LPolicy) (hok : lpolicyOK p = true) (hb : bdPolicy 1048576 p) : CallOK Tryz.prog 65 [.val (rvPolicy p)] (.ret (.val (tx (lpolText p.rules))) []) [] := by
  have hw : ∀ r ∈ p.rules, ∀ w ∈ r.words, w.length ≤ 1048576 := fun r hr w hw => (hb.2.2.2 r hr).2.2 w hw
  have h8 := polOK_len hok
  refine call_val mixed ok65 rfl (fun _ => rfl) ?_
  unfold ir65
  rw [evalC_intro]
  simp [initSt, avPVs, avPV, avBoxesL, avBoxes, rvPolicy, tx, num]
  refine loop_EC (X := Nat) (fun i => ⟨envOf [(1, .ptr 1 0), (3, .val (tx (lpolText (p.rules.take i)))), (4, .val (num i))], memOf [(1, polBox p)]⟩) (fun i => i ≤ p.rules.length) (fun i => p.rules.length - i) 0 (Le.mk _ _ ?_ ?_) ?_ ?_
  · simp [upd, num, tx, PV.kill, lpolText, ljoin, bs_mk]
  · simp [tx, num, polBox]
  · simp
  · intro i hi
    simp [num, tx, polBox]
    have hl := polText_len hok hw i
    refine iteP_intro (fun h1 => ?_) (fun h1 => ?_)
    · have hrm : p.rules[i] ∈ p.rules := List.getElem_mem h1
      have hst : lpolText (p.rules.take (i + 1)) = lpolText (p.rules.take i) ++ ((if i = 0 then [] else [59, 32]) ++ lruleText p.rules[i]) := by
        have := ljoin_take [59, 32] (p.rules.map lruleText) i (by simpa using h1)
        rw [← List.map_take, ← List.map_take] at this
        simpa [lpolText] using this
      have wi : IntKind.i64.wrap ((i : Int) + 1) = ((i + 1 : Nat) : Int) := by rw [wrap_i64 (by omega) (by omega)]; omega
      simp [num, tx]
      refine iteP_intro (fun h0 => ?_) (fun h0 => ?_)
      · rw [if_neg (by omega)] at hst
        simp [num, tx, bs_size, bs_mk, bs_append]
        refine ⟨by omega, ?_⟩
        refine pol_s17 p i (lpolText (p.rules.take i) ++ [59, 32]) h1 (by simp; omega) (polOK_rules hok _ hrm) (hw _ hrm) (fun st' q1 q3 q4 m1 => ?_) _ ?_ ?_ ?_ ?_
        · simp [q1, q3, q4, num]
          refine LoopNext.mk (i + 1) h1 (by omega) (Le.mk _ _ ?_ ?_)
          · simp [num, q1, q3, q4, wi, hst]
          · simp [m1]
        all_goals simp [num, tx, polBox]
      · rw [if_pos (by omega)] at hst
        simp [num, tx]
        refine pol_s17 p i (lpolText (p.rules.take i)) h1 (by omega) (polOK_rules hok _ hrm) (hw _ hrm) (fun st' q1 q3 q4 m1 => ?_) _ ?_ ?_ ?_ ?_
        · simp [q1, q3, q4, num]
          refine LoopNext.mk (i + 1) h1 (by omega) (Le.mk _ _ ?_ ?_)
          · simp [num, q1, q3, q4, wi, hst]
          · simp [m1]
        all_goals simp [num, tx, polBox]
    · have e : i = p.rules.length := by omega
      subst e
      simp [tx]

end Go.Proofs
end

/- strings.Join; the text of a policy by the program; the law of PolicyText. -/
section
set_option maxRecDepth 100000
set_option linter.unusedVariables false
set_option linter.unusedSectionVars false
set_option linter.unusedSimpArgs false
namespace Go.Proofs
open Go.PW Go.KP Go.RowKit
attribute [local simp] RV.cells RV.one PV.cells PV.solid PV.one vals? allVal mkAgg setAt RV.ofCells elems PV.killL
variable [GH]

theorem ljoin_lib (sep : Tx) (l : List Tx) : Go.Lib.join l sep = ljoin sep l := by
  cases l with
  | nil => rfl
  | cons x r => rw [Go.Lib.join_cons]; rfl
theorem bs_toList (t : Tx) : (bs t).data.toList = t := by simp [bs]
theorem map_bs_toList (l : List Tx) : (l.map bs).map (fun x => x.data.toList) = l := by
  rw [List.map_map]
  conv => rhs; rw [← List.map_id l]
  exact List.map_congr_left fun t _ => bs_toList t

theorem i_Join (l : List Tx) (sep : Tx) (hl : (ljoin sep l).length ≤ 140737488355328) (hn : l.length ≤ 140737488355328) : CallOK Tryz.prog 47 [.val (.list 1 (l.map tx)), .val (tx sep)] (.ret (.val (tx (ljoin sep l))) []) [] := by
  intro L w vs ms hL hgl hgb hargs hnd
  cases hargs with
  | cons _ _ v vs' ms1 ms2 h1 h2 =>
    cases h1 with
    | val _ _ h1 =>
      obtain ⟨rfl, rfl⟩ := args_sv (rs := [tx sep]) rfl h2
      have key : Calls Tryz.prog 47 #[v, .string (bs sep)] w fun e w' => e = .returned (.string (bs (ljoin sep l))) ∧ Below w.heap.size w w' := by
        generalize hr : RV.list 1 (l.map tx) = r at h1
        cases h1 with
        | list0 sz A c =>
          injection hr with e1 e2
          have : l = [] := by simpa using e2
          subst this
          exact (Tryz.strings_Join_none A c (bs sep) w).mono fun e w' ⟨he, hw⟩ => ⟨he, hw ▸ Below.refl _ _⟩
        | list sz xs b o c f h0 hsz hcap hb hc hx h =>
          injection hr with e1 e2
          subst e1; subst e2
          have hlen : (l.map tx).length = l.length := by simp
          have hlen' : (l.map bs).length = l.length := by simp
          have hpos : 0 < l.length := by rw [← hlen]; exact List.length_pos_iff.2 h0
          have hcell : ∀ (j : Nat) x, (l.map bs)[j]? = some x → w.cell? ⟨b, o + j, none⟩ = some (.string x) := fun j x hj => by
            obtain ⟨hj1, hj2⟩ := List.getElem?_eq_some_iff.1 hj
            rw [hlen'] at hj1
            rw [hc j (by rw [hlen]; omega)]
            have hh := h j 0 (by rw [hlen]; exact hj1) (by omega)
            have eg : ((l.map tx).getD j RV.nilptr) = tx l[j] := by
              rw [List.getD_eq_getElem?_getD, List.getElem?_eq_getElem (by rw [hlen]; exact hj1)]; simp
            rw [eg] at hh
            have e3 : (tx l[j]).cells.getD 0 RV.nilptr = .str (bs l[j]) := rfl
            rw [e3, Nat.mul_one, Nat.add_zero] at hh
            generalize f j = u at hh
            cases hh
            have : bs l[j] = x := by rw [← hj2]; simp
            rw [this]
          have hbk : b < w.heap.size := World.block_lt_of_cell? w _ (hc 0 (by rw [hlen]; omega))
          have := Tryz.strings_Join b o c (l.map bs) (bs sep) w hcell hbk (by rw [hlen']; exact hn) (by rw [hlen', ← hlen]; exact hcap)
            (by rw [map_bs_toList, bs_toList, ljoin_lib]; exact hl)
          rw [map_bs_toList, bs_toList, ljoin_lib, hlen'] at this
          rw [hlen]
          exact this
        | _ => cases hr
      refine key.mono fun e w' ⟨he, hb⟩ => ?_
      exact ⟨Outside.of_below hb, _, fun _ => undef, he, .val _ _ (.str _), memInv_none, rfl, fun i b cells h1 h2 => by simp at h1⟩

/-- A text and a code. -/
def tRes (r : Tx × Int) : PV := .tup [.val (tx r.1), .val (num r.2)]
def ptRes (p : LPolicy) : Tx × Int := if lpolicyOK p then (lpolText p.rules, 0) else ([], 1)
theorem c_specPolicyText (p : LPolicy) (hb : bdPolicy 1048576 p) : CallOK Tryz.prog 31 [.val (rvPolicy p)] (.ret (tRes (ptRes p)) []) [] := by
  refine call_val mixed ok31 rfl (fun _ => rfl) ?_
  unfold ir31
  rw [evalC_intro]
  unfold ptRes
  simp [initSt, avPVs, avPV, avBoxesL, avBoxes, rvPolicy, tx, allVal]
  refine callS_val rfl rfl (.inl rfl) (c_l04OK p hb) ?_
  cases h : lpolicyOK p with
  | false =>
    rw [if_neg (by simp)]
    simp [tRes, tx, num, bs]
  | true =>
    rw [if_pos rfl]
    simp [allVal]
    refine callS_val rfl rfl (.inl rfl) (c_l04Text p h hb) ?_
    simp [tRes, tx, num]

theorem i_PolicyText (p : LPolicy) (hb : bdPolicy 1048576 p) : CallOK Tryz.prog 33 [.val (rvPolicy p)] (.ret (tRes (ptRes p)) []) [] := by
  have hw : ∀ r ∈ p.rules, ∀ w ∈ r.words, w.length ≤ 1048576 := fun r hr w hw => (hb.2.2.2 r hr).2.2 w hw
  refine call_val mixed ok33 rfl (fun _ => rfl) ?_
  unfold ir33
  rw [evalC_intro]
  unfold ptRes
  simp [initSt, avPVs, avPV, avBoxesL, avBoxes, rvPolicy, tx, allVal]
  refine callS_val rfl rfl (.inl rfl) (i_PolicyOK p hb) ?_
  cases hok : lpolicyOK p with
  | false =>
    rw [if_neg (by simp)]
    simp [tRes, tx, num, bs]
  | true =>
    rw [if_pos rfl]
    have h8 := polOK_len hok
    simp [allVal, num]
    refine loop_EC (X := Nat) (fun i => ⟨envOf [(1, .ptr 1 0), (4, .own 10), (12, .val (.list 2 (p.rules.map rvRule))), (13, .val (num p.rules.length)), (14, .val (num i))], memOf [(1, polBox p), (10, .row 9 1 ((p.rules.take i).map fun r => tx (lruleText r)))]⟩) (fun i => i ≤ p.rules.length) (fun i => p.rules.length - i) 0 (Le.mk _ _ ?_ ?_) ?_ ?_
    · simp [upd, num, PV.kill]
    · simp [upd, polBox, tx, MObj.kill]
    · simp
    · intro i hi
      simp [num]
      refine iteP_intro (fun h1 => ?_) (fun h1 => ?_)
      · obtain ⟨r, hr⟩ : ∃ r, p.rules[i] = r := ⟨_, rfl⟩
        have hrm : r ∈ p.rules := by rw [← hr]; exact List.getElem_mem h1
        obtain ⟨hrl, hnl, hwl⟩ := ruleText_len (polOK_rules hok _ hrm) (hw _ hrm)
        have e32 : (⟨#[32]⟩ : ByteArray) = bs [32] := rfl
        simp [num, h1, hr, rvRule, tx, allVal, RV.one, elems, e32]
        refine ⟨by omega, by omega, ?_⟩
        refine callS_val (by rfl) rfl (.inr rfl) (i_Join (r.name :: r.words) [32] (by show (lruleText r).length ≤ _; omega) (by simp; omega)) ?_
        have hlen : ((p.rules.take i).map fun r => tx (lruleText r)).length = i := by simp; omega
        simp [num, tx, allVal, RV.one, elems]
        have hsucc : (p.rules.take (i + 1)).map (fun r => tx (lruleText r)) = (p.rules.take i).map (fun r => tx (lruleText r)) ++ [tx (lruleText r)] := by
          rw [List.take_add_one, List.getElem?_eq_getElem h1, hr, List.map_append]; rfl
        refine ⟨by omega, by omega, ?_⟩
        refine LoopNext.mk (i + 1) (by omega) (by omega) (Le.mk _ _ ?_ ?_)
        · simp [num]; exact wrap_i64 (by omega) (by omega)
        · rw [hsucc]
          simp [tx, lruleText, polBox, MObj.kill]
      · have e : i = p.rules.length := by omega
        subst e
        simp [num]
        have hj := polText_len hok hw p.rules.length
        rw [List.take_length] at hj
        refine callS_val («as» := [.val (.list 1 ((p.rules.map lruleText).map tx)), .val (tx [59, 32])]) (by simp [avsOf, avOf]; exact ⟨List.take_of_length_le (by simp), rfl⟩) rfl (.inr rfl) (i_Join (p.rules.map lruleText) [59, 32] (by show (lpolText p.rules).length ≤ _; omega) (by simp; omega)) ?_
        simp [tRes, num, tx, lpolText]
theorem law_PolicyText (p : LPolicy) (hb : bdPolicy 9223372036854775807 p) : CallOK Tryz.prog 8 [.val (rvPolicy p)] (.ret (.val (.bool true)) []) [] := by
  refine call_val mixed ok8 rfl (fun _ => rfl) ?_
  unfold ir8
  rw [evalC_intro]
  simp [initSt, avPVs, avPV, avBoxesL, avBoxes, rvPolicy, tx, allVal]
  refine callS_val rfl rfl (.inl rfl) (g_szPolicy p 1048576 (by omega) (by omega) hb) ?_
  by_cases hz : cut 1048576 (zPolicy p) < 0
  · simp [num, hz]
  · obtain ⟨hz1, _⟩ := cut_small hz (by omega)
    have hs : bdPolicy 1048576 p := zPolicy_bd (by omega)
    simp [num, hz, allVal]
    refine callS_val rfl rfl (.inl rfl) (g_toPolicy p hs) ?_
    simp [allVal]
    refine callS_pv rfl rfl (fun _ => rfl) rfl (.inl rfl) (c_specPolicyText p hs) ?_
    simp [allVal, rvPolicy, tx, tRes]
    refine callS_val rfl rfl (.inl rfl) (g_toPolicy p hs) ?_
    simp [allVal, rvPolicy, tx]
    refine callS_pv rfl rfl (fun _ => rfl) rfl (.inl rfl) (i_PolicyText p hs) ?_
    simp [allVal, rvPolicy, tx, tRes, num]
    refine callX_val rfl rfl (.inl rfl) (g_toPolicy p hs) ?_
    simp [allVal, rvPolicy, tx]
    refine callS_val rfl rfl (.inl rfl) (g_eqPolicy p hs) ?_
    simp
end Go.Proofs
end
