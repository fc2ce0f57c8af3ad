/- Eq: merged out of KJw. -/
import Derived.Test.YtgdapgcjmfeocaaGreatDoorEp
import Derived.Test.YtgdapgcjmfeocaaGreatDoorPWac
section
set_option maxRecDepth 100000
set_option linter.unusedVariables false
set_option linter.unusedSectionVars false
set_option linter.unusedSimpArgs false
namespace Go.Proofs
open Go.PW Go.KP
attribute [local simp] RV.cells RV.one PV.cells PV.solid PV.one vals? allVal mkAgg setAt RV.ofCells elems PV.killL
variable [GH]
def fput (x : Nat × (MKey → Option (PV × Nat))) (e : LEntry) : Nat × (MKey → Option (PV × Nat)) := match x.2 (.i e.id) with
  | some q => (x.1, mput x.2 (.i e.id) (.val (num e.kind)) q.2)
  | none => (x.1 + 1, mput x.2 (.i e.id) (.val (num e.kind)) x.1)
def fmap (l : List LEntry) : Nat × (MKey → Option (PV × Nat)) := l.foldl fput (0, fun _ => none)
theorem fmap_take (l : List LEntry) (i : Nat) (h : i < l.length) : fmap (l.take (i + 1)) = fput (fmap (l.take i)) l[i] := by
  unfold fmap
  rw [List.take_add_one, List.getElem?_eq_getElem h, List.foldl_append]; rfl
def fobj (l : List LEntry) : MObj := .map false (fmap l).1 (fmap l).2
theorem fmap_val (l : List LEntry) : ∀ k, (fmap l).2 k = none ∨ ∃ r b, (fmap l).2 k = some (.val r, b) := by
  suffices h : ∀ (l : List LEntry) (x : Nat × (MKey → Option (PV × Nat))), (∀ k, x.2 k = none ∨ ∃ r b, x.2 k = some (.val r, b)) → ∀ k, (l.foldl fput x).2 k = none ∨ ∃ r b, (l.foldl fput x).2 k = some (.val r, b) from h l _ fun _ => .inl rfl
  intro l
  induction l with
  | nil => exact fun x h => h
  | cons e l ih =>
    intro x h
    refine ih _ fun k => ?_
    unfold fput
    split <;> (simp only [mput]; split)
    · exact .inr ⟨_, _, rfl⟩
    · exact h k
    · exact .inr ⟨_, _, rfl⟩
    · exact h k
theorem fobj_ren (l : List LEntry) (ι : Nat → Nat) : (fobj l).ren ι = fobj l := by
  have : (fun k => ((fmap l).2 k).map fun p => (p.1.ren ι, p.2)) = (fmap l).2 := by
    funext k
    rcases fmap_val l k with h | ⟨r, b, h⟩ <;> rw [h] <;> rfl
  simp only [fobj, MObj.ren, this]
theorem fobj_kill (l : List LEntry) (f : Nat → Bool) : (fun k => ((fmap l).2 k).map fun p => (p.1.kill f, p.2)) = (fmap l).2 := by
  funext k
  rcases fmap_val l k with h | ⟨r, b, h⟩ <;> rw [h] <;> rfl
theorem i_fates (p : LPipe) (hb : bdPipe 1048576 p) : CallMem Tryz.prog 42 [.val (rvPipe p)] (fun _ => .dead) (fun _ => false) (.own 0) (fun i => if i = 0 then fobj p.log else .dead) := by
  have hll : p.log.length ≤ 1048576 := hb.2.2.1
  refine callM_ok mixed ok42 (fun i h => by cases h) (fun i h => by cases h) ?_
  unfold ir42
  rw [evalC_intro]
  simp [rvPipe, tx, num]
  refine loop_EC (X := Nat) (fun i => ⟨envOf [(3, .own 6), (8, .val (.list 3 (p.log.map rvEntry))), (9, .val (num p.log.length)), (10, .val (num i))], memOf [(6, fobj (p.log.take i))]⟩) (fun i => i ≤ p.log.length) (fun i => p.log.length - i) 0 (Le.mk _ _ ?_ ?_) ?_ ?_
  · simp [num, PV.kill]
  · simp [fobj, fmap]
  · simp
  · intro i hi
    simp [num]
    refine iteP_intro (fun h1 => ?_) (fun h1 => ?_)
    · obtain ⟨e, he⟩ : ∃ e, p.log[i] = e := ⟨_, rfl⟩
      have wi : IntKind.i64.wrap ((i : Int) + 1) = ((i + 1 : Nat) : Int) := by rw [wrap_i64 (by omega) (by omega)]; omega
      have hst := fmap_take p.log i h1
      rw [he] at hst
      have hk := fobj_kill (p.log.take i) (fun x => x == 5)
      simp [num, h1, he, rvEntry, fobj, PV.kill, MObj.kill, hk]
      cases hq : (fmap (p.log.take i)).2 (.i e.id) with
      | none =>
        simp [num]
        refine LoopNext.mk (i + 1) h1 (by omega) (Le.mk _ _ ?_ ?_)
        · simp [num, wi]
        · simp [fobj, hst, fput, hq, num]
      | some q =>
        simp [num]
        refine LoopNext.mk (i + 1) h1 (by omega) (Le.mk _ _ ?_ ?_)
        · simp [num, wi]
        · simp [fobj, hst, fput, hq, num]
    · have e : i = p.log.length := by omega
      subst e
      simp [num]
      have h0 : ∀ i, (if i = 0 then fobj p.log else MObj.dead).live = true → i = 0 := fun i h => by
        by_cases hi : i = 0
        · exact hi
        · rw [if_neg hi] at h; cases h
      refine ⟨_, Le.refl _, fun i => if i = 0 then 6 else i, rfl, fun i j h1 h2 _ => by rw [h0 i h1, h0 j h2], fun j hj => ?_, fun j hj => ?_, fun j hj => by cases hj⟩
      · rw [h0 j hj]
        simp [fobj_ren]
      · rw [h0 j hj]; exact .inr rfl
def lfate (l : List LEntry) (n : Int) : Option Int := (l.reverse.find? fun e => decide (e.id = n)).map fun e => e.kind
theorem lfate_snoc (l : List LEntry) (e : LEntry) (n : Int) : lfate (l ++ [e]) n = if e.id = n then some e.kind else lfate l n := by
  unfold lfate
  rw [List.reverse_append, List.reverse_cons, List.reverse_nil, List.nil_append, List.singleton_append, List.find?_cons]
  by_cases h : e.id = n
  · rw [decide_eq_true h, if_pos h]; rfl
  · rw [decide_eq_false h, if_neg h]
theorem fmap_fate (l : List LEntry) (n : Int) : ∀ i, i ≤ l.length → ((fmap (l.take i)).2 (.i n) = none ∧ lfate (l.take i) n = none) ∨ ∃ b k, (fmap (l.take i)).2 (.i n) = some (.val (num k), b) ∧ lfate (l.take i) n = some k
  | 0, _ => .inl ⟨rfl, rfl⟩
  | i + 1, h => by
    have ih := fmap_fate l n i (by omega)
    have htk : l.take (i + 1) = l.take i ++ [l[i]] := by rw [List.take_add_one, List.getElem?_eq_getElem (by omega)]; rfl
    have e1 : ∀ b, mput (fmap (l.take i)).2 (.i l[i].id) (.val (num l[i].kind)) b (.i n) = if l[i].id = n then some (.val (num l[i].kind), b) else (fmap (l.take i)).2 (.i n) := fun b => by
      unfold mput
      by_cases hn : l[i].id = n
      · rw [if_pos hn, if_pos (by rw [hn])]
      · rw [if_neg hn, if_neg (fun h => hn (by cases h; rfl))]
    have e2 : ∃ b, (fmap (l.take (i + 1))).2 (.i n) = if l[i].id = n then some (.val (num l[i].kind), b) else (fmap (l.take i)).2 (.i n) := by
      rw [fmap_take l i (by omega)]
      unfold fput
      split
      · exact ⟨_, e1 _⟩
      · exact ⟨_, e1 _⟩
    obtain ⟨b, e2⟩ := e2
    rw [e2, htk, lfate_snoc]
    by_cases hn : l[i].id = n
    · rw [if_pos hn, if_pos hn]; exact .inr ⟨b, _, rfl, rfl⟩
    · rw [if_neg hn, if_neg hn]; exact ih
theorem c_l09Fate (p : LPipe) (id : Int) (hb : bdPipe 1048576 p) : CallOK Tryz.prog 36 [.val (rvPipe p), .val (num id)] (.ret (.val (num ((lfate p.log id).getD 0))) []) [] := by
  have hll : p.log.length ≤ 1048576 := hb.2.2.1
  refine call_val mixed ok36 rfl (fun _ => rfl) ?_
  unfold ir36
  rw [evalC_intro]
  obtain ⟨r, hr⟩ : ∃ r, lfate p.log id = r := ⟨_, rfl⟩
  rw [hr]
  have w0 : IntKind.i64.wrap ((p.log.length : Int) - 1) = (p.log.length : Int) - 1 := wrap_i64 (by omega) (by omega)
  simp [initSt, avPVs, avPV, avBoxesL, avBoxes, rvPipe, tx, num, w0]
  refine loop_EC (X := Nat) (fun j => ⟨envOf [(1, .val (num id)), (2, .ptr 2 0), (5, .val (num ((j : Int) - 1)))], memOf [(2, pBox p)]⟩) (fun j => j ≤ p.log.length ∧ lfate (p.log.take j) id = r) (fun j => j) p.log.length (Le.mk _ _ ?_ ?_) ?_ ?_
  · simp [num, PV.kill]
  · simp [pBox, tx, num, MObj.kill, PV.kill]
  · exact ⟨Nat.le_refl _, by rw [List.take_length]; exact hr⟩
  · rintro j ⟨hj, hrr⟩
    simp [num]
    refine iteP_intro (fun h1 => ?_) (fun h1 => ?_)
    · obtain ⟨t, rfl⟩ : ∃ t, j = t + 1 := ⟨j - 1, by omega⟩
      have ht : t < p.log.length := by omega
      obtain ⟨e, he⟩ : ∃ e, p.log[t] = e := ⟨_, rfl⟩
      have htk : p.log.take (t + 1) = p.log.take t ++ [e] := by rw [List.take_add_one, List.getElem?_eq_getElem ht, he]; rfl
      rw [htk, lfate_snoc] at hrr
      have ej : ((t + 1 : Nat) : Int) - 1 = (t : Int) := by omega
      have wj : IntKind.i64.wrap ((t : Int) - 1) = (t : Int) - 1 := wrap_i64 (by omega) (by omega)
      rw [Int.natCast_add] at *
      simp only [Int.natCast_one, Int.add_sub_cancel] at *
      by_cases hid : e.id = id
      · rw [if_pos hid] at hrr
        subst hrr
        simp [num, pBox, tx, ht, he, rvEntry, hid]
      · rw [if_neg hid] at hrr
        simp [num, pBox, tx, ht, he, rvEntry, hid]
        refine LoopNext.mk t ⟨by omega, hrr⟩ (by omega) (Le.mk _ _ ?_ ?_)
        · simp [num, wj]
        · simp [pBox, num, tx]
    · obtain rfl : j = 0 := by omega
      have : r = none := by rw [← hrr]; rfl
      subst this
      simp [num]
def foRes (p : LPipe) (id : Int) : PV := .tup [.val (num (if lpipeOK p then (lfate p.log id).getD 0 else 0)), .val (num (if lpipeOK p then (if (lfate p.log id).isSome then 0 else 5) else 1))]
theorem allN_at {n : Nat} {f : Nat → Bool} (h : allN n f = true) (i : Nat) (hi : i < n) : f i = true := by
  unfold allN at h
  exact List.all_eq_true.1 h i (List.mem_range.2 hi)
theorem lfate_pos {p : LPipe} (h : lpipeOK p = true) {id k : Int} (hf : lfate p.log id = some k) : k ≠ 0 := by
  unfold lpipeOK at h
  simp only [Bool.and_eq_true] at h
  have he := h.2.1.2
  unfold lfate at hf
  cases hq : (p.log.reverse.find? fun e => decide (e.id = id)) with
  | none => rw [hq] at hf; cases hf
  | some e =>
    rw [hq] at hf
    have hm := List.mem_of_find?_eq_some hq
    rw [List.mem_reverse] at hm
    obtain ⟨i, hi, rfl⟩ := List.mem_iff_getElem.1 hm
    have := allN_at he i hi
    rw [entAt_eq hi] at this
    simp only [Bool.and_eq_true, decide_eq_true_eq] at this
    have hk : p.log[i].kind = k := by simpa using hf
    omega
theorem c_FateOf (p : LPipe) (id : Int) (hb : bdPipe 1048576 p) : CallOK Tryz.prog 10 [.val (rvPipe p), .val (num id)] (.ret (foRes p id) []) [] := by
  refine call_val mixed ok10 rfl (fun _ => rfl) ?_
  unfold ir10
  rw [evalC_intro]
  unfold foRes
  have hF := c_l09Fate p id hb
  have hpos := fun (h : lpipeOK p = true) k hk => lfate_pos (id := id) (k := k) h hk
  obtain ⟨r, hr⟩ : ∃ r, lfate p.log id = r := ⟨_, rfl⟩
  rw [hr] at hF hpos ⊢
  simp [initSt, avPVs, avPV, avBoxesL, avBoxes, rvPipe, tx, num, allVal]
  refine callS_val rfl rfl (.inl rfl) (c_l08OK p hb) ?_
  cases hok : lpipeOK p with
  | false => simp [num]
  | true =>
    simp [num, allVal]
    refine callS_val rfl rfl (.inl rfl) hF ?_
    cases r with
    | none => simp [num]
    | some k =>
      have hk := hpos hok k rfl
      simp [num, hk]
theorem i_FateOf (p : LPipe) (id : Int) (hb : bdPipe 1048576 p) : CallOK Tryz.prog 12 [.val (rvPipe p), .val (num id)] (.ret (foRes p id) []) [] := by
  refine call_val mixed ok12 rfl (fun _ => rfl) ?_
  unfold ir12
  rw [evalC_intro]
  unfold foRes
  have hm := fmap_fate p.log id p.log.length (Nat.le_refl _)
  rw [List.take_length] at hm
  obtain ⟨r, hr⟩ : ∃ r, lfate p.log id = r := ⟨_, rfl⟩
  rw [hr] at hm ⊢
  simp [initSt, avPVs, avPV, avBoxesL, avBoxes, rvPipe, tx, num, allVal]
  refine callS_val rfl rfl (.inl rfl) (i_PipeOK p hb) ?_
  cases hok : lpipeOK p with
  | false => simp [num]
  | true =>
    simp [num, allVal]
    refine callM_new (rs := [rvPipe p]) (m := fobj p.log) (by omega) rfl (fobj_ren p.log) (fun cs h => by cases h) (i_fates p hb) ?_
    rcases hm with ⟨h1, h2⟩ | ⟨b, k, h1, h2⟩
    · subst h2
      simp [num, fobj, h1, newK]
    · subst h2
      simp [num, fobj, h1, newK]
theorem law_FateOf (p : LPipe) (id : Int) (hb : bdPipe 9223372036854775807 p) : CallOK Tryz.prog 3 [.val (rvPipe p), .val (num id)] (.ret (.val (.bool true)) []) [] := by
  refine call_val mixed ok3 rfl (fun _ => rfl) ?_
  unfold ir3
  rw [evalC_intro]
  simp [initSt, avPVs, avPV, avBoxesL, avBoxes, rvPipe, tx, num, allVal]
  refine callS_val rfl rfl (.inl rfl) (g_szPipe p 1048576 (by omega) (by omega) hb) ?_
  by_cases hz : cut 1048576 (zPipe p) < 0
  · simp [num, hz]
  · obtain ⟨hz1, _⟩ := cut_small hz (by omega)
    have hs : bdPipe 1048576 p := zPipe_bd (by omega)
    simp [num, hz, allVal]
    refine callS_val rfl rfl (.inl rfl) (g_toPipe p hs) ?_
    simp [allVal, num]
    refine callS_two rfl rfl (.inl rfl) (c_FateOf p id hs) ?_
    simp [allVal, rvPipe, tx, num]
    refine callS_val rfl rfl (.inl rfl) (g_toPipe p hs) ?_
    simp [allVal, rvPipe, tx, num]
    refine callS_two rfl rfl (.inl rfl) (i_FateOf p id hs) ?_
    simp [allVal, rvPipe, tx, num]
    refine callX_val rfl rfl (.inl rfl) (g_toPipe p hs) ?_
    simp [allVal, rvPipe, tx, num]
    refine callS_val rfl rfl (.inl rfl) (g_eqPipe p hs) ?_
    simp
end Go.Proofs
end
