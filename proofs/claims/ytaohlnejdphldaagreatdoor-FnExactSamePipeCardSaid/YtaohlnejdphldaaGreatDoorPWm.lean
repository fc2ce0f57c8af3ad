/- The machine does what stepE says: appends; and the theorem for every operation. -/
import Derived.Test.YtaohlnejdphldaaGreatDoorPWl
import Derived.Laws.MakeOwn
set_option linter.unusedVariables false
set_option linter.unusedSectionVars false
set_option linter.unusedSimpArgs false
namespace Go.PW
variable [GF]
open Go.RowKit

section
variable {P : Program} {F : Ctx} {γ : Nat → Value} {st : St} {a : Act} {w : World} {o : Oper} {K : Act → World → Prop} {Q : Exit → Act → World → Prop}

/-- The elements that are appended, in memory. -/
def Source (L : Nat → Prop) (w : World) (sz : Nat) (ys : List RV) (v : Value) : Prop :=
  (ys = [] ∧ ∃ A c, v = .slice A 0 c) ∨
  ∃ ad c news, ys ≠ [] ∧ v = .slice (some ad) ys.length c ∧ news.length = ys.length * sz ∧ (∀ j u, news[j]? = some u → w.cell? (ad.add j) = some u) ∧ (∀ u ∈ news, u.oneCell' = true) ∧ Cells L w sz ys news

theorem cells_list_one {L : Nat → Prop} {sz : Nat} {ys : List RV} {news : List Value} (hsz : 0 < sz) (hl : news.length = ys.length * sz) (hc : Cells L w sz ys news) (h1 : ∀ y ∈ ys, y.cells.all RV.one = true) : ∀ u ∈ news, u.oneCell' = true := fun u hu => by
  obtain ⟨q, hq, rfl⟩ := List.getElem_of_mem hu
  have hdm : q / sz < ys.length := Nat.div_lt_of_lt_mul (by rw [Nat.mul_comm]; omega)
  have hr := hc.2 (q / sz) (q % sz) hdm (Nat.mod_lt _ hsz)
  rw [show q / sz * sz + q % sz = q from by rw [Nat.mul_comm]; exact Nat.div_add_mod q sz, getD_ix hq] at hr
  have hm : ys.getD (q / sz) .nilptr ∈ ys := getD_mem hdm
  have hcl := hc.1 _ hm
  exact oneR hr (List.all_eq_true.1 (h1 _ hm) _ (getD_mem (by rw [hcl]; exact Nat.mod_lt _ hsz)))

theorem source_list {L : Nat → Prop} {s sz : Nat} {ys : List RV} {v : Value} (hr : RepR L w (.list s ys) v) (hs : s = sz ∨ ys = []) (h1 : ∀ y ∈ ys, y.cells.all RV.one = true) : Source L w sz ys v := by
  cases hr with
  | list0 _ A c => exact .inl ⟨rfl, A, c, rfl⟩
  | list _ _ b o c f h0 hsz hcap hb hc hx h =>
    obtain rfl : s = sz := by rcases hs with h' | h'; exact h'; exact absurd h' h0
    have hl : ((List.range (ys.length * s)).map f).length = ys.length * s := by simp
    have hcs : Cells L w s ys ((List.range (ys.length * s)).map f) := ⟨hx, fun i k hi hk => by
      have hik : i * s + k < ys.length * s := by
        have := Nat.mul_le_mul_right s (show i + 1 ≤ ys.length from hi)
        rw [Nat.add_mul] at this; omega
      have : ((List.range (ys.length * s)).map f).getD (i * s + k) undef = f (i * s + k) := by
        simp [List.getD_eq_getElem?_getD, List.getElem?_map, List.getElem?_range hik]
      rw [this]; exact h i k hi hk⟩
    refine .inr ⟨⟨b, o, none⟩, c, (List.range (ys.length * s)).map f, h0, rfl, hl, fun j u hj => ?_, cells_list_one hsz hl hcs h1, hcs⟩
    have hlt : j < ys.length * s := by
      rcases Nat.lt_or_ge j (ys.length * s) with h' | h'
      · exact h'
      · rw [List.getElem?_eq_none (by simpa using h')] at hj; cases hj
    rw [List.getElem?_map, List.getElem?_range hlt] at hj
    simp only [Option.map_some, Option.some.injEq] at hj
    rw [add_none, hc j hlt, hj]

theorem source_own (hI : Inv F γ st a w) {id E sz : Nat} {ys : List RV} (hm : st.mem id = .row E sz ys) : Source (Live F.L γ st.mem) w sz ys (γ id) := by
  obtain ⟨vs, h1, h2, h3, h4⟩ := hI.mem.row id E sz ys hm
  by_cases he : ys = []
  · subst he
    rcases h1.2 with ⟨hv, _⟩ | ⟨g, cap, cur, hv, _⟩
    · exact .inl ⟨rfl, none, 0, hv⟩
    · exact .inl ⟨rfl, _, cap, hv⟩
  · rcases h1.2 with ⟨hv, h0⟩ | ⟨g, cap, cur, hv, _⟩
    · exact absurd (List.eq_nil_of_length_eq_zero h0) he
    · exact .inr ⟨⟨g, 0, none⟩, cap, vs, he, hv, h1.1, h1.cells (by rw [hv]; rfl), h4, h3⟩

theorem run_append_zero (t ty e : TypeId) (i : TypeInfo) (ht : P.underlying t = some (.slice e)) (hi : P.info? e = some i) (ht' : (P.underlying t matches some (.int _)) = false) (base : Option Addr) (n cap : Nat) (h : n ≤ cap) (A : Option Addr) (c : Nat) :
    (Builtin.append_ #[t, t] ty #[.slice base n cap, .slice A 0 c]).run P w = .ok (.slice base n cap) w := by
  have hl : ∀ (x : Addr), (loadCells x 0).run P w = .ok #[] w := fun x => by simpa using run_loadCells_list (P := P) w x [] (by simp)
  cases A <;> cases base <;> simp [Builtin.append_, run_underlying ht, Builtin.lenOf, Builtin.firstCells, sizeOf, typeInfo, hi, storeCells, hl, h]

theorem append_run {t ty E : TypeId} {i : TypeInfo} {z : Value} {sz bytes : Nat} (ht : P.underlying t = some (.slice E)) (hi : P.info? E = some i) (hz : i.zero = some z) (hs : i.size = sz) (hby : i.bytes = bytes) (hzs : z.cells.size = sz) (hsz : 0 < sz)
    {L : Nat → Prop} {B : Nat} {v : Value} {xs ys : List RV} {vs : List Value} {y : Value} (hown : w.ownsRow B E sz v xs.length vs) (hy : Source L w sz ys y) (h63 : xs.length + ys.length ≤ 9223372036854775807) (hb : (xs.length + ys.length) * bytes ≤ 140737488355328) (hB : B ≤ w.heap.size) :
    ∃ v' w' news, (Builtin.append_ #[t, t] ty #[v, y]).run P w = .ok v' w' ∧ w'.ownsRow B E sz v' (xs.length + ys.length) (vs ++ news) ∧ w.grownBy w' v.ownBlock ∧ news.length = ys.length * sz ∧ (∀ u ∈ news, u.oneCell' = true) ∧ Cells L w sz ys news ∧ (∀ b, v'.ownBlock = some b → w.heap.size ≤ b ∨ v.ownBlock = some b) := by
  rcases hy with ⟨rfl, A, c, rfl⟩ | ⟨ad, c, news, h0, rfl, hl, hn, h1, hc⟩
  · have hv : ∃ base n cap, v = .slice base n cap ∧ n ≤ cap := by
      rcases hown.2 with ⟨h, _⟩ | ⟨g, cap, cur, h, _, _, h', _⟩
      · exact ⟨none, 0, 0, h, Nat.le_refl _⟩
      · exact ⟨_, _, cap, h, h'⟩
    obtain ⟨base, n, cap, rfl, hn⟩ := hv
    refine ⟨_, w, [], run_append_zero t ty E i ht hi (by rw [ht]) base n cap hn A c, by simpa using hown, ⟨rfl, rfl, rfl, Nat.le_refl _, fun _ _ _ => rfl⟩, by simp, by simp, ⟨by simp, fun i k hi => by simp at hi⟩, fun b hb => .inr hb⟩
  · obtain ⟨v', w', hr, h2, h3, _⟩ := run_append_own (P := P) w B t ty E i z sz bytes ht hi hz hs hby hzs hsz v xs.length vs hown ad ys.length c news hl hn h1 (by unfold maxLen; omega) hb hB
    refine ⟨v', w', news, hr, h2, h3, hl, h1, hc, fun b hb' => ?_⟩
    have hpos : 0 < ys.length := List.length_pos_iff.2 h0
    rcases hown.2 with ⟨hv, hn0⟩ | ⟨g, cap, cur, hv, hgB, hg, hnc, hcm, hcs, htk⟩
    · have hb2 : (0 + ys.length) * bytes ≤ 140737488355328 := by rw [hn0] at hb; exact hb
      have := run_append_nil (P := P) w t ty E i z ht hi hz ad ys.length c news (by rw [hs]; exact hl) hn hpos (by omega) (by rw [hby]; simp only [Nat.zero_add] at hb2; omega)
      rw [hv, this] at hr
      injection hr with e1 e2
      rw [← e1] at hb'
      simp [Value.ownBlock] at hb'
      exact .inl (by omega)
    · by_cases hroom : xs.length + ys.length ≤ cap
      · have := run_append_room (P := P) w t ty E i ht hi g xs.length cap cur hg ad ys.length c news (by rw [hs]; exact hl) hn h1 hroom (by
          rw [hs, hl, hcs, ← Nat.add_mul]; exact Nat.mul_le_mul_right _ hroom)
        rw [hv, this] at hr
        injection hr with e1 e2
        rw [← e1] at hb'
        exact .inr (by rw [hv]; exact hb')
      · have := run_append_grow (P := P) w t ty E i z ht hi hz ⟨g, 0, none⟩ xs.length cap vs (by rw [hs]; exact hown.1) (hown.cells (by rw [hv]; rfl)) ad ys.length c news (by rw [hs]; exact hl) hn (by omega) (by omega) (by rw [hby]; exact growslice_fits (by omega) hb)
        rw [hv, this] at hr
        injection hr with e1 e2
        rw [← e1] at hb'
        simp [Value.ownBlock] at hb'
        exact .inl (by omega)

/-- An append: the row id (or none yet) becomes a longer row. -/
theorem append_inv (hI : Inv F γ st a w) (id E sz : Nat) (h9 : id ≠ 900) (hsz : 0 < sz) {xs ys : List RV} {vs news : List Value} {v v' : Value} {w' : World} (hold : (st.mem id = .row E sz xs ∧ γ id = v) ∨ v.ownBlock = none)
    (hx : Cells (Live F.L γ st.mem) w sz xs vs) (hx1 : ∀ u ∈ vs, u.oneCell' = true) (hvl : vs.length = xs.length * sz) (hy : Cells (Live F.L γ st.mem) w sz ys news) (hy1 : ∀ u ∈ news, u.oneCell' = true)
    (hown : w'.rowAt (F.rok id) E sz v' (xs.length + ys.length) (vs ++ news)) (hg : w.grownBy w' v.ownBlock) (hvb : ∀ b, v'.ownBlock = some b → w.heap.size ≤ b ∨ v.ownBlock = some b) :
    Inv F (upd id v' γ) { env := fun x => (st.env x).kill (· == id), mem := upd id (.row E sz (xs ++ ys)) fun x => (st.mem x).kill (· == id) } a w' := by
  have hvlive : ∀ b, v.ownBlock = some b → Live F.L γ st.mem b ∧ (F.B ≤ b ∨ b ∈ F.pb) ∧ ∀ j, j ≠ id → (st.mem j).live = true → Value.blk (γ j) ≠ some b := fun b hb => by
    rcases hold with ⟨h1, h2⟩ | h
    · have hbk : Value.blk (γ id) = some b := by rw [h2]; exact ownBlock_blk hb
      refine ⟨.inr ⟨id, by rw [h1]; rfl, hbk⟩, (live_obj (hI.mem.obj id) (by rw [h1]; rfl) hbk).2, fun j hj hl hh => hj (hI.mem.inj j id b hl (by rw [h1]; rfl) hh hbk)⟩
    · rw [h] at hb; cases hb
  have hne : ∀ b, v.ownBlock ≠ some b → b < w.heap.size → w'.heap[b]? = w.heap[b]? := fun b hb hlt => hg.block b hlt (fun e => hb e.symm)
  have hlv : ∀ b, b < w.heap.size → Live F.L (upd id v' γ) (upd id (.row E sz (xs ++ ys)) fun x => (st.mem x).kill (· == id)) b → Live F.L γ st.mem b := fun b hlt hb => by
    rcases hb with h | ⟨j, h1, h2⟩
    · exact .inl h
    · by_cases hj : j = id
      · subst hj
        rw [upd_eq] at h2
        have ho : v'.ownBlock = some b := by
          rcases hown.2 with ⟨hv, _⟩ | ⟨g, cap, cur, hv, _⟩
          · rw [hv] at h2; simp [Value.blk] at h2
          · rw [hv] at h2 ⊢; simpa [Value.blk, Value.ownBlock] using h2
        rcases hvb b ho with h | h
        · omega
        · exact (hvlive b h).1
      · rw [upd_ne _ _ _ _ hj] at h1 h2
        rw [kill_live] at h1
        exact .inr ⟨j, h1, h2⟩
  have hk : Keeps (Live F.L γ st.mem) w (Live F.L (upd id v' γ) (upd id (.row E sz (xs ++ ys)) fun x => (st.mem x).kill (· == id))) w' := fun b o u hb hc => by
    have hlt : b < w.heap.size := World.block_lt_of_cell? w _ hc
    refine ⟨fun h => hb (hlv b hlt h), ?_⟩
    rw [World.cell?_of_block (w := w) (w' := w') (a := ⟨b, o, none⟩) (hne b (fun e => hb (hvlive b e).1) hlt)]
    exact hc
  refine hI.change (· == id) (fun _ => false) (fun i h => .inl (upd_ne _ _ _ _ (by simpa using h))) (fun i h => by cases h) (fun i h _ => upd_ne _ _ _ _ (by simpa using h)) hk (fun i b h _ hl hb => ?_) (fun i h => ?_) (fun i j b h1 h2 h3 h4 => ?_) ?_ (fun i cs h h9 hm => by
    rcases h with h | h
    · obtain rfl : i = id := by simpa using h
      rw [upd_eq] at hm; cases hm
    · cases h) (fun _ _ h => by
    rcases h with h | h
    · exact absurd (by simpa using h : 900 = id).symm h9
    · cases h)
  · exact hne b (fun e => (hvlive b e).2.2 i (by simpa using h) hl hb) (live_obj (hI.mem.obj i) hl hb).1
  · rcases h with h | h
    · obtain rfl : i = id := by simpa using h
      rw [upd_eq, upd_eq]
      refine ⟨vs ++ news, by rw [List.length_append]; exact hown, hsz, ⟨fun x hx' => ?_, fun i' k hi' hk' => ?_⟩, fun u hu => ?_⟩
      · rcases List.mem_append.1 hx' with h' | h'
        · exact hx.1 x h'
        · exact hy.1 x h'
      · by_cases hlt : i' < xs.length
        · have hik : i' * sz + k < vs.length := by
            rw [hvl]
            have := Nat.mul_le_mul_right sz (show i' + 1 ≤ xs.length from hlt)
            rw [Nat.add_mul] at this; omega
          rw [show (xs ++ ys).getD i' .nilptr = xs.getD i' .nilptr from by simp [List.getD_eq_getElem?_getD, List.getElem?_append, hlt],
            show (vs ++ news).getD (i' * sz + k) undef = vs.getD (i' * sz + k) undef from by simp [List.getD_eq_getElem?_getD, List.getElem?_append, hik]]
          exact (hx.2 i' k hlt hk').mono hk
        · have hle : xs.length ≤ i' := by omega
          have hm : xs.length * sz ≤ i' * sz := Nat.mul_le_mul_right _ hle
          rw [show (xs ++ ys).getD i' .nilptr = ys.getD (i' - xs.length) .nilptr from by simp [List.getD_eq_getElem?_getD, List.getElem?_append, hlt],
            show (vs ++ news).getD (i' * sz + k) undef = news.getD ((i' - xs.length) * sz + k) undef from by
              simp only [List.getD_eq_getElem?_getD, List.getElem?_append, hvl]
              rw [if_neg (by omega), Nat.sub_mul]
              congr 2; omega]
          exact (hy.2 (i' - xs.length) k (by simp at hi'; omega) hk').mono hk
      · rcases List.mem_append.1 hu with h' | h'
        · exact hx1 u h'
        · exact hy1 u h'
    · cases h
  · have hob : ∀ b, Value.blk v' = some b → v'.ownBlock = some b := fun b h => by
      rcases hown.2 with ⟨hv, _⟩ | ⟨g, cap, cur, hv, _⟩
      · rw [hv] at h; simp [Value.blk] at h
      · rw [hv] at h ⊢; simpa [Value.blk, Value.ownBlock] using h
    have cross : ∀ j, j ≠ id → ((upd id (.row E sz (xs ++ ys)) fun x => (st.mem x).kill (· == id)) j).live = true → Value.blk ((upd id v' γ) j) = some b → Value.blk v' = some b → False := fun j hj h h' hv => by
      rw [upd_ne _ _ _ _ hj] at h h'
      rw [kill_live] at h
      rcases hvb b (hob b hv) with h5 | h5
      · have := (live_obj (hI.mem.obj j) h h').1; omega
      · exact (hvlive b h5).2.2 j hj h h'
    by_cases e1 : i = id
    · by_cases e2 : j = id
      · rw [e1, e2]
      · subst e1; rw [upd_eq] at h3; exact (cross j e2 h2 h4 h3).elim
    · by_cases e2 : j = id
      · subst e2; rw [upd_eq] at h4; exact (cross i e1 h1 h3 h4).elim
      · rw [upd_ne _ _ _ _ e1] at h1 h3
        rw [upd_ne _ _ _ _ e2] at h2 h4
        rw [kill_live] at h1 h2
        exact hI.mem.inj i j b h1 h2 h3 h4
  · refine ⟨hg.os.trans hI.fr.os, hg.tape.trans hI.fr.tape, hg.output.trans hI.fr.output, Nat.le_trans hI.fr.size hg.size, fun k hk' hp => ?_, hI.fr.hL, hI.fr.hpb, hI.fr.hn, hI.fr.hgb⟩
    refine (hne k (fun e => ?_) (Nat.lt_of_lt_of_le hk' hI.fr.size)).trans (hI.fr.block k hk' hp)
    rcases (hvlive k e).2.1 with h | h
    · omega
    · exact hp h

theorem evs_rep (hI : Inv F γ st a w) {xs : List Opd} {ys : List Operand} (h : chkArgs xs ys = true) : (ys.map a.eval).length = (xs.map (ev st)).length ∧
    ∀ j, j < (xs.map (ev st)).length → RepP γ (Live F.L γ st.mem) w ((xs.map (ev st)).getD j .undef) ((ys.map a.eval).getD j undef) := by
  obtain ⟨h1, h2⟩ := chkArgs_eval hI h
  exact ⟨by simp [h1], fun j hj => h2 j (by simpa using hj)⟩

theorem callFunc_run {f : Nat} (hf : fnB P f = true) (args : Array Value) : (callFunc f args).run P w = .ok (.enter f args) w := by
  unfold fnB at hf
  split at hf
  · rename_i fn hfn
    simp only [Bool.and_eq_true, bne_iff_ne, ne_eq] at hf
    obtain ⟨h1, h2⟩ := hf
    unfold callFunc
    simp [hfn, h1]
    intro hn
    simp [hn] at h2
  · cases hf

theorem buildSlice_run {t e : TypeId} {i : TypeInfo} {v : Value} {n : Nat} {parts : Array (Nat × Value)} {us : Array Value} (hu : P.underlying t = some (.slice e)) (hi : P.info? e = some i) (hz : i.zero = some v) (hn : n * i.size ≤ 16777216)
    (hf : Instr.fill (fun j => some (j * i.size, i.size)) (if n * i.size = 0 then ((Array.range (n * i.size)).map ((#[] : Array Value)[· % (#[] : Array Value).size]!)) else ((Array.range (n * i.size)).map (v.cells[· % v.cells.size]!))) parts.toList = some us) :
    (Instr.buildSlice t n parts).run P w = .ok (.slice (some ⟨w.heap.size, 0, none⟩) n n) (w.alloc (.cells us e)) := by
  have hle : ¬ (n * i.size > 2 ^ 24) := by omega
  unfold Instr.buildSlice
  simp only [Sem.run_bind, run_underlying hu, Result.andThen_ok, run_sizeOf hi, if_neg hle]
  by_cases h0 : n * i.size = 0
  · simp only [if_pos h0] at hf ⊢
    simp only [Sem.run_pure, Result.andThen_ok, Sem.run_bind, hf]
    rfl
  · simp only [if_neg h0] at hf ⊢
    have hzv : (zeroValue e).run P w = .ok v w := by simp [zeroValue, typeInfo, hi, hz]
    simp only [Sem.run_pure, Result.andThen_ok, Sem.run_bind, hzv, hf]
    rfl

/-- What follows an operation of a frame: its value, or a panic. -/
def After (F : Ctx) (a : Act) (dst : Option Nat) (K' : PV → St → Prop) (kx : RV → St → Prop) (K : Act → World → Prop) (Q : Exit → Act → World → Prop) : Prop :=
  (∀ γ' st' q v w', Inv F γ' st' a w' → RepP γ' (Live F.L γ' st'.mem) w' q v → K' q st' → K (a.put dst v) w') ∧
  (∀ γ' st' r v w', Inv F γ' st' a w' → RepR (Live F.L γ' st'.mem) w' r v → kx r st' → Q (.panic [{ v, recovered := false }]) a w')

theorem wp_call {K' : PV → St → Prop} {kx : RV → St → Prop} {f : Nat} {args : Array Value} (hrun : (execOp a.eval o).run P w = .ok (.enter f args) w) (hc : Calls P f args w (CallEnd F a K' kx)) (hA : After F a o.dst K' kx K Q) : o.wp P a w K Q := by
  unfold Oper.wp Oper.upon
  rw [hrun]
  refine hc.mono fun e w' h => ?_
  cases e with
  | returned v => obtain ⟨γ', st', q, h1, h2, h3⟩ := h; exact hA.1 γ' st' q v w' h1 h2 h3
  | panicked chain => obtain ⟨γ', st', r, v, rfl, h1, h2, h3⟩ := h; exact hA.2 γ' st' r v w' h1 h2 h3
  | outgrown => exact h.elim

theorem rep_cells_one {L : Nat → Prop} {r : RV} {v : Value} (h : RepR L w r v) (h1 : v.oneCell' = true) : r.cells = [r] := by
  cases h <;> first | rfl | (simp [Value.oneCell'] at h1)

theorem madeCells_getD (z : Array Value) (n j : Nat) (hj : j < n) (hz : 0 < z.size) : (madeCells z n).getD j undef = z.getD (j % z.size) undef := by
  have h : j % z.size < z.size := Nat.mod_lt _ hz
  have e : (madeCells z n)[j]? = some (z[j % z.size]!) := by
    unfold madeCells
    simp [Array.getElem?_map, Array.getElem?_range, hj]
  rw [Array.getD_eq_getD_getElem?, e, Array.getD_eq_getD_getElem?, Array.getElem?_eq_getElem h]
  simp [getElem!_pos, h]

/-- A call that writes a row. -/
theorem rep_plain1 {L' : Nat → Prop} {L : Nat → Prop} {id : Nat} {q : PV} {v : Value} (h : RepP γ L w q v) (hp : q.plain1 id = true) (hk : Keeps L w L' w) : RepP (fun _ => γ id) L' w (q.nm 0) v := by
  cases q with
  | own i =>
    have : i = id := by simpa [PV.plain1] using hp
    subst this
    exact .own 0 v h.ownI
  | agg cs =>
    obtain ⟨vs, rfl, hs, hr⟩ := h.aggI
    simp only [PV.nm]
    refine .agg _ vs (by rw [PV.nmL_length]; exact hs) fun i hi => ?_
    rw [PV.nmL_length] at hi
    rw [PV.nmL_getD _ _ _ hi]
    have hc := hr i hi
    have hm := List.all_eq_true.1 (hp : cs.all (PV.pl1 id) = true) _ (getD_mem (d := PV.undef) hi)
    generalize cs.getD i .undef = c at hc hm
    cases c with
    | val r => exact .val r _ (hc.valI.mono hk)
    | emp s => rw [hc.empI]; exact .emp s
    | own j =>
      have : j = id := by simpa [PV.pl1] using hm
      subst this
      exact .own 0 _ hc.ownI
    | _ => simp [PV.pl1] at hm
  | _ => simp [PV.plain1] at hp

theorem row_sound {f id E sz : Nat} {q : PV} {v0 : Value} {rs : List RV} {ps : List PV} {vs : List Value} {K' : PV → St → Prop} {kx : RV → St → Prop} (hI : Inv F γ st a w) (hq : RepP γ (Live F.L γ st.mem) w q v0) (hl : vs.length = ps.length)
    (hr : ∀ j, j < ps.length → RepP γ (Live F.L γ st.mem) w (ps.getD j .undef) (vs.getD j undef)) (hm : st.mem id = .row E sz rs) (h : rowS P st f id q E sz rs ps K') : Calls P f (v0 :: vs).toArray w (CallEnd F a K' kx) := by
  unfold rowS at h
  split at h
  · exact h.elim
  · rename_i as has
    obtain ⟨hpl, hb0, hno, out, rs', hok, hfl, hK⟩ := h
    obtain ⟨ms, hargs, hml, _⟩ := avs_rep hI (ids := []) (fun i hi => by cases hi) has (fun p hp i hi => by rw [noOwn_ids (List.all_eq_true.1 hno p hp)] at hi; cases hi) vs hl hr
    have hms : ms = [] := List.eq_nil_of_length_eq_zero (by rw [hml, hb0]; rfl)
    subst hms
    obtain ⟨us, k1, k2, k3, k4⟩ := hI.mem.row id E sz rs hm
    have hlive : (st.mem id).live = true := by rw [hm]; rfl
    refine (hok (Lc F γ st.mem []) w (γ id) v0 us vs (fun b hb => hI.live_lt hb.1) (hI.gl.keep (Lc_keeps [])) (fun g hg => ⟨fun hb => (hI.gblk g hg).1 hb.1, (hI.gblk g hg).2⟩)
      (k1.mono (fun b hb _ => ⟨.inr ⟨id, hlive, hb⟩, fun i hi => by cases hi⟩) (fun _ _ => rfl)) k2 ⟨k3.1, fun i k hi hk => (k3.2 i k hi hk).mono (Lc_keeps [])⟩ k4 (rep_plain1 hq hpl (Lc_keeps [])) hargs).mono fun e w' ⟨hout, u, us', he, hrep, hrow, hcells, hone⟩ => ?_
    subst he
    have hI' : Inv F γ { st with mem := upd id (.row E sz rs') st.mem } a w' := by
      cases hb : Value.blk (γ id) with
      | some b =>
        rw [hb] at hout
        refine write_one hI id (.row E sz rs') w' b hb hlive rfl (fun cs e => by cases e) (fun _ _ _ _ => ⟨_, _, _, hm⟩) hout.os hout.tape hout.output hout.size (fun k hk hne => hout.block k hk (by simpa using hne)) (fun L' hs hk => ?_)
        refine ⟨us', hrow.mono (fun c hc _ => k1.ok hc) (fun _ _ => rfl), k2, ⟨hcells.1, fun i k hi hk' => (hcells.2 i k hi hk').mono fun c o v hc hv => ⟨fun h => hc ⟨hs c h, fun i hi => by cases hi⟩, hv⟩⟩, hone⟩
      | none =>
        rw [hb] at hout
        have hz : ∀ {w : World} {ok : Nat → Prop} {xs : List RV} {us : List Value}, w.rowAt ok E sz (γ id) xs.length us → xs = [] := fun {w ok xs us} h => by
          rcases h.2 with ⟨_, hn⟩ | ⟨g, cap, cur, hv, _⟩
          · exact List.eq_nil_of_length_eq_zero hn
          · rw [hv] at hb; cases hb
        have e1 := hz k1
        have e2 := hz hrow
        subst e1; subst e2
        have e3 : upd id (.row E sz []) st.mem = st.mem := by
          funext x
          by_cases hx : x = id
          · subst hx; rw [upd_eq, hm]
          · rw [upd_ne _ _ _ _ hx]
        rw [e3]
        exact hI.later hout.below
    exact ⟨γ, _, .val out, hI', .val _ _ (hrep.flat hfl), hK⟩

/-- EVERY OPERATION. -/
theorem step_sound {p : POp} {d : Nat} (hdn : d < 900) {K' : PV → St → Prop} {kx : RV → St → Prop} (hI : Inv F γ st a w) (hc : chkE P o p = true) (h : stepE P st d p K' kx) (hA : After F a o.dst K' kx K Q) : o.wp P a w K Q := by
  have still : chkStill P o p = true → stepS st p (fun q => K' q st) → o.wp P a w K Q := fun hc h => still_sound hI hc h fun v q hr hk => hA.1 γ st q v w hI hr hk
  cases p with
  | alloc z =>
    obtain ⟨dst, op, type, pos, after, guard⟩ := o
    cases op <;> simp [chkE] at hc
    rename_i t
    split at hc
    · rename_i i hi
      split at hc
      · rename_i v hz
        obtain ⟨h1, h2⟩ := consts_rep (γ := γ) (L := Live F.L γ st.mem) (w := w) hc
        have hk : PV.killL (· == d) z = z := by
          have : ∀ {ps : List PV} {vs : List Value}, isConsts ps vs = true → PV.killL (· == d) ps = ps := by
            intro ps
            induction ps with
            | nil => intro vs _; rfl
            | cons p ps ih =>
              intro vs h
              cases vs with
              | nil => simp [isConsts] at h
              | cons v vs =>
                simp only [isConsts, Bool.and_eq_true] at h
                simp only [PV.killL, ih h.2]
                have : p.kill (· == d) = p := by
                  cases p <;> first | rfl | (exact absurd h.1 (by simp [isConst]))
                rw [this]
          exact this hc
        have hI' := new_box hI d hdn z v.cells t h1 hk h2
        refine wp_val (v := .pointer (some ⟨w.heap.size, 0, none⟩)) (w' := w.alloc (.cells v.cells t)) ?_ (hA.1 _ _ _ _ _ hI' (.ptr d 0 w.heap.size (upd_eq _ _ _)) h)
        simp only [execOp]
        refine run_v ?_
        unfold Instr.alloc
        simp [zeroValue, typeInfo, hi, hz, newVar_run]
      · cases hc
    · cases hc
  | box x =>
    obtain ⟨dst, op, type, pos, after, guard⟩ := o
    cases op <;> simp [chkE] at hc
    rename_i t y
    obtain ⟨h1, h2, h3⟩ := h
    obtain ⟨k1, k2⟩ := solid_cells hI (ev_rep hI hc) h1
    have hI' := new_box hI d hdn _ (a.eval y).cells t k1 h2 k2
    refine wp_val (v := .pointer (some ⟨w.heap.size, 0, none⟩)) (w' := w.alloc (.cells (a.eval y).cells t)) ?_ (hA.1 _ _ _ _ _ hI' (.ptr d 0 w.heap.size (upd_eq _ _ _)) h3)
    simp only [execOp]
    refine run_v ?_
    unfold Instr.box
    simp [newVar_run]
  | build z parts =>
    obtain ⟨dst, op, type, pos, after, guard⟩ := o
    cases op <;> simp [chkE] at hc
    rename_i t ps
    split at hc
    · rename_i i fs hi hu
      split at hc
      · rename_i v places hz hp
        simp only [Bool.and_eq_true] at hc
        obtain ⟨h1, h2⟩ := consts_rep (γ := γ) (L := Live F.L γ st.mem) (w := w) hc.1
        obtain ⟨cs', us, e1, e2, e3, e4⟩ := fill_sound hI hc.2 h h1 (fun j hj => (h2 j hj).1)
        refine wp_val (v := .agg us) ?_ (hA.1 _ _ _ _ _ hI (mkAgg_rep e2 e3) e4)
        simp only [execOp]
        refine run_v (run_build w t _ us ?_)
        unfold Program.built
        simp only [hi, hu, hz, hp]
        rw [← e1]
        congr 1
        simp
      · cases hc
    · cases hc
  | lit E sz xs =>
    obtain ⟨dst, op, type, pos, after, guard⟩ := o
    cases op <;> simp [chkE] at hc
    rename_i t n ps
    split at hc
    · rename_i e hu
      simp only [Bool.and_eq_true, beq_iff_eq, decide_eq_true_eq] at hc
      obtain ⟨⟨⟨⟨⟨rfl, rfl⟩, h2⟩, h3⟩, h4⟩, h5⟩ := hc
      split at h5
      · rename_i i hi
        simp only [Bool.and_eq_true, beq_iff_eq] at h5
        obtain ⟨h6, h7⟩ := h5
        split at h7
        · rename_i v hz
          have hvs : v.cells.size = sz := by simpa using h7
          simp only [stepE] at h
          split at h
          · rename_i rs hrs
            obtain ⟨us, g1, g2, g3, g4, g5, g6⟩ := lit_fill hI h3 (k := 0) (vs := if xs.length * sz = 0 then ((Array.range (xs.length * sz)).map (#[][· % 0]!)) else ((Array.range (xs.length * sz)).map (v.cells[· % v.cells.size]!))) h4 hrs (by split <;> simp)
            have hus : us.size = rs.length * sz := by rw [g2, g3]; split <;> simp
            have hI' := new_row hI d e sz hdn h3 rs us hus (by unfold maxLen; have : rs.length ≤ rs.length * sz := Nat.le_mul_of_pos_right _ h3; rw [g3] at *; omega) g5 (fun i c hi hc => by simpa using g6 i c hi hc)
            refine wp_val (v := .slice (some ⟨w.heap.size, 0, none⟩) xs.length xs.length) (w' := w.alloc (.cells us e)) ?_ (hA.1 _ _ _ _ _ hI' (.own d _ (by rw [upd_eq, g3])) h)
            simp only [execOp]
            refine run_v ?_
            subst h6
            refine buildSlice_run hu hi hz h2 ?_
            rw [← g1]
            congr 1
            simp
          · exact h.elim
        · cases h7
      · cases h5
    · cases hc
  | store n x y =>
    obtain ⟨dst, op, type, pos, after, guard⟩ := o
    cases op <;> simp [chkE] at hc
    rename_i t x' y'
    obtain ⟨⟨h1, h2⟩, h3⟩ := hc
    obtain ⟨i, hi, hn⟩ : ∃ i, P.info? t = some i ∧ i.size = n := by
      split at h3
      · rename_i i hi; exact ⟨i, hi, by simpa using h3⟩
      · cases h3
    have hx := ev_rep hI h1
    have hy := ev_rep hI h2
    obtain ⟨hcn, h⟩ := h
    have fin : ∀ w' st', (Instr.storeAt t (a.eval x') (a.eval y')).run P w = .ok () w' → Inv F γ st' a w' → K' .skip st' → Oper.wp P { dst, op := .store t x' y', type, pos, after, guard } a w K Q := fun w' st' hr hI' hk => by
      refine wp_skip' (w' := w') ?_ (hA.1 _ _ _ _ _ hI' .skip hk)
      simp [execOp, hr]
    split at h
    · rename_i id off e
      rw [e] at hx
      obtain ⟨b, hg, hv⟩ := hx.ptrI
      split at h
      · rename_i cs hm
        obtain ⟨g1, g2, g3⟩ := h
        obtain ⟨w', hr, hI'⟩ := store_box hI (a := a) hi hn hg hm hy g1 hcn g2
        exact fin w' _ (by rw [hv]; exact hr) hI' g3
      · exact h.elim
    · rename_i id j s off e
      rw [e] at hx
      obtain ⟨b, n', c', hg, hv⟩ := hx.eltI
      split at h
      · rename_i E sz xs hm
        split at h
        · rename_i rs hvals
          obtain ⟨rfl, g1, g2, g3, g4⟩ := h
          obtain ⟨w', hr, hI'⟩ := store_elt hI hi hn hg hm g1 hy g2 hcn hvals g3
          exact fin w' _ (by rw [hv]; exact hr) hI' g4
        · exact h.elim
      · exact h.elim
    · exact h.elim
  | app E sz bytes x y =>
    obtain ⟨dst, op, type, pos, after, guard⟩ := o
    cases op <;> simp [chkE] at hc
    rename_i c
    obtain ⟨callee, args, argTypes⟩ := c
    cases callee <;> try (simp at hc; done)
    rename_i bi
    cases bi <;> try (simp at hc; done)
    dsimp only at hc
    obtain ⟨x', y', t, ha, hat, h1, h2, hu, i, z, hi, hs, hby, hz, hzs, hsz⟩ : ∃ x' y' t, args = #[x', y'] ∧ argTypes = #[t, t] ∧ chkOpd x x' = true ∧ chkOpd y y' = true ∧ P.underlying t = some (.slice E) ∧
        ∃ i z, P.info? E = some i ∧ i.size = sz ∧ i.bytes = bytes ∧ i.zero = some z ∧ z.cells.size = sz ∧ 0 < sz := by
      split at hc
      · rename_i x' y' t t' e1 e2
        simp only [Bool.and_eq_true, beq_iff_eq] at hc
        obtain ⟨⟨⟨rfl, g1⟩, g2⟩, g3⟩ := hc
        split at g3
        · rename_i e he
          simp only [Bool.and_eq_true, beq_iff_eq, decide_eq_true_eq] at g3
          obtain ⟨⟨rfl, g4⟩, g5⟩ := g3
          split at g5
          · rename_i i hi
            simp only [Bool.and_eq_true, beq_iff_eq] at g5
            obtain ⟨⟨g6, g7⟩, g8⟩ := g5
            split at g8
            · rename_i z hz
              exact ⟨x', y', t, by apply Array.toList_inj.1; simp [e1], by apply Array.toList_inj.1; simp [e2], g1, g2, he, i, z, hi, g6, g7, hz, by simpa using g8, g4⟩
            · cases g8
          · cases g5
        · cases g3
      · cases hc
    subst ha; subst hat
    have hx := ev_rep hI h1
    have hy := ev_rep hI h2
    simp only [stepE] at h
    split at h
    · exact h.elim
    · rename_i ys hys
      obtain ⟨hone, h⟩ := h
      have hsrc : Source (Live F.L γ st.mem) w sz ys (a.eval y') := by
        split at hys
        · rename_i s ys' e
          split at hys
          · rename_i hh
            simp only [Option.some.injEq] at hys
            subst hys
            rw [e] at hy
            exact source_list hy.valI hh hone
          · cases hys
        · rename_i s e
          simp only [Option.some.injEq] at hys
          subst hys
          rw [e] at hy
          exact .inl ⟨rfl, none, 0, hy.empI⟩
        · rename_i id e
          split at hys
          · rename_i E' s ys' hm
            split at hys
            · rename_i hh
              simp only [Option.some.injEq] at hys
              subst hys
              subst hh
              rw [e] at hy
              rw [hy.ownI]
              exact source_own hI hm
            · cases hys
          · cases hys
        · cases hys
      have fin : ∀ v' w', (Builtin.append_ #[t, t] type #[a.eval x', a.eval y']).run P w = .ok v' w' → K (a.put dst v') w' → Oper.wp P { dst, op := .call { callee := .builtin .append, args := #[x', y'], argTypes := #[t, t] }, type, pos, after, guard } a w K Q := fun v' w' hr hk => by
        refine wp_val (w' := w') ?_ hk
        simp [execOp, resolve, invoke, builtin, hr]
      split at h
      · rename_i id e
        rw [e] at hx
        split at h
        · rename_i E' sz' xs hm
          obtain ⟨h9, _, rfl, rfl, g1, g2, g3⟩ := h
          obtain ⟨vs, k1, k2, k3, k4⟩ := hI.mem.row id E' sz' xs hm
          obtain ⟨v', w', news, hr, m1, m2, m3, m4, m5, m6⟩ := append_run (ty := type) hu hi hz hs hby hzs hsz k1.own0 hsrc g2 g1 (Nat.zero_le _)
          have hI' := append_inv hI id E' sz' h9 hsz (.inl ⟨hm, rfl⟩) k3 k4 k1.1 m5 m4 (World.rowAt.of m1 fun b hb => by
            rcases m6 b hb with h | h
            · exact .inl (Nat.le_trans hI.fr.size h)
            · exact k1.ok (ownBlock_blk h)) m2 m6
          exact fin v' w' (by rw [hx.ownI]; exact hr) (hA.1 _ _ _ _ _ hI' (.own id v' (upd_eq _ _ _).symm) g3)
        · exact h.elim
      · rename_i s e
        rw [e] at hx
        obtain ⟨g1, g2, g3⟩ := h
        have k1 : w.ownsRow 0 E sz (.slice none 0 0) ([] : List RV).length [] := World.ownsRow_nil w 0 E sz
        obtain ⟨v', w', news, hr, m1, m2, m3, m4, m5, m6⟩ := append_run (ty := type) (xs := []) hu hi hz hs hby hzs hsz k1 hsrc (by simpa using g2) (by simpa using g1) (Nat.zero_le _)
        have hI' := append_inv hI d E sz (by omega) hsz (xs := []) (vs := []) (v := .slice none 0 0) (.inr rfl) ⟨by simp, fun i k hi => by simp at hi⟩ (by simp) (by simp) m5 m4 (World.rowAt.of m1 fun b hb => by
          rcases m6 b hb with h | h
          · exact .inl (Nat.le_trans hI.fr.size h)
          · cases h) m2 m6
        exact fin v' w' (by rw [hx.empI]; exact hr) (hA.1 _ _ _ _ _ hI' (.own d v' (upd_eq _ _ _).symm) (by simpa using g3))
      · exact h.elim
  | call f xs =>
    obtain ⟨dst, op, type, pos, after, guard⟩ := o
    cases op <;> simp [chkE] at hc
    rename_i c
    obtain ⟨callee, args, argTypes⟩ := c
    cases callee <;> try (simp at hc; done)
    rename_i y
    cases y <;> try (simp at hc; done)
    rename_i f'
    simp only [Bool.and_eq_true, beq_iff_eq] at hc
    obtain ⟨⟨rfl, h1⟩, h2⟩ := hc
    obtain ⟨k1, k2⟩ := evs_rep hI h1
    refine wp_call (f := f) (args := (args.toList.map a.eval).toArray) ?_ (call_sound hI k1 k2 h) hA
    have := callFunc_run (P := P) (w := w) h2 (args.map a.eval)
    simp [execOp, resolve, Deferred.ofValue, Act.eval, invoke]
    have e2 : (List.map a.eval args.toList).toArray = args.map a.eval := by apply Array.toList_inj.1; simp
    rw [e2]; exact this
  | callr f x xs =>
    obtain ⟨dst, op, type, pos, after, guard⟩ := o
    cases op <;> simp [chkE] at hc
    rename_i c
    obtain ⟨callee, args, argTypes⟩ := c
    cases callee <;> try (simp at hc; done)
    rename_i y
    cases y <;> try (simp at hc; done)
    rename_i f'
    simp only [Bool.and_eq_true, beq_iff_eq] at hc
    obtain ⟨⟨rfl, h1⟩, h2⟩ := hc
    obtain ⟨k1, k2⟩ := evs_rep hI h1
    simp only [stepE] at h
    split at h
    · rename_i id e
      split at h
      · rename_i E sz rs hm
        obtain ⟨u, vs, hl⟩ : ∃ u vs, args.toList.map a.eval = u :: vs := by
          cases hh : args.toList.map a.eval with
          | nil => rw [hh] at k1; simp at k1
          | cons u vs => exact ⟨u, vs, rfl⟩
        rw [hl] at k1 k2
        have hu : RepP γ (Live F.L γ st.mem) w (ev st x) u := by
          have := k2 0 (by simp)
          simpa only [List.map_cons, List.getD_cons_zero] using this
        refine wp_call (f := f) (args := (args.toList.map a.eval).toArray) ?_ (by rw [hl]; exact row_sound hI hu (by simpa using k1) (fun j hj => by simpa using k2 (j + 1) (by simpa using hj)) hm h) hA
        have := callFunc_run (P := P) (w := w) h2 (args.map a.eval)
        simp [execOp, resolve, Deferred.ofValue, Act.eval, invoke]
        have e2 : (List.map a.eval args.toList).toArray = args.map a.eval := by apply Array.toList_inj.1; simp
        rw [e2]; exact this
      · exact h.elim
    · refine wp_call (f := f) (args := (args.toList.map a.eval).toArray) ?_ (call_sound hI k1 k2 h) hA
      have := callFunc_run (P := P) (w := w) h2 (args.map a.eval)
      simp [execOp, resolve, Deferred.ofValue, Act.eval, invoke]
      have e2 : (List.map a.eval args.toList).toArray = args.map a.eval := by apply Array.toList_inj.1; simp
      rw [e2]; exact this
  | callv x xs =>
    obtain ⟨dst, op, type, pos, after, guard⟩ := o
    cases op <;> simp [chkE] at hc
    rename_i c
    obtain ⟨callee, args, argTypes⟩ := c
    cases callee <;> try (simp at hc; done)
    rename_i y
    dsimp only at hc
    simp only [Bool.and_eq_true] at hc
    obtain ⟨h1, h2⟩ := hc
    have hx := ev_rep hI h1
    simp only [stepE] at h
    split at h
    · rename_i f caps e
      rw [e] at hx
      obtain ⟨vs, hv, hs, hr⟩ := hx.fnI
      obtain ⟨hf, h⟩ := h
      obtain ⟨k1, k2⟩ := evs_rep hI h2
      have k3 : (args.toList.map a.eval ++ vs.toList).length = (xs.map (ev st) ++ caps).length := by rw [List.length_append, List.length_append, k1]; simp [hs]
      refine wp_call (f := f) (args := (args.toList.map a.eval ++ vs.toList).toArray) ?_ (call_sound hI k3 (fun j hj => ?_) h) hA
      · have := callFunc_run (P := P) (w := w) hf (args.map a.eval ++ vs)
        simp [execOp, resolve, Deferred.ofValue, hv, invoke]
        have e2 : (List.map a.eval args.toList ++ vs.toList).toArray = args.map a.eval ++ vs := by apply Array.toList_inj.1; simp
        rw [e2]; exact this
      · by_cases hlt : j < (xs.map (ev st)).length
        · rw [show (xs.map (ev st) ++ caps).getD j .undef = (xs.map (ev st)).getD j .undef from by simp [List.getD_eq_getElem?_getD, List.getElem?_append, show j < xs.length by simpa using hlt],
            show (args.toList.map a.eval ++ vs.toList).getD j undef = (args.toList.map a.eval).getD j undef from by rw [List.getD_eq_getElem?_getD, List.getElem?_append, if_pos (by omega), ← List.getD_eq_getElem?_getD]]
          exact k2 j hlt
        · rw [show (xs.map (ev st) ++ caps).getD j .undef = caps.getD (j - (xs.map (ev st)).length) .undef from by rw [List.getD_eq_getElem?_getD, List.getElem?_append, if_neg hlt, ← List.getD_eq_getElem?_getD],
            show (args.toList.map a.eval ++ vs.toList).getD j undef = vs.toList.getD (j - (xs.map (ev st)).length) undef from by rw [List.getD_eq_getElem?_getD, List.getElem?_append, if_neg (by omega), ← List.getD_eq_getElem?_getD, k1], ← arr_list]
          exact hr _ (by rw [List.length_append] at hj; omega)
    · exact h.elim
  | pan x =>
    obtain ⟨dst, op, type, pos, after, guard⟩ := o
    cases op <;> simp [chkE] at hc
    rename_i y
    have hx := ev_rep hI hc
    simp only [stepE] at h
    split at h
    · rename_i t r e
      rw [e] at hx
      have hv := hx.valI
      generalize hy : a.eval y = v at hv
      cases hv with
      | ifc _ _ u hu =>
        unfold Oper.wp
        have : (execOp a.eval { dst, op := .panic y, type, pos, after, guard }).run P w = .halt (.panic (.iface t u)) w := by
          simp [execOp, hy, Instr.panic]
        rw [this]
        exact hA.2 γ st _ _ w hI (.ifc t r u hu) h
    · exact h.elim
  | mks E sz bytes agg z x =>
    obtain ⟨dst, op, type, pos, after, guard⟩ := o
    cases op <;> simp [chkE] at hc
    rename_i t l c
    obtain ⟨⟨h1, h2⟩, h3⟩ := hc
    obtain ⟨e, hu, rfl, hsz, hag, hag1, i, v, hi, hz, rfl, rfl, hvs, hcs⟩ : ∃ e, P.underlying t = some (.slice e) ∧ e = E ∧ 0 < sz ∧ aggB P e = some agg ∧ (agg || sz == 1) = true ∧ ∃ i v, P.info? e = some i ∧ i.zero = some v ∧ i.size = sz ∧ i.bytes = bytes ∧ v.cells.size = sz ∧ isConsts z v.cells.toList = true := by
      split at h3
      · rename_i e hu
        simp only [Bool.and_eq_true, beq_iff_eq, decide_eq_true_eq] at h3
        obtain ⟨⟨⟨⟨rfl, g1⟩, g2⟩, g3⟩, g4⟩ := h3
        split at g4
        · rename_i i hi
          simp only [Bool.and_eq_true, beq_iff_eq] at g4
          obtain ⟨⟨g5, g6⟩, g7⟩ := g4
          split at g7
          · rename_i v hz
            simp only [Bool.and_eq_true, beq_iff_eq] at g7
            exact ⟨e, hu, rfl, g1, g2, by simpa using g3, i, v, hi, hz, g5, g6, g7.1, g7.2⟩
          · cases g7
        · cases g4
      · cases h3
    have hl := ev_rep hI h2
    have hcap := ev_rep hI h1
    simp only [stepE] at h
    split at h
    · rename_i k n zs e1 e2
      obtain ⟨h0, hb, hm, hk⟩ := h
      rw [e1] at hl hcap
      have hl' := hl.valI
      have hc' := hcap.valI
      obtain ⟨k1, k2⟩ := consts_rep (γ := γ) (L := Live F.L γ st.mem) (w := w) hcs
      obtain ⟨r1, r2⟩ := vals_rep e2 (fun j => v.cells.getD j undef) (fun j hj => (k2 j hj).1)
      let el : RV := if agg then .agg zs else zs.getD 0 .nilptr
      have hel : el.cells = zs := by
        cases agg with
        | true => rfl
        | false =>
          have h1' : i.size = 1 := by simpa using hag1
          have hz1 : zs.length = 1 := by omega
          obtain ⟨z0, rfl⟩ := List.length_eq_one_iff.1 hz1
          show ([z0].getD 0 .nilptr).cells = [z0]
          simp only [List.getD_cons_zero]
          have g := r2 0 (by omega)
          have g' := (k2 0 (by omega)).2
          simp only [List.getD_cons_zero] at g
          exact rep_cells_one g g'
      have hzl : zs.length = i.size := by omega
      have hrun := run_make (P := P) w t e i v hu hi hz k k n n h0 (Int.le_refl _) (by
        have h : ((i.bytes * n.toNat : Nat) : Int) ≤ 281474976710656 := by omega
        rw [Int.natCast_mul, Int.toNat_of_nonneg h0] at h
        exact h) (by omega)
      have hI' := new_row hI d e i.size hdn hsz (List.replicate n.toNat el) (madeCells v.cells (n.toNat * i.size)) (by rw [size_madeCells]; simp) (by simp [maxLen]; omega) (fun r hr => by rw [(List.mem_replicate.1 hr).2, hel, hzl]) (fun i' c hi' hc'' => by
        simp only [List.length_replicate] at hi'
        have e3 : (List.replicate n.toNat el).getD i' .nilptr = el := by simp [List.getD_eq_getElem?_getD, List.getElem?_replicate, hi']
        have hlt : i' * i.size + c < n.toNat * i.size := by
          have := Nat.mul_le_mul_right i.size (show i' + 1 ≤ n.toNat from hi')
          rw [Nat.add_mul] at this; omega
        have e4 : (madeCells v.cells (n.toNat * i.size)).getD (i' * i.size + c) undef = v.cells.getD c undef := by
          have hm' : (i' * i.size + c) % i.size = c := by rw [Nat.mul_comm, Nat.mul_add_mod]; exact Nat.mod_eq_of_lt hc''
          rw [madeCells_getD _ _ _ hlt (by omega), hvs, hm']
        rw [e3, e4, hel]
        exact ⟨r2 c (by omega), (k2 c (by omega)).2⟩)
      refine wp_val (v := .slice (some ⟨w.heap.size, 0, none⟩) n.toNat n.toNat) (w' := w.alloc (.cells (madeCells v.cells (n.toNat * i.size)) e)) ?_ (hA.1 _ _ _ _ _ hI' (.own d _ (by rw [upd_eq]; simp)) hk)
      simp only [execOp]
      refine run_v ?_
      have el' : a.eval l = .int k n := by revert hl'; generalize a.eval l = u; intro hl'; cases hl'; rfl
      have ec' : a.eval c = .int k n := by revert hc'; generalize a.eval c = u; intro hc'; cases hc'; rfl
      rw [el', ec']
      exact hrun
    · exact h.elim
  | isnil iface neg x =>
    obtain ⟨dst, op, type, pos, after, guard⟩ := o
    cases op <;> simp [chkE] at hc
    rename_i op' t x' y yt
    cases y <;> try (simp at hc; done)
    rename_i v
    simp only [Bool.and_eq_true, beq_iff_eq] at hc
    obtain ⟨⟨rfl, h1⟩, h3⟩ := hc
    have hx := ev_rep hI h1
    have hd : Op.maxDepth = 9999 + 1 := rfl
    split at h3
    · rename_i u u' ms hu
      have ec : a.eval (.const Value.nilIface) = .nilIface := rfl
      have fin : ∀ (u : Value) (b : Bool), a.eval x' = u → (u = .nilIface ∨ ∃ ty v, u = .iface ty v) → (∀ w, (Op.equal t u .nilIface).run P w = .ok b w) → K' (.val (.bool (if neg then !b else b))) st →
          Oper.wp P { dst, op := .binOp (if neg then BinOp.neq else BinOp.eql) t x' (.const .nilIface) yt, type, pos, after, guard } a w K Q := fun u b he hu' hq hk => by
        refine wp_val (v := .bool (if neg then !b else b)) (w' := w) ?_ (hA.1 _ _ _ _ _ hI (.val _ _ (.bool _)) hk)
        rcases hu' with rfl | ⟨ty, v, rfl⟩ <;> cases neg <;> simp [execOp, he, ec, eqGuard, binOp, hq]
      simp only [stepE] at h
      split at h
      · rename_i e1 e2
        rw [e2] at hx
        have hv := hx.valI
        generalize hev : a.eval x' = u at *
        cases hv
        exact fin _ true rfl (.inl rfl) (fun w => by unfold Op.equal; rw [hd]; unfold Op.equalIn; simp [run_underlying hu]) (by simpa using h)
      · rename_i e1 e2
        rw [e2] at hx
        have hv := hx.valI
        generalize hev : a.eval x' = u at *
        cases hv
        exact fin _ false rfl (.inr ⟨_, _, rfl⟩) (fun w => by unfold Op.equal; rw [hd]; unfold Op.equalIn; simp [run_underlying hu]) (by simpa using h)
      all_goals first | exact h.elim | simp_all
    · rename_i u u' ee hu
      have fin : ∀ (A : Option Addr) (n c : Nat), a.eval x' = .slice A n c → K' (.val (.bool (if neg then !A.isNone else A.isNone))) st → Oper.wp P { dst, op := .binOp (if neg then BinOp.neq else BinOp.eql) t x' (.const (.slice none 0 0)) yt, type, pos, after, guard } a w K Q := fun A n c he hk => by
        have hq : ∀ w, (Op.equal t (.slice A n c) (.slice none 0 0)).run P w = .ok A.isNone w := fun w => by
          unfold Op.equal; rw [hd]; unfold Op.equalIn
          cases A <;> simp [run_underlying hu]
        have ec : a.eval (.const (Value.slice none 0 0)) = .slice none 0 0 := rfl
        refine wp_val (v := .bool (if neg then !A.isNone else A.isNone)) (w' := w) ?_ (hA.1 _ _ _ _ _ hI (.val _ _ (.bool _)) hk)
        cases neg <;> simp [execOp, he, ec, eqGuard, binOp, hq]
      simp only [stepE] at h
      split at h
      · simp_all
      · simp_all
      · rename_i e1 e2
        rw [e2] at hx
        exact fin none 0 0 hx.empI (by simpa using h)
      · rename_i s xs e1 e2
        rw [e2] at hx
        have hv := hx.valI
        generalize hev : a.eval x' = u at *
        cases hv with
        | list0 _ A c =>
          cases A with
          | none => exact fin none 0 c rfl (by simpa using h.1 rfl)
          | some A => exact fin (some A) 0 c rfl (by cases neg <;> simpa using h.2)
        | list _ _ b o c f h0 => exact fin _ _ c rfl (by cases neg <;> simpa using h.2)
      · rename_i id e1 e2
        rw [e2] at hx
        split at h
        · rename_i E sz xs hm
          obtain ⟨vs, g1, _⟩ := hI.mem.row id E sz xs hm
          rcases g1.2 with ⟨hv, hn⟩ | ⟨g, cap, cur, hv, _⟩
          · exact fin none 0 0 (by rw [hx.ownI, hv]) (by simpa using h.1 (List.eq_nil_of_length_eq_zero hn))
          · exact fin _ _ _ (by rw [hx.ownI, hv]) (by cases neg <;> simpa using h.2)
        · exact h.elim
      · exact h.elim
    · cases h3
  | _ => exact still hc h
end
end Go.PW
