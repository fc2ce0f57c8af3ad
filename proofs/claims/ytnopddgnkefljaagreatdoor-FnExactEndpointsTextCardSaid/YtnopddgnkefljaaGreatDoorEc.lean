/- Ec: merged out of KLc, KIm, KIn. -/
import Derived.Test.YtnopddgnkefljaaGreatDoorEa
import Derived.Shelf.Strings.IndexAnyAll
import Derived.Laws.Runes
import Derived.Laws.RangeAny
import Derived.Lib.QuoteLoop
import Derived.WalkMore
import Derived.Lib.OthersKept
import Derived.Deep.QuietTactic
import Derived.BigQuiet
import Derived.Deep.DeepBigQuietO
import Derived.Shelf.RegionOpenPlain
import Derived.Test.YtnopddgnkefljaaGreatDoorCa
import Derived.Test.YtnopddgnkefljaaGreatDoorAc
import Derived.Test.YtnopddgnkefljaaGreatDoorBb
import Derived.Test.YtnopddgnkefljaaGreatDoorEb
import Derived.Test.YtnopddgnkefljaaGreatDoorCb

/- strings.IndexRune at a rune that is no ASCII byte; strings.ContainsAny at every text, of ASCII signs. -/
section
set_option linter.unusedVariables false
namespace Go.Proofs
open Go.Shelf Go.RowKit Go.Lib
variable {P : Program} {ρ : Ren}

set_option maxHeartbeats 8000000 in
set_option maxRecDepth 1000000 in
theorem any_IndexRune_error (L : Lays.n152 P ρ) (s : ByteArray) (w : World) (hs : ∀ (j : Nat) b, s.data.toList[j]? = some b → b.toNat < 128) :
    Calls P (ρ.f 152) #[.string s, .int .i32 65533] w fun e w' => e = .returned (.int .i64 (-1)) ∧ ∃ pos, w' = w.iter s pos := by
  have HA : Aside (∀ (j : Nat) b, s.data.toList[j]? = some b → b.toNat < 128) := hs
  clear hs
  have t3 := L.t3; have a3 := L.a3; have z3 := L.z3; have v3 := L.v3
  have t4 := L.t4; have a4 := L.a4; have z4 := L.z4; have v4 := L.v4
  have t5 := L.t5; have a5 := L.a5; have z5 := L.z5; have v5 := L.v5
  have t9 := L.t9; have a9 := L.a9; have z9 := L.z9; have v9 := L.v9
  have t21 := L.t21; have a21 := L.a21; have z21 := L.z21; have v21 := L.v21
  go_enter L.f152, Body.n152_ntmps ρ
  go_wp2
  go_loopg [5, 6] s.size (fun g _ _ wx => ∃ i : Nat, i + g = s.size ∧ wx = w.iter s i)
  case atStart => exact ⟨0, by omega, rfl⟩
  case round =>
    obtain ⟨i, hig, rfl⟩ := hrel
    cases gk with
    | zero =>
      obtain rfl : i = s.size := by omega
      have hnx := run_next_end (P := P) w s s.size
      go_wp2
      go_ret
      exact ⟨rfl, _, rfl⟩
    | succ g =>
      have hi : i < s.size := by omega
      obtain ⟨x, hx⟩ : ∃ x : UInt8, s[i]'hi = x := ⟨_, rfl⟩
      have hxl : s.data.toList[i]? = some x := by rw [← hx]; exact Lib.data_getElem? s i hi
      have hx128 : x.toNat < 128 := HA.out i x hxl
      have hnx := fun ty => run_next_ascii (P := P) w s i ty hi (by rw [hx]; exact hx128)
      rw [hx] at hnx
      clear hxl hx
      have hne : ((x.toNat : Int) == 65533) = false := beq_eq_false_iff_ne.2 (by omega)
      go_wp2
      go_roundg g
      case measure => omega
      case rel => exact ⟨i + 1, by omega, rfl⟩

theorem encode_last (r : Int) (hv : Lib.validRune r = true) (h128 : 128 ≤ r) : 1 ≤ (Utf8.encode r).size ∧ (Utf8.encode r).size ≤ 4 ∧ ∀ h : (Utf8.encode r).size - 1 < (Utf8.encode r).size, 128 ≤ ((Utf8.encode r)[(Utf8.encode r).size - 1]'h).toNat := by
  have := encode_facts r (by rw [Go.validRune_eq]; exact hv) h128
  exact ⟨by omega, this.2.1, this.2.2⟩

set_option maxHeartbeats 8000000 in
set_option maxRecDepth 1000000 in
theorem any_IndexRune_high (L : Lays.n152 P ρ) (s : ByteArray) (r : Int) (w : World) (h128 : 128 ≤ r) (hne : r ≠ 65533) (hv : Lib.validRune r = true) (hsz : s.size < 1000) (hs : ∀ b ∈ s.data.toList, b.toNat < 128) :
    Calls P (ρ.f 152) #[.string s, .int .i32 r] w fun e w' => e = .returned (.int .i64 (-1)) ∧ Below w.heap.size w w' := by
  have HA : Aside (∀ b ∈ s.data.toList, b.toNat < 128) := hs
  clear hs
  obtain ⟨k1, k4, klast⟩ := encode_last r hv h128
  have mixed := L.mixed
  obtain ⟨t, ht⟩ : ∃ t, Utf8.encode r = t := ⟨_, rfl⟩
  rw [ht] at k1 k4 klast
  have t3 := L.t3; have a3 := L.a3; have z3 := L.z3; have v3 := L.v3
  have t4 := L.t4; have a4 := L.a4; have z4 := L.z4; have v4 := L.v4
  have t5 := L.t5; have a5 := L.a5; have z5 := L.z5; have v5 := L.v5
  have t9 := L.t9; have a9 := L.a9; have z9 := L.z9; have v9 := L.v9
  have t21 := L.t21; have a21 := L.a21; have z21 := L.z21; have v21 := L.v21
  have e119 : ∀ args w, (callFunc (ρ.f 119) args).run P w = .ok (.enter (ρ.f 119) args) w := enters_of L.f119 (by kernel_rfl) rfl
  have e137 : ∀ args w, (callFunc (ρ.f 137) args).run P w = .ok (.enter (ρ.f 137) args) w := enters_of L.f137 (by kernel_rfl) rfl
  have hneb : (r == 65533) = false := beq_eq_false_iff_ne.2 hne
  have h128b : ¬ r < 128 := by omega
  have hcv : ∀ (w : World), (convert (ρ.t 21) (ρ.t 9) (.int .i32 r)).run P w = .ok (.string t) w := fun w => by
    rw [run_convert_int_string w _ _ _ _ (by rw [t21]; rfl) t9, ht]
  go_enter L.f152, Body.n152_ntmps ρ
  go_wp2_with (go_at_fn (ρ.f 119); refine (Any.utf8_ValidRune { L with } _ _).mono ?_; rintro e w' ⟨rfl, hw⟩; rw [hw, hv])
  go_step3
  go_wp2
  go_loopg [9, 10] 0 (fun g s9 s10 wx => s9 = .int .i64 ((t.size : Int) - 1) ∧ s10 = .int .i64 0 ∧ wx = w)
  case atStart => exact ⟨rfl, rfl, rfl⟩
  case round =>
    obtain ⟨rfl, rfl, rfl⟩ := hrel
    by_cases hlt : (t.size : Int) - 1 < (s.size : Int)
    · have hi : t.size - 1 < s.size := by omega
      have hj : t.size - 1 < t.size := by omega
      have e1 : ((t.size : Int) - 1).toNat = t.size - 1 := by omega
      have q0 : (0 : Int) ≤ (t.size : Int) - 1 := by omega
      have q1 : (t.size : Int) - 1 < (t.size : Int) := by omega
      obtain ⟨x, hx⟩ : ∃ x : UInt8, s[t.size - 1]'hi = x := ⟨_, rfl⟩
      obtain ⟨y, hy⟩ : ∃ y : UInt8, t[t.size - 1]'hj = y := ⟨_, rfl⟩
      have hx1 : x.toNat < 128 := HA.out x (by rw [← hx]; exact Array.getElem_mem_toList (xs := s.data) hi)
      have hy1 : 128 ≤ y.toNat := by rw [← hy]; exact klast hj
      have hxy : ((x.toNat : Int) == (y.toNat : Int)) = false := beq_eq_false_iff_ne.2 (by omega)
      have g1 : ∀ w : World, (Instr.index (ρ.t 9) (.string s) (.int .i64 ((t.size : Int) - 1))).run P w = .ok (.int .u8 (x.toNat : Int)) w := fun w => by
        rw [run_index_string w _ _ _ _ t9, dif_pos ⟨q0, hlt⟩]
        congr 3
        rw [← hx]; congr 2
      have g2 : ∀ w : World, (Instr.index (ρ.t 9) (.string t) (.int .i64 ((t.size : Int) - 1))).run P w = .ok (.int .u8 (y.toNat : Int)) w := fun w => by
        rw [run_index_string w _ _ _ _ t9, dif_pos ⟨q0, q1⟩]
        congr 3
        rw [← hy]; congr 2
      go_wp2
      go_step3
      go_wp2
      go_quiet_o (fail)
      go_wp2
      have hix : Lib.indexByte (s.extract t.size s.size).data.toList y = -1 := by
        rw [← Lib.firstIdx_eq]
        exact firstIdx_ascii s _ _ y (fun b hb => HA.out b hb) hy1
      have hback : ((y.toNat : Int)).toNat.toUInt8 = y := by simp
      have hcall : ∀ w : World, Calls P (ρ.f 137) #[.string (s.extract t.size s.size), .int .u8 (y.toNat : Int)] w fun e w' => e = .returned (.int .i64 (-1)) ∧ w' = w := fun w => by
        refine (Any.strings_IndexByte { L with } (s.extract t.size s.size) (y.toNat : Int) w).mono ?_
        rintro e w' ⟨rfl, hw⟩
        rw [hback, hix]; exact ⟨rfl, hw⟩
      have hwr : IntKind.i64.wrap (t.size : Int) = (t.size : Int) := Go.wrap_small _ (by omega) (by omega)
      have q3 : (t.size : Int) ≤ (s.size : Int) := by omega
      go_big_quiet_o (first | exact (hcall _).mono fun _ _ h => ⟨h.1, _, h.2⟩)
      go_wp2
      simp only [Exit.then, Exit.inBlock, Exit.noGoto]
      go_ret
      exact ⟨rfl, ⟨rfl, rfl, rfl, Nat.le_refl _, fun _ _ => rfl⟩⟩
    · go_wp2
      go_ret
      exact ⟨rfl, Below.refl _ _⟩

/-! ### Of a rune that is no ASCII byte all bytes are beyond ASCII -/
theorem decode_span (s : ByteArray) (pos : Nat) (h : pos < s.size) (ha : 128 ≤ (s[pos]'h).toNat) : pos + (Utf8.decode s pos).2 ≤ s.size ∧ ∀ j, pos ≤ j → j < pos + (Utf8.decode s pos).2 → 128 ≤ (s.get! j).toNat := by
  have h0 : s.get! (pos + 0) = s[pos]'h := get_at s pos h
  have hn : ¬ (s[pos]'h).toNat < 128 := by omega
  have key : ∀ n, (1 ≤ n ∧ n ≤ 4) → (2 ≤ n → pos + 1 < s.size ∧ (s.get! (pos + 1)).toNat / 64 = 2) → (3 ≤ n → pos + 2 < s.size ∧ (s.get! (pos + 2)).toNat / 64 = 2) → (4 ≤ n → pos + 3 < s.size ∧ (s.get! (pos + 3)).toNat / 64 = 2) →
      pos + n ≤ s.size ∧ ∀ j, pos ≤ j → j < pos + n → 128 ≤ (s.get! j).toNat := by
    intro n hn4 q1 q2 q3
    constructor
    · by_cases c1 : 4 ≤ n
      · have := (q3 c1).1; omega
      · by_cases c2 : 3 ≤ n
        · have := (q2 c2).1; omega
        · by_cases c3 : 2 ≤ n
          · have := (q1 c3).1; omega
          · omega
    · intro j hj hjn
      have : j = pos + 0 ∨ j = pos + 1 ∨ j = pos + 2 ∨ j = pos + 3 := by omega
      rcases this with rfl | rfl | rfl | rfl
      · show 128 ≤ (s.get! (j + 0)).toNat
        rw [h0]; exact ha
      · have := (q1 (by omega)).2; omega
      · have := (q2 (by omega)).2; omega
      · have := (q3 (by omega)).2; omega
  unfold Utf8.decode
  simp only [h0, hn, if_false]
  repeat' split
  all_goals (first
    | (refine key 1 (by omega) (by omega) (by omega) (by omega))
    | (rename_i hc _; simp only [Bool.and_eq_true, decide_eq_true_eq, beq_iff_eq] at hc; refine key 2 (by omega) (fun _ => ⟨hc.2.1, hc.2.2⟩) (by omega) (by omega))
    | (rename_i hc _; simp only [Bool.and_eq_true, decide_eq_true_eq, beq_iff_eq] at hc; refine key 3 (by omega) (fun _ => ⟨hc.1.2.1, hc.1.2.2⟩) (fun _ => ⟨hc.2.1, hc.2.2⟩) (by omega))
    | (rename_i hc _; simp only [Bool.and_eq_true, decide_eq_true_eq, beq_iff_eq] at hc; refine key 4 (by omega) (fun _ => ⟨hc.1.1.2.1, hc.1.1.2.2⟩) (fun _ => ⟨hc.1.2.1, hc.1.2.2⟩) (fun _ => ⟨hc.2.1, hc.2.2⟩)))

theorem decode_valid (s : ByteArray) (pos : Nat) : Lib.validRune ((Utf8.decode s pos).1 : Int) = true := by
  have h := Lib.decodeN_valid (s.size - pos) (s.get! pos).toNat (s.get! (pos + 1)).toNat (s.get! (pos + 2)).toNat (s.get! (pos + 3)).toNat (UInt8.toNat_lt _)
  rw [← Lib.decode_at] at h
  simp only [Lib.validRune, decide_eq_true_eq]
  omega

/-- IndexRune of ASCII signs, at a rune beyond ASCII. -/
theorem any_IndexRune_beyond (L : Lays.n152 P ρ) (chars : ByteArray) (c : Int) (w : World) (h128 : 128 ≤ c) (hv : Lib.validRune c = true) (hsz : chars.size < 1000) (hs : ∀ b ∈ chars.data.toList, b.toNat < 128) :
    Calls P (ρ.f 152) #[.string chars, .int .i32 c] w fun e w' => e = .returned (.int .i64 (-1)) ∧ Below w.heap.size w w' := by
  by_cases he : c = 65533
  · subst he
    refine (any_IndexRune_error L chars w (fun j b hb => hs b (List.mem_of_getElem? hb))).mono fun e w' ⟨h1, pos, h2⟩ => ⟨h1, ?_⟩
    subst h2
    exact (Below.refl _ w).alloc (Nat.le_refl _) _
  · exact any_IndexRune_high L chars c w h128 he hv hsz hs

set_option maxHeartbeats 8000000 in
set_option maxRecDepth 1000000 in
/-- s of at most 8 bytes, whatever they are; ASCII signs. -/
theorem any_IndexAny_short (L : Lays.n153 P ρ) (s chars : ByteArray) (w : World) (h2 : 2 ≤ chars.size) (h8 : s.size ≤ 8) (hsz : chars.size < 1000) (hascii : ∀ b ∈ chars.data.toList, b.toNat < 128) :
    Calls P (ρ.f 153) #[.string s, .string chars] w fun e w' => e = .returned (.int .i64 (Lib.indexAny s.data.toList chars.data.toList)) ∧ Below w.heap.size w w' := by
  have HA : Aside (∀ b ∈ chars.data.toList, b.toNat < 128) := hascii
  clear hascii
  have hemp : chars.toList.isEmpty = false := by
    rw [Lib.toList_data]
    cases h : chars.data.toList with
    | nil => have := Lib.size_eq chars; rw [h, List.length_nil] at this; omega
    | cons _ _ => rfl
  have hn1 : ((chars.size : Int) == 1) = false := beq_eq_false_iff_ne.2 (by omega)
  have h8z : decide ((8 : Int) < (s.size : Int)) = false := decide_eq_false (by omega)
  have t3 := L.t3; have a3 := L.a3; have z3 := L.z3; have v3 := L.v3
  have t4 := L.t4; have a4 := L.a4; have z4 := L.z4; have v4 := L.v4
  have t5 := L.t5; have a5 := L.a5; have z5 := L.z5; have v5 := L.v5
  have t9 := L.t9; have a9 := L.a9; have z9 := L.z9; have v9 := L.v9
  have t21 := L.t21; have a21 := L.a21; have z21 := L.z21; have v21 := L.v21
  have e152 : ∀ args w, (callFunc (ρ.f 152) args).run P w = .ok (.enter (ρ.f 152) args) w := enters_of L.f152 (by kernel_rfl) rfl
  have e226 : ∀ args w, (callFunc (ρ.f 226) args).run P w = .ok (.enter (ρ.f 226) args) w := enters_of L.f226 (by kernel_rfl) rfl
  go_enter L.f153, Body.n153_ntmps ρ
  go_wp2_with (go_at_fn (ρ.f 226); refine (Any.strings_shouldUseASCIISet { L with } _ _).mono ?_; rintro e w' ⟨rfl, hw⟩; rw [hw, h8z])
  go_loopg [9, 10] s.size (fun g _ _ wx => ∃ i : Nat, i + g = s.size ∧ wx.heap[w.heap.size]? = some (.stringIter s i) ∧ Below w.heap.size w wx ∧ Lib.NoAny s.data.toList chars.data.toList i)
  case atStart => exact ⟨0, by omega, World.iter_heap _ _ _, (Below.refl _ w).alloc (Nat.le_refl _) _, Lib.NoAny.zero _ _⟩
  case round =>
    obtain ⟨i, hig, hk, hbel, hno⟩ := hrel
    have HN : Aside (Lib.NoAny s.data.toList chars.data.toList i) := hno
    have HB : Aside (Below w.heap.size w wr) := hbel
    have HK : Aside (wr.heap[w.heap.size]? = some (.stringIter s i)) := hk
    cases gk with
    | zero =>
      obtain rfl : i = s.size := by omega
      have hnx := fun ty => Lib.run_next_end_at (P := P) wr w.heap.size s s.size ty hk (by omega)
      clear hno hbel hk
      go_wp2
      go_ret
      exact ⟨by rw [Lib.indexAny_none (by rw [← Lib.size_eq]; exact HN.out)]; rfl, HB.out⟩
    | succ g =>
      have hi : i < s.size := by omega
      obtain ⟨x, hx⟩ : ∃ x : UInt8, s[i]'hi = x := ⟨_, rfl⟩
      have hxl : s.data.toList[i]? = some x := by rw [← hx]; exact Lib.data_getElem? s i hi
      have Hx : Aside (s.data.toList[i]? = some x) := hxl
      have hwd : ∀ pos', (wr.iterAt w.heap.size s pos').heap[w.heap.size]? = some (.stringIter s pos') := fun pos' => Lib.iterAt_heap _ _ _ _ _ hk
      have HW : Aside (∀ pos', (wr.iterAt w.heap.size s pos').heap[w.heap.size]? = some (.stringIter s pos')) := hwd
      have HL : Aside (w.heap.size < wr.heap.size) := (Array.getElem?_eq_some_iff.1 hk).1
      by_cases hx128 : x.toNat < 128
      · have hnx := fun ty => Lib.run_next_ascii_at (P := P) wr w.heap.size s i ty hk hi (by rw [hx]; exact hx128)
        rw [hx] at hnx
        clear hxl hx hno hbel hk hwd
        have hcon := Lib.contains_iff_indexByte chars.data.toList x
        have hback : ((x.toNat : Int)).toNat.toUInt8 = x := by simp
        cases hin : chars.data.toList.contains x
        · rw [hin] at hcon
          have hlt : ¬ ((0 : Int) ≤ Lib.indexByte chars.data.toList x) := of_decide_eq_false hcon.symm
          clear hcon
          go_wp2_with (go_at_fn (ρ.f 152); refine (Any.strings_IndexRune_ascii { L with } _ _ _ (by omega) (by omega)).mono ?_; rintro e w' ⟨rfl, hw⟩; rw [hw, hback])
          go_roundg g
          case measure => omega
          case rel => exact ⟨i + 1, by omega, HW.out _, Lib.below_iterAt HB.out (Nat.le_refl _) s _, HN.out.succ Hx.out hin⟩
        · rw [hin] at hcon
          have hge : (0 : Int) ≤ Lib.indexByte chars.data.toList x := of_decide_eq_true hcon.symm
          clear hcon
          go_wp2_with (go_at_fn (ρ.f 152); refine (Any.strings_IndexRune_ascii { L with } _ _ _ (by omega) (by omega)).mono ?_; rintro e w' ⟨rfl, hw⟩; rw [hw, hback])
          go_ret
          exact ⟨by rw [Lib.indexAny_hit HN.out Hx.out hin]; rfl, Lib.below_iterAt HB.out (Nat.le_refl _) s _⟩
      · have hnx := fun ty => Lib.run_next_any_at (P := P) wr w.heap.size s i ty hk hi
        obtain ⟨d1, d2⟩ := decode_high s i hi (by rw [hx]; omega)
        obtain ⟨k1, k2⟩ := decode_span s i hi (by rw [hx]; omega)
        have d3 := decode_valid s i
        generalize Utf8.decode s i = r at *
        obtain ⟨c, n⟩ := r
        simp only at *
        have hno2 : Lib.NoAny s.data.toList chars.data.toList (i + n) := fun j b hj hb => by
          by_cases hji : j < i
          · exact hno j b hji hb
          · have hb128 := k2 j (by omega) hj
            have hjs : j < s.size := by omega
            have hbe : s.get! j = b := by
              have := Lib.data_getElem? s j hjs
              rw [hb] at this
              show s.get! j = b
              rw [Option.some.inj this]
              have := get_at s j hjs
              simpa using this
            rw [hbe] at hb128
            cases hcc : chars.data.toList.contains b with
            | false => rfl
            | true =>
              rw [List.contains_iff_mem] at hcc
              have := HA.out b hcc
              omega
        have HN2 : Aside (Lib.NoAny s.data.toList chars.data.toList (i + n)) := hno2
        have HC : Aside (∀ w : World, Calls P (ρ.f 152) #[.string chars, .int .i32 (c : Int)] w fun e w' => e = .returned (.int .i64 (-1)) ∧ Below w.heap.size w w') := fun w => any_IndexRune_beyond { L with } chars c w (by omega) d3 hsz HA.out
        clear hxl hx hno hbel hk hwd hno2 k2 d3
        go_wp2_with (go_at_fn (ρ.f 152); refine (HC.out _).mono ?_; rintro e w' ⟨rfl, hw⟩; have HB2 : Aside (Below _ _ _) := hw; clear hw)
        go_roundg (g + 1 - n)
        case measure => omega
        case rel =>
          refine ⟨i + n, by omega, ?_, (Lib.below_iterAt HB.out (Nat.le_refl _) s _).trans (HB2.out.mono (by rw [Lib.iterAt_size]; exact Nat.le_of_lt HL.out)), HN2.out⟩
          rw [HB2.out.block _ (by rw [Lib.iterAt_size]; exact HL.out)]
          exact HW.out _

set_option maxHeartbeats 1000000 in
theorem any_ContainsAny (L : Lays.n150 P ρ) (h116 : (P.info? (ρ.t 116)).map (fun i => (i.zero, i.size)) = some (some (.agg (Array.replicate 256 (.bool false))), 256)) (s chars : ByteArray) (w : World) (hs : s.size < 4294967281) (h2 : 2 ≤ chars.size) (hcs : chars.size < 1000) (hac : ∀ b ∈ chars.data.toList, b.toNat < 128) :
    Calls P (ρ.f 150) #[.string s, .string chars] w fun e w' => e = .returned (.bool (Lib.containsAny s.data.toList chars.data.toList)) ∧ Below w.heap.size w w' := by
  have c : Calls P (ρ.f 153) #[.string s, .string chars] w fun e w' => e = .returned (.int .i64 (Lib.indexAny s.data.toList chars.data.toList)) ∧ Below w.heap.size w w' := by
    by_cases h8 : s.size ≤ 8
    · exact any_IndexAny_short { L with } s chars w h2 h8 hcs hac
    · refine (Any.strings_IndexAny_long { L with } (zero_of_info h116).1 (zero_of_info h116).2 s chars w h2 (by omega) hs (by omega) (fun j b hb => hac b (List.mem_of_getElem? hb))).mono fun e w' ⟨h1, h2⟩ => ⟨h1, ?_⟩
      rw [h2]
      exact ((Below.refl _ _).alloc (Nat.le_refl _) _).alloc (by simp) _
  have t3 := L.t3; have a3 := L.a3; have z3 := L.z3; have v3 := L.v3
  have t4 := L.t4; have a4 := L.a4; have z4 := L.z4; have v4 := L.v4
  have t9 := L.t9; have a9 := L.a9; have z9 := L.z9; have v9 := L.v9
  have e153 : ∀ args w, (callFunc (ρ.f 153) args).run P w = .ok (.enter (ρ.f 153) args) w := enters_of L.f153 (by kernel_rfl) rfl
  go_enter L.f150, Body.n150_ntmps ρ
  go_wp2_with (go_at_fn (ρ.f 153); refine c.mono ?_; rintro e w' ⟨rfl, hw⟩)
  go_ret
  exact ⟨rfl, hw⟩

open Go.PW Go.KP
variable [GH]
theorem c_ContainsAnyU (t wo : Tx) (ht : t.length < 4294967281) (h2 : 2 ≤ wo.length) (hw : wo.length < 1000) (ha : ∀ b ∈ wo, b.toNat < 128) : CallOK Tryz.prog 46 [.val (tx t), .val (tx wo)] (.ret (.val (.bool (lhasAny t wo))) []) [] := by
  refine callOK_one (rs := [tx t, tx wo]) (vals := [.string (bs t), .string (bs wo)]) (v := .bool (lhasAny t wo)) rfl rfl fun L w hgl hgb => ?_
  refine (any_ContainsAny Tryz.lays150 (by kernel_rfl) (bs t) (bs wo) w (by rw [bs_size]; exact ht) (by rw [bs_size]; exact h2) (by rw [bs_size]; exact hw) (fun b hb => by rw [bs_list] at hb; exact ha b hb)).mono fun e w' ⟨he, hw⟩ => ?_
  rw [bs_list, bs_list, containsAny_eq] at he
  exact ⟨he, hw⟩
end Go.Proofs
end

/- What slices.* come to at some element types. MADE BY PROGRAM (gen_slices.py). -/
section
set_option maxRecDepth 100000
set_option linter.unusedVariables false
set_option linter.unusedSectionVars false
set_option linter.unusedSimpArgs false
namespace Go.Proofs
open Go.PW Go.KP
attribute [local simp] RV.cells RV.one PV.cells PV.solid PV.one vals? allVal mkAgg setAt RV.ofCells elems PV.killL
variable [GF]

end Go.Proofs
end

/- What the program's look at names, rules and policies comes to. -/
section
set_option maxRecDepth 100000
set_option linter.unusedVariables false
set_option linter.unusedSectionVars false
set_option linter.unusedSimpArgs false
namespace Go.Proofs
open Go.PW Go.KP
attribute [local simp] RV.cells RV.one PV.cells PV.solid PV.one vals? allVal mkAgg setAt RV.ofCells elems PV.killL
variable [GH]

structure MS (st : St) (rt : Tx) (acc : List Tx) (rules : List LRule) : Prop where
  e1 : st.env 1 = .ptr 1 0
  e2 : st.env 2 = .ptr 2 0
  m2 : st.mem 2 = .box [.val (tx []), .emp 1, .emp 2]
  m1 : st.mem 1 = .box [.val (tx rt), ownOr 1 55 acc, .val (.list 2 (rules.map rvRule))]
  m55 : acc ≠ [] → st.mem 55 = .row 9 1 (acc.map tx)

end Go.Proofs
end
