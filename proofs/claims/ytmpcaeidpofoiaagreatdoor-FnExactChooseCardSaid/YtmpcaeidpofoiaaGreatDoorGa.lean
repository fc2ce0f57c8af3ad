/- Ga: merged out of KPh, IRc, KSh, KIk, KVb, KWb. -/
import Derived.Test.YtmpcaeidpofoiaaGreatDoorAc
import Derived.Test.YtmpcaeidpofoiaaGreatDoorPWv
import Derived.Test.YtmpcaeidpofoiaaGreatDoorChecked
import Derived.KernelRfl
import Derived.Test.YtmpcaeidpofoiaaGreatDoorCa
import Derived.Test.YtmpcaeidpofoiaaGreatDoorEb
import Derived.Test.YtmpcaeidpofoiaaGreatDoorFb
import Derived.Test.YtmpcaeidpofoiaaGreatDoorTie
import Derived.Test.YtmpcaeidpofoiaaGreatDoorCards
import Derived.SevenTiedAt

/- Plain words: the choosing of a peer. -/
section
set_option linter.unusedVariables false
set_option linter.unusedSimpArgs false
namespace Go.KP
def lready (now : Int) (x : LPeer) : Bool := !x.gone && decide (x.retry ≤ now)
/-- The least priority of the ready ones and the sum of their weights. -/
def chStep (now : Int) (a : Int × Int) (x : LPeer) : Int × Int :=
  if !lready now x || (decide (a.2 > 0) && decide (x.target.prio > a.1)) then a
  else if a.2 = 0 ∨ x.target.prio < a.1 then (x.target.prio, x.target.weight) else (a.1, a.2 + x.target.weight)
def chAcc (now : Int) (l : List LPeer) : Int × Int := l.foldl (chStep now) (0, 0)
theorem chAcc_snoc (now : Int) (l : List LPeer) (x : LPeer) : chAcc now (l ++ [x]) = chStep now (chAcc now l) x := by simp [chAcc]
def chMatch (now b : Int) (x : LPeer) : Bool := lready now x && decide (x.target.prio = b)
def chSum (now b : Int) : List LPeer → Int
  | [] => 0
  | x :: l => (if chMatch now b x then x.target.weight else 0) + chSum now b l
def chPick (now b : Int) : List LPeer → Int → Int → Int
  | [], _, _ => -1
  | x :: l, left, i => if chMatch now b x then if left < x.target.weight then i else chPick now b l (left - x.target.weight) (i + 1) else chPick now b l left (i + 1)
def lchoose (l : List LPeer) (now draw : Int) : Int :=
  if (chAcc now l).2 = 0 then -1 else chPick now (chAcc now l).1 l (draw.tmod (chAcc now l).2) 0
def lChoose (l : List LPeer) (now draw : Int) : Int × Int :=
  if 4096 < l.length then (0, 2) else if lpeersOK l then if (0 ≤ now ∧ now ≤ 1000000) ∧ (0 ≤ draw ∧ draw ≤ 1000000) then
    if lchoose l now draw < 0 then (0, 5) else (lchoose l now draw, 0) else (0, 4) else (0, 1)

theorem chSum_snoc (now b : Int) : ∀ (l : List LPeer) (x : LPeer), chSum now b (l ++ [x]) = chSum now b l + (if chMatch now b x then x.target.weight else 0)
  | [], x => by simp [chSum]
  | y :: l, x => by
    simp only [List.cons_append, chSum, chSum_snoc now b l x]
    omega
theorem chSum_nonneg (now b : Int) : ∀ (l : List LPeer), (∀ x ∈ l, 1 ≤ x.target.weight) → 0 ≤ chSum now b l
  | [], _ => by simp [chSum]
  | y :: l, h => by
    have := chSum_nonneg now b l (fun x hx => h x (List.mem_cons_of_mem _ hx))
    have h1 := h y (by simp)
    simp only [chSum]
    split <;> omega
theorem chSum_low (now b : Int) : ∀ (l : List LPeer), (∀ x ∈ l, lready now x = true → b < x.target.prio) → chSum now b l = 0
  | [], _ => rfl
  | y :: l, h => by
    have := chSum_low now b l (fun x hx => h x (List.mem_cons_of_mem _ hx))
    simp only [chSum, this]
    have hm : chMatch now b y = false := by
      unfold chMatch
      cases hr : lready now y with
      | false => rfl
      | true =>
        have := h y (by simp) hr
        rw [decide_eq_false (by omega)]; rfl
    rw [hm]; rfl

/-- Targets as good ones are. -/
def chGood (l : List LPeer) : Prop := ∀ x ∈ l, (1 ≤ x.target.prio ∧ x.target.prio ≤ 9) ∧ (1 ≤ x.target.weight ∧ x.target.weight ≤ 9)
theorem chGood_of {l : List LPeer} (h : lpeersOK l = true) : l.length ≤ 4 ∧ chGood l := by
  unfold lpeersOK at h
  simp only [Bool.and_eq_true, decide_eq_true_eq, List.all_eq_true] at h
  refine ⟨h.1.1, fun x hx => ?_⟩
  have h2 := h.1.2 x hx
  unfold lpeerOK at h2
  simp only [Bool.and_eq_true, decide_eq_true_eq] at h2
  have h3 := h2.1.1.1
  rw [← itargetOK_eq] at h3
  simp only [Bool.and_eq_true, decide_eq_true_eq] at h3
  exact ⟨h3.1.2, h3.2⟩

structure ChInv (now : Int) (l : List LPeer) (a : Int × Int) : Prop where
  lo : 0 ≤ a.2
  hi : a.2 ≤ 9 * l.length
  sum : a.2 = if a.2 = 0 then 0 else chSum now a.1 l
  low : ∀ x ∈ l, lready now x = true → a.1 ≤ x.target.prio ∧ 0 < a.2
  nine : a.2 ≠ 0 → 1 ≤ a.1 ∧ a.1 ≤ 9

theorem chInv_nil (now : Int) : ChInv now [] (chAcc now []) := by
  refine ⟨?_, ?_, ?_, ?_, ?_⟩ <;> simp [chAcc]
theorem chInv_snoc {now : Int} {l : List LPeer} {x : LPeer} {a : Int × Int} (h : ChInv now l a) (hx : (1 ≤ x.target.prio ∧ x.target.prio ≤ 9) ∧ (1 ≤ x.target.weight ∧ x.target.weight ≤ 9)) : ChInv now (l ++ [x]) (chStep now a x) := by
  obtain ⟨h1, h2, h3, h4, h5⟩ := h
  have hlen : ((l ++ [x]).length : Int) = l.length + 1 := by simp
  have hmem : ∀ {p : LPeer → Prop}, (∀ y ∈ l, p y) → p x → ∀ y ∈ l ++ [x], p y := by
    intro p q1 q2 y hy
    rcases List.mem_append.1 hy with hy | hy
    · exact q1 y hy
    · rw [List.mem_singleton.1 hy]; exact q2
  unfold chStep
  cases hr : lready now x with
  | false =>
    simp only [Bool.not_false, Bool.true_or, if_true]
    refine ⟨h1, by omega, ?_, hmem h4 (fun h => by rw [hr] at h; cases h), h5⟩
    rw [chSum_snoc]
    have : chMatch now a.1 x = false := by simp [chMatch, hr]
    rw [this]
    simpa using h3
  | true =>
    simp only [Bool.not_true, Bool.false_or]
    by_cases hs : a.2 = 0
    · rw [if_neg (by simp [hs]), if_pos (.inl hs)]
      have hl : ∀ y ∈ l, lready now y = false := by
        intro y hy
        cases hry : lready now y with
        | false => rfl
        | true => have := (h4 y hy hry).2; omega
      refine ⟨by show 0 ≤ x.target.weight; omega, by show x.target.weight ≤ _; omega, ?_, ?_, fun _ => hx.1⟩
      · show x.target.weight = if x.target.weight = 0 then 0 else chSum now x.target.prio (l ++ [x])
        rw [if_neg (by omega), chSum_snoc, chSum_low now _ l (fun y hy hry => by rw [hl y hy] at hry; cases hry)]
        have : chMatch now x.target.prio x = true := by simp [chMatch, hr]
        rw [this]; simp
      · exact hmem (p := fun y => lready now y = true → x.target.prio ≤ y.target.prio ∧ 0 < x.target.weight) (fun y hy hry => by rw [hl y hy] at hry; cases hry) (fun _ => ⟨by omega, by omega⟩)
    · have hpos : 0 < a.2 := by omega
      have hns := h5 hs
      rw [if_neg hs] at h3
      by_cases hgt : x.target.prio > a.1
      · rw [if_pos (by simp [hpos, hgt])]
        refine ⟨h1, by omega, ?_, hmem h4 (fun _ => ⟨by omega, hpos⟩), h5⟩
        rw [if_neg hs, chSum_snoc]
        have : chMatch now a.1 x = false := by
          unfold chMatch
          rw [decide_eq_false (by omega), Bool.and_false]
        rw [this]
        simpa using h3
      · rw [if_neg (by simp [hpos]; omega)]
        by_cases hlt : x.target.prio < a.1
        · rw [if_pos (.inr hlt)]
          refine ⟨by show 0 ≤ x.target.weight; omega, by show x.target.weight ≤ _; omega, ?_, ?_, fun _ => hx.1⟩
          · show x.target.weight = if x.target.weight = 0 then 0 else chSum now x.target.prio (l ++ [x])
            rw [if_neg (by omega), chSum_snoc, chSum_low now _ l (fun y hy hry => by have := (h4 y hy hry).1; omega)]
            have : chMatch now x.target.prio x = true := by simp [chMatch, hr]
            rw [this]; simp
          · exact hmem (p := fun y => lready now y = true → x.target.prio ≤ y.target.prio ∧ 0 < x.target.weight) (fun y hy hry => by have := (h4 y hy hry).1; exact ⟨by omega, by omega⟩) (fun _ => ⟨by omega, by omega⟩)
        · rw [if_neg (by rintro (h | h) <;> omega)]
          have he : x.target.prio = a.1 := by omega
          refine ⟨by show 0 ≤ a.2 + x.target.weight; omega, by show a.2 + x.target.weight ≤ _; omega, ?_, ?_, fun _ => hns⟩
          · show a.2 + x.target.weight = if a.2 + x.target.weight = 0 then 0 else chSum now a.1 (l ++ [x])
            rw [if_neg (by omega), chSum_snoc]
            have : chMatch now a.1 x = true := by simp [chMatch, hr, he]
            rw [this]; simp; exact h3
          · exact hmem (p := fun y => lready now y = true → a.1 ≤ y.target.prio ∧ 0 < a.2 + x.target.weight) (fun y hy hry => by have := h4 y hy hry; exact ⟨this.1, by omega⟩) (fun _ => ⟨by omega, by omega⟩)
theorem chInv_take {now : Int} {l : List LPeer} (h : chGood l) : ∀ i, i ≤ l.length → ChInv now (l.take i) (chAcc now (l.take i))
  | 0, _ => by simpa using chInv_nil now
  | i + 1, hi => by
    have h1 : i < l.length := hi
    rw [List.take_add_one, List.getElem?_eq_getElem h1, Option.toList_some, chAcc_snoc]
    exact chInv_snoc (chInv_take h i (by omega)) (h _ (List.getElem_mem h1))
theorem chInv_all {now : Int} {l : List LPeer} (h : chGood l) : ChInv now l (chAcc now l) := by
  have := chInv_take (now := now) h l.length (Nat.le_refl _)
  rwa [List.take_length] at this
/-- What the program's step does, in the same words. -/
def chI (a : Int × Int) : Int := if a.2 = 0 then 10 else a.1
theorem chPick_drop (now b : Int) {l : List LPeer} {i : Nat} (hi : i < l.length) (left : Int) : chPick now b (l.drop i) left i = if chMatch now b l[i] then if left < l[i].target.weight then (i : Int) else chPick now b (l.drop (i + 1)) (left - l[i].target.weight) ((i + 1 : Nat) : Int) else chPick now b (l.drop (i + 1)) left ((i + 1 : Nat) : Int) := by
  rw [List.drop_eq_getElem_cons hi]
  rfl
theorem chSum_drop (now b : Int) {l : List LPeer} {i : Nat} (hi : i < l.length) : chSum now b (l.drop i) = (if chMatch now b l[i] then l[i].target.weight else 0) + chSum now b (l.drop (i + 1)) := by
  rw [List.drop_eq_getElem_cons hi]
  rfl
theorem tmod_range {a b : Int} (ha : 0 ≤ a) (hb : 0 < b) : 0 ≤ a.tmod b ∧ a.tmod b < b := by
  rw [Int.tmod_eq_emod_of_nonneg ha]
  exact ⟨Int.emod_nonneg _ (by omega), Int.emod_lt_of_pos _ hb⟩
end Go.KP
end

/- Functions of the seat as data. MADE BY PROGRAM (print_ir.py). -/
section
set_option maxRecDepth 100000
namespace Go.Proofs
open Go.PW

/-- loop.example/g00779/spec.l07Ready -/
def ir72 : PC :=
 .seq (
 .reg [
   ⟨some 2, .box (.t 0), none⟩,
   ⟨some 4, .mov (.k (.val (.bool false))), none⟩]) (
 .seq (
 .reg [
   ⟨some 5, .faddr 5 (.t 2), none⟩,
   ⟨some 6, .load false 1 (.t 5), none⟩,
   ⟨some 7, .un .not (.t 6), none⟩,
   ⟨some 8, .mov (.t 7), none⟩,
   ⟨some 9, .faddr 4 (.t 2), some (8, true)⟩,
   ⟨some 10, .load false 1 (.t 9), some (8, true)⟩,
   ⟨some 11, .mov (.t 1), some (8, true)⟩,
   ⟨some 12, .bin .leq (.t 10) (.t 11), some (8, true)⟩,
   ⟨some 13, .pick (.t 8) (.t 12) (.k (.val (.bool false))), none⟩,
   ⟨some 4, .mov (.t 13), none⟩]) (
 .ret))
theorem ok72 : chkFn Tryz.prog 72 ir72 2 [.t 4] = true := by kernel_rfl

def ir44_l13 : PC :=
 .seq (
 .seq (
 .reg [
   ⟨some 13, .mov (.t 9), none⟩,
   ⟨some 14, .mov (.t 0), none⟩,
   ⟨some 15, .len (.t 14), none⟩,
   ⟨some 16, .bin .lss (.t 13) (.t 15), none⟩]) (
 .cond (.t 16) (
  .skip) (
  .exit 0))) (
 .seq (
 .block 1 (
  .seq (
  .reg [
    ⟨some 19, .mov (.t 0), none⟩,
    ⟨some 20, .mov (.t 9), none⟩,
    ⟨some 21, .iaddr 6 (.t 19) (.t 20), none⟩,
    ⟨some 22, .faddr 0 (.t 21), none⟩,
    ⟨some 23, .faddr 1 (.t 22), none⟩,
    ⟨some 24, .load false 1 (.t 23), none⟩,
    ⟨some 10, .mov (.t 24), none⟩]) (
  .seq (
  .seq (
  .reg [
    ⟨some 25, .mov (.t 0), none⟩,
    ⟨some 26, .mov (.t 9), none⟩,
    ⟨some 27, .iaddr 6 (.t 25) (.t 26), none⟩,
    ⟨some 28, .load true 6 (.t 27), none⟩,
    ⟨some 29, .mov (.t 1), none⟩,
    ⟨some 30, .call 72 [.t 28, .t 29], none⟩,
    ⟨some 31, .un .not (.t 30), none⟩,
    ⟨some 32, .mov (.t 31), none⟩,
    ⟨some 33, .mov (.t 8), some (32, false)⟩,
    ⟨some 34, .bin .gtr (.t 33) (.k (.val (.int .i64 0))), some (32, false)⟩,
    ⟨some 35, .mov (.t 34), some (32, false)⟩,
    ⟨some 36, .mov (.t 10), some (35, true)⟩,
    ⟨some 37, .mov (.t 7), some (35, true)⟩,
    ⟨some 38, .bin .gtr (.t 36) (.t 37), some (35, true)⟩,
    ⟨some 39, .pick (.t 35) (.t 38) (.k (.val (.bool false))), some (32, false)⟩,
    ⟨some 40, .pick (.t 32) (.k (.val (.bool true))) (.t 39), none⟩]) (
  .cond (.t 40) (
   .exit 1) (
   .skip))) (
  .seq (
  .seq (
  .reg [
    ⟨some 41, .mov (.t 8), none⟩,
    ⟨some 42, .bin .eql (.t 41) (.k (.val (.int .i64 0))), none⟩,
    ⟨some 43, .mov (.t 42), none⟩,
    ⟨some 44, .mov (.t 10), some (43, false)⟩,
    ⟨some 45, .mov (.t 7), some (43, false)⟩,
    ⟨some 46, .bin .lss (.t 44) (.t 45), some (43, false)⟩,
    ⟨some 47, .pick (.t 43) (.k (.val (.bool true))) (.t 46), none⟩]) (
  .cond (.t 47) (
   .seq (
   .reg [
     ⟨some 48, .mov (.t 10), none⟩,
     ⟨some 7, .mov (.t 48), none⟩]) (
   .reg [
     ⟨some 8, .mov (.k (.val (.int .i64 0))), none⟩])) (
   .skip))) (
  .reg [
    ⟨some 49, .mov (.t 8), none⟩,
    ⟨some 50, .mov (.t 0), none⟩,
    ⟨some 51, .mov (.t 9), none⟩,
    ⟨some 52, .iaddr 6 (.t 50) (.t 51), none⟩,
    ⟨some 53, .faddr 0 (.t 52), none⟩,
    ⟨some 54, .faddr 2 (.t 53), none⟩,
    ⟨some 55, .load false 1 (.t 54), none⟩,
    ⟨some 56, .bin .add (.t 49) (.t 55), none⟩,
    ⟨some 8, .mov (.t 56), none⟩]))))) (
 .reg [
   ⟨some 17, .mov (.t 9), none⟩,
   ⟨some 18, .bin .add (.t 17) (.k (.val (.int .i64 1))), none⟩,
   ⟨some 9, .mov (.t 18), none⟩]))
def ir44_l64 : PC :=
 .seq (
 .block 3 (
  .seq (
  .seq (
  .reg [
    ⟨some 64, .mov (.t 0), none⟩,
    ⟨some 65, .mov (.t 12), none⟩,
    ⟨some 66, .iaddr 6 (.t 64) (.t 65), none⟩,
    ⟨some 67, .load true 6 (.t 66), none⟩,
    ⟨some 68, .mov (.t 1), none⟩,
    ⟨some 69, .call 72 [.t 67, .t 68], none⟩,
    ⟨some 70, .un .not (.t 69), none⟩,
    ⟨some 71, .mov (.t 70), none⟩,
    ⟨some 72, .mov (.t 0), some (71, false)⟩,
    ⟨some 73, .mov (.t 12), some (71, false)⟩,
    ⟨some 74, .iaddr 6 (.t 72) (.t 73), some (71, false)⟩,
    ⟨some 75, .faddr 0 (.t 74), some (71, false)⟩,
    ⟨some 76, .faddr 1 (.t 75), some (71, false)⟩,
    ⟨some 77, .load false 1 (.t 76), some (71, false)⟩,
    ⟨some 78, .mov (.t 7), some (71, false)⟩,
    ⟨some 79, .bin .neq (.t 77) (.t 78), some (71, false)⟩,
    ⟨some 80, .pick (.t 71) (.k (.val (.bool true))) (.t 79), none⟩]) (
  .cond (.t 80) (
   .exit 3) (
   .skip))) (
  .seq (
  .seq (
  .reg [
    ⟨some 81, .mov (.t 11), none⟩,
    ⟨some 82, .mov (.t 0), none⟩,
    ⟨some 83, .mov (.t 12), none⟩,
    ⟨some 84, .iaddr 6 (.t 82) (.t 83), none⟩,
    ⟨some 85, .faddr 0 (.t 84), none⟩,
    ⟨some 86, .faddr 2 (.t 85), none⟩,
    ⟨some 87, .load false 1 (.t 86), none⟩,
    ⟨some 88, .bin .lss (.t 81) (.t 87), none⟩]) (
  .cond (.t 88) (
   .seq (
   .reg [
     ⟨some 89, .mov (.t 12), none⟩,
     ⟨some 6, .mov (.t 89), none⟩]) (
   .ret)) (
   .skip))) (
  .reg [
    ⟨some 90, .mov (.t 11), none⟩,
    ⟨some 91, .mov (.t 0), none⟩,
    ⟨some 92, .mov (.t 12), none⟩,
    ⟨some 93, .iaddr 6 (.t 91) (.t 92), none⟩,
    ⟨some 94, .faddr 0 (.t 93), none⟩,
    ⟨some 95, .faddr 2 (.t 94), none⟩,
    ⟨some 96, .load false 1 (.t 95), none⟩,
    ⟨some 97, .bin .sub (.t 90) (.t 96), none⟩,
    ⟨some 11, .mov (.t 97), none⟩])))) (
 .reg [
   ⟨some 62, .mov (.t 12), none⟩,
   ⟨some 63, .bin .add (.t 62) (.k (.val (.int .i64 1))), none⟩,
   ⟨some 12, .mov (.t 63), none⟩])
/-- loop.example/g00779/spec.l07Choose -/
def ir44 : PC :=
 .seq (
 .reg [
   ⟨some 6, .mov (.k (.val (.int .i64 0))), none⟩]) (
 .seq (
 .reg [
   ⟨some 7, .mov (.k (.val (.int .i64 0))), none⟩]) (
 .seq (
 .reg [
   ⟨some 8, .mov (.k (.val (.int .i64 0))), none⟩]) (
 .seq (
 .seq (
 .reg [
   ⟨some 9, .mov (.k (.val (.int .i64 0))), none⟩]) (
 .block 0 (
  .loop (.ghost ir44_l13)))) (
 .seq (
 .seq (
 .reg [
   ⟨some 57, .mov (.t 8), none⟩,
   ⟨some 58, .bin .eql (.t 57) (.k (.val (.int .i64 0))), none⟩]) (
 .cond (.t 58) (
  .seq (
  .reg [
    ⟨some 6, .mov (.k (.val (.int .i64 (-1)))), none⟩]) (
  .ret)) (
  .skip))) (
 .seq (
 .reg [
   ⟨some 59, .mov (.t 2), none⟩,
   ⟨some 60, .mov (.t 8), none⟩,
   ⟨some 61, .bin .rem (.t 59) (.t 60), none⟩,
   ⟨some 11, .mov (.t 61), none⟩]) (
 .seq (
 .reg [
   ⟨some 12, .mov (.k (.val (.int .i64 0))), none⟩]) (
 .block 2 (
  .loop (.ghost ir44_l64)))))))))
theorem ok44 : chkFn Tryz.prog 44 ir44 3 [.t 6] = true := by kernel_rfl

/-- loop.example/g00779/spec.Choose -/
def ir18 : PC :=
 .seq (
 .reg [
   ⟨some 6, .mov (.k (.val (.int .i64 0))), none⟩,
   ⟨some 7, .mov (.k (.val (.int .i64 0))), none⟩]) (
 .seq (
 .seq (
 .reg [
   ⟨some 9, .mov (.t 0), none⟩,
   ⟨some 10, .len (.t 9), none⟩,
   ⟨some 11, .bin .gtr (.t 10) (.k (.val (.int .i64 4096))), none⟩]) (
 .cond (.t 11) (
  .seq (
  .reg [
    ⟨some 6, .mov (.k (.val (.int .i64 0))), none⟩,
    ⟨some 7, .mov (.k (.val (.int .i64 2))), none⟩]) (
  .ret)) (
  .skip))) (
 .seq (
 .seq (
 .reg [
   ⟨some 12, .mov (.t 0), none⟩,
   ⟨some 13, .call 29 [.t 12], none⟩,
   ⟨some 14, .un .not (.t 13), none⟩]) (
 .cond (.t 14) (
  .seq (
  .reg [
    ⟨some 6, .mov (.k (.val (.int .i64 0))), none⟩,
    ⟨some 7, .mov (.k (.val (.int .i64 1))), none⟩]) (
  .ret)) (
  .skip))) (
 .seq (
 .seq (
 .reg [
   ⟨some 15, .mov (.t 1), none⟩,
   ⟨some 16, .call 30 [.t 15, .k (.val (.int .i64 0)), .k (.val (.int .i64 1000000))], none⟩,
   ⟨some 17, .un .not (.t 16), none⟩,
   ⟨some 18, .mov (.t 17), none⟩,
   ⟨some 19, .mov (.t 2), some (18, false)⟩,
   ⟨some 20, .call 30 [.t 19, .k (.val (.int .i64 0)), .k (.val (.int .i64 1000000))], some (18, false)⟩,
   ⟨some 21, .un .not (.t 20), some (18, false)⟩,
   ⟨some 22, .pick (.t 18) (.k (.val (.bool true))) (.t 21), none⟩]) (
 .cond (.t 22) (
  .seq (
  .reg [
    ⟨some 6, .mov (.k (.val (.int .i64 0))), none⟩,
    ⟨some 7, .mov (.k (.val (.int .i64 4))), none⟩]) (
  .ret)) (
  .skip))) (
 .seq (
 .reg [
   ⟨some 23, .mov (.t 0), none⟩,
   ⟨some 24, .mov (.t 1), none⟩,
   ⟨some 25, .mov (.t 2), none⟩,
   ⟨some 26, .call 44 [.t 23, .t 24, .t 25], none⟩,
   ⟨some 8, .mov (.t 26), none⟩]) (
 .seq (
 .seq (
 .reg [
   ⟨some 27, .mov (.t 8), none⟩,
   ⟨some 28, .bin .lss (.t 27) (.k (.val (.int .i64 0))), none⟩]) (
 .cond (.t 28) (
  .seq (
  .reg [
    ⟨some 6, .mov (.k (.val (.int .i64 0))), none⟩,
    ⟨some 7, .mov (.k (.val (.int .i64 5))), none⟩]) (
  .ret)) (
  .skip))) (
 .seq (
 .reg [
   ⟨some 29, .mov (.t 8), none⟩,
   ⟨some 6, .mov (.t 29), none⟩,
   ⟨some 7, .mov (.k (.val (.int .i64 0))), none⟩]) (
 .ret)))))))
theorem ok18 : chkFn Tryz.prog 18 ir18 3 [.t 6, .t 7] = true := by kernel_rfl

def ir45_l16 : PC :=
 .seq (
 .reg [
   ⟨some 16, .bin .lss (.t 15) (.t 14), none⟩]) (
 .seq (
 .cond (.t 16) (
  .skip) (
  .exit 0)) (
 .seq (
 .block 1 (
  .seq (
  .reg [
    ⟨some 17, .iaddr 6 (.t 13) (.t 15), none⟩,
    ⟨some 18, .load true 6 (.t 17), none⟩,
    ⟨some 10, .alloc [.val (.str ⟨#[]⟩), .val (.int .i64 0), .val (.int .i64 0), .val (.int .i64 0), .val (.int .i64 0), .val (.bool false)], none⟩,
    ⟨none, .store 6 (.t 10) (.t 18), none⟩]) (
  .seq (
  .seq (
  .reg [
    ⟨some 19, .faddr 5 (.t 10), none⟩,
    ⟨some 20, .load false 1 (.t 19), none⟩,
    ⟨some 21, .mov (.t 20), none⟩,
    ⟨some 22, .faddr 4 (.t 10), some (21, false)⟩,
    ⟨some 23, .load false 1 (.t 22), some (21, false)⟩,
    ⟨some 24, .mov (.t 1), some (21, false)⟩,
    ⟨some 25, .bin .gtr (.t 23) (.t 24), some (21, false)⟩,
    ⟨some 26, .pick (.t 21) (.k (.val (.bool true))) (.t 25), none⟩]) (
  .cond (.t 26) (
   .exit 1) (
   .skip))) (
  .seq (
  .seq (
  .reg [
    ⟨some 27, .faddr 0 (.t 10), none⟩,
    ⟨some 28, .faddr 1 (.t 27), none⟩,
    ⟨some 29, .load false 1 (.t 28), none⟩,
    ⟨some 30, .mov (.t 7), none⟩,
    ⟨some 31, .bin .lss (.t 29) (.t 30), none⟩]) (
  .cond (.t 31) (
   .reg [
     ⟨some 32, .faddr 0 (.t 10), none⟩,
     ⟨some 33, .faddr 1 (.t 32), none⟩,
     ⟨some 34, .load false 1 (.t 33), none⟩,
     ⟨some 7, .mov (.t 34), none⟩,
     ⟨some 8, .mov (.k (.val (.int .i64 0))), none⟩]) (
   .skip))) (
  .seq (
  .reg [
    ⟨some 35, .faddr 0 (.t 10), none⟩,
    ⟨some 36, .faddr 1 (.t 35), none⟩,
    ⟨some 37, .load false 1 (.t 36), none⟩,
    ⟨some 38, .mov (.t 7), none⟩,
    ⟨some 39, .bin .eql (.t 37) (.t 38), none⟩]) (
  .cond (.t 39) (
   .reg [
     ⟨some 40, .mov (.t 8), none⟩,
     ⟨some 41, .faddr 0 (.t 10), none⟩,
     ⟨some 42, .faddr 2 (.t 41), none⟩,
     ⟨some 43, .load false 1 (.t 42), none⟩,
     ⟨some 44, .bin .add (.t 40) (.t 43), none⟩,
     ⟨some 8, .mov (.t 44), none⟩]) (
   .skip))))))) (
 .reg [
   ⟨some 45, .bin .add (.t 15) (.k (.val (.int .i64 1))), none⟩,
   ⟨some 15, .mov (.t 45), none⟩])))
def ir45_l54 : PC :=
 .seq (
 .reg [
   ⟨some 54, .bin .lss (.t 53) (.t 52), none⟩]) (
 .seq (
 .cond (.t 54) (
  .skip) (
  .exit 2)) (
 .seq (
 .block 3 (
  .seq (
  .reg [
    ⟨some 55, .mov (.t 53), none⟩,
    ⟨some 56, .iaddr 6 (.t 51) (.t 53), none⟩,
    ⟨some 57, .load true 6 (.t 56), none⟩,
    ⟨some 12, .alloc [.val (.str ⟨#[]⟩), .val (.int .i64 0), .val (.int .i64 0), .val (.int .i64 0), .val (.int .i64 0), .val (.bool false)], none⟩,
    ⟨some 11, .mov (.t 55), none⟩,
    ⟨none, .store 6 (.t 12) (.t 57), none⟩]) (
  .seq (
  .seq (
  .reg [
    ⟨some 58, .faddr 5 (.t 12), none⟩,
    ⟨some 59, .load false 1 (.t 58), none⟩,
    ⟨some 60, .mov (.t 59), none⟩,
    ⟨some 61, .faddr 4 (.t 12), some (60, false)⟩,
    ⟨some 62, .load false 1 (.t 61), some (60, false)⟩,
    ⟨some 63, .mov (.t 1), some (60, false)⟩,
    ⟨some 64, .bin .gtr (.t 62) (.t 63), some (60, false)⟩,
    ⟨some 65, .pick (.t 60) (.k (.val (.bool true))) (.t 64), none⟩,
    ⟨some 66, .mov (.t 65), none⟩,
    ⟨some 67, .faddr 0 (.t 12), some (66, false)⟩,
    ⟨some 68, .faddr 1 (.t 67), some (66, false)⟩,
    ⟨some 69, .load false 1 (.t 68), some (66, false)⟩,
    ⟨some 70, .mov (.t 7), some (66, false)⟩,
    ⟨some 71, .bin .neq (.t 69) (.t 70), some (66, false)⟩,
    ⟨some 72, .pick (.t 66) (.k (.val (.bool true))) (.t 71), none⟩]) (
  .cond (.t 72) (
   .exit 3) (
   .skip))) (
  .seq (
  .seq (
  .reg [
    ⟨some 73, .mov (.t 2), none⟩,
    ⟨some 74, .faddr 0 (.t 12), none⟩,
    ⟨some 75, .faddr 2 (.t 74), none⟩,
    ⟨some 76, .load false 1 (.t 75), none⟩,
    ⟨some 77, .bin .lss (.t 73) (.t 76), none⟩]) (
  .cond (.t 77) (
   .seq (
   .reg [
     ⟨some 78, .mov (.t 11), none⟩,
     ⟨some 6, .mov (.t 78), none⟩]) (
   .ret)) (
   .skip))) (
  .reg [
    ⟨some 79, .mov (.t 2), none⟩,
    ⟨some 80, .faddr 0 (.t 12), none⟩,
    ⟨some 81, .faddr 2 (.t 80), none⟩,
    ⟨some 82, .load false 1 (.t 81), none⟩,
    ⟨some 83, .bin .sub (.t 79) (.t 82), none⟩,
    ⟨some 2, .mov (.t 83), none⟩]))))) (
 .reg [
   ⟨some 84, .bin .add (.t 53) (.k (.val (.int .i64 1))), none⟩,
   ⟨some 53, .mov (.t 84), none⟩])))
/-- loop.example/g00779/impl.choose -/
def ir45 : PC :=
 .seq (
 .reg [
   ⟨some 6, .mov (.k (.val (.int .i64 0))), none⟩]) (
 .seq (
 .reg [
   ⟨some 7, .mov (.k (.val (.int .i64 10))), none⟩,
   ⟨some 8, .mov (.k (.val (.int .i64 0))), none⟩]) (
 .seq (
 .seq (
 .reg [
   ⟨some 13, .mov (.t 0), none⟩,
   ⟨some 14, .len (.t 13), none⟩,
   ⟨some 15, .mov (.k (.val (.int .i64 0))), none⟩]) (
 .block 0 (
  .loop (.ghost ir45_l16)))) (
 .seq (
 .seq (
 .reg [
   ⟨some 46, .mov (.t 8), none⟩,
   ⟨some 47, .bin .eql (.t 46) (.k (.val (.int .i64 0))), none⟩]) (
 .cond (.t 47) (
  .seq (
  .reg [
    ⟨some 6, .mov (.k (.val (.int .i64 (-1)))), none⟩]) (
  .ret)) (
  .skip))) (
 .seq (
 .reg [
   ⟨some 48, .mov (.t 2), none⟩,
   ⟨some 49, .mov (.t 8), none⟩,
   ⟨some 50, .bin .rem (.t 48) (.t 49), none⟩,
   ⟨some 2, .mov (.t 50), none⟩]) (
 .seq (
 .seq (
 .reg [
   ⟨some 51, .mov (.t 0), none⟩,
   ⟨some 52, .len (.t 51), none⟩,
   ⟨some 53, .mov (.k (.val (.int .i64 0))), none⟩]) (
 .block 2 (
  .loop (.ghost ir45_l54)))) (
 .seq (
 .reg [
   ⟨some 6, .mov (.k (.val (.int .i64 (-1)))), none⟩]) (
 .ret)))))))
theorem ok45 : chkFn Tryz.prog 45 ir45 3 [.t 6] = true := by kernel_rfl

/-- loop.example/g00779/impl.Choose -/
def ir19 : PC :=
 .seq (
 .reg [
   ⟨some 6, .mov (.k (.val (.int .i64 0))), none⟩,
   ⟨some 7, .mov (.k (.val (.int .i64 0))), none⟩]) (
 .seq (
 .seq (
 .reg [
   ⟨some 10, .mov (.t 0), none⟩,
   ⟨some 11, .call 33 [.t 10], none⟩,
   ⟨some 12, .mov (.t 1), none⟩,
   ⟨some 13, .call 35 [.t 12], none⟩,
   ⟨some 14, .mov (.t 13), none⟩,
   ⟨some 15, .mov (.t 2), some (14, true)⟩,
   ⟨some 16, .call 35 [.t 15], some (14, true)⟩,
   ⟨some 17, .pick (.t 14) (.t 16) (.k (.val (.bool false))), none⟩,
   ⟨some 18, .call 34 [.t 17, .k (.val (.int .i64 4))], none⟩,
   ⟨some 19, .lit 3 1 [.t 11, .t 18], none⟩,
   ⟨some 20, .call 32 [.t 19], none⟩,
   ⟨some 8, .mov (.t 20), none⟩]) (
 .seq (
 .reg [
   ⟨some 21, .mov (.t 8), none⟩,
   ⟨some 22, .bin .neq (.t 21) (.k (.val (.int .i64 0))), none⟩]) (
 .cond (.t 22) (
  .seq (
  .reg [
    ⟨some 23, .mov (.t 8), none⟩,
    ⟨some 6, .mov (.k (.val (.int .i64 0))), none⟩,
    ⟨some 7, .mov (.t 23), none⟩]) (
  .ret)) (
  .skip)))) (
 .seq (
 .reg [
   ⟨some 24, .mov (.t 0), none⟩,
   ⟨some 25, .mov (.t 1), none⟩,
   ⟨some 26, .mov (.t 2), none⟩,
   ⟨some 27, .call 45 [.t 24, .t 25, .t 26], none⟩,
   ⟨some 9, .mov (.t 27), none⟩]) (
 .seq (
 .seq (
 .reg [
   ⟨some 28, .mov (.t 9), none⟩,
   ⟨some 29, .bin .lss (.t 28) (.k (.val (.int .i64 0))), none⟩]) (
 .cond (.t 29) (
  .seq (
  .reg [
    ⟨some 6, .mov (.k (.val (.int .i64 0))), none⟩,
    ⟨some 7, .mov (.k (.val (.int .i64 5))), none⟩]) (
  .ret)) (
  .skip))) (
 .seq (
 .reg [
   ⟨some 30, .mov (.t 9), none⟩,
   ⟨some 6, .mov (.t 30), none⟩,
   ⟨some 7, .mov (.k (.val (.int .i64 0))), none⟩]) (
 .ret)))))
theorem ok19 : chkFn Tryz.prog 19 ir19 3 [.t 6, .t 7] = true := by kernel_rfl

/-- loop.example/g00779/laws.FnExactChoose -/
def ir5 : PC :=
 .seq (
 .reg [
   ⟨some 6, .mov (.k (.val (.bool false))), none⟩]) (
 .seq (
 .reg [
   ⟨some 7, .mov (.k (.val (.int .i64 1048576))), none⟩]) (
 .seq (
 .reg [
   ⟨some 13, .mov (.t 0), none⟩,
   ⟨some 14, .mov (.t 7), none⟩,
   ⟨some 15, .call 8 [.t 13, .t 14], none⟩,
   ⟨some 7, .mov (.t 15), none⟩]) (
 .seq (
 .seq (
 .reg [
   ⟨some 16, .mov (.t 7), none⟩,
   ⟨some 17, .bin .lss (.t 16) (.k (.val (.int .i64 0))), none⟩]) (
 .cond (.t 17) (
  .seq (
  .reg [
    ⟨some 6, .mov (.k (.val (.bool true))), none⟩]) (
  .ret)) (
  .skip))) (
 .seq (
 .reg [
   ⟨some 19, .mov (.t 0), none⟩,
   ⟨some 20, .call 10 [.t 19], none⟩,
   ⟨some 21, .mov (.t 1), none⟩,
   ⟨some 22, .mov (.t 2), none⟩,
   ⟨some 23, .call 18 [.t 20, .t 21, .t 22], none⟩,
   ⟨some 18, .mov (.t 23), none⟩,
   ⟨some 24, .ext 0 (.t 18), none⟩,
   ⟨some 25, .ext 1 (.t 18), none⟩,
   ⟨some 8, .mov (.t 24), none⟩,
   ⟨some 9, .mov (.t 25), none⟩]) (
 .seq (
 .reg [
   ⟨some 26, .mov (.t 0), none⟩,
   ⟨some 27, .call 10 [.t 26], none⟩,
   ⟨some 10, .mov (.t 27), none⟩]) (
 .seq (
 .reg [
   ⟨some 29, .mov (.t 10), none⟩,
   ⟨some 30, .mov (.t 1), none⟩,
   ⟨some 31, .mov (.t 2), none⟩,
   ⟨some 32, .call 19 [.t 29, .t 30, .t 31], none⟩,
   ⟨some 28, .mov (.t 32), none⟩,
   ⟨some 33, .ext 0 (.t 28), none⟩,
   ⟨some 34, .ext 1 (.t 28), none⟩,
   ⟨some 11, .mov (.t 33), none⟩,
   ⟨some 12, .mov (.t 34), none⟩]) (
 .seq (
 .seq (
 .reg [
   ⟨some 35, .mov (.t 11), none⟩,
   ⟨some 36, .mov (.t 8), none⟩,
   ⟨some 37, .bin .neq (.t 35) (.t 36), none⟩,
   ⟨some 38, .mov (.t 37), none⟩,
   ⟨some 39, .mov (.t 12), some (38, false)⟩,
   ⟨some 40, .mov (.t 9), some (38, false)⟩,
   ⟨some 41, .bin .neq (.t 39) (.t 40), some (38, false)⟩,
   ⟨some 42, .pick (.t 38) (.k (.val (.bool true))) (.t 41), none⟩]) (
 .cond (.t 42) (
  .seq (
  .reg [
    ⟨some 6, .mov (.k (.val (.bool false))), none⟩]) (
  .ret)) (
  .skip))) (
 .seq (
 .seq (
 .reg [
   ⟨some 43, .mov (.t 10), none⟩,
   ⟨some 44, .mov (.t 0), none⟩,
   ⟨some 45, .call 10 [.t 44], none⟩,
   ⟨some 46, .call 12 [.t 43, .t 45], none⟩,
   ⟨some 47, .un .not (.t 46), none⟩]) (
 .cond (.t 47) (
  .seq (
  .reg [
    ⟨some 6, .mov (.k (.val (.bool false))), none⟩]) (
  .ret)) (
  .skip))) (
 .seq (
 .reg [
   ⟨some 6, .mov (.k (.val (.bool true))), none⟩]) (
 .ret))))))))))
theorem ok5 : chkFn Tryz.prog 5 ir5 3 [.t 6] = true := by kernel_rfl

end Go.Proofs
end

/- What the spec's choosing of a peer comes to. -/
section
set_option maxRecDepth 100000
set_option linter.unusedVariables false
set_option linter.unusedSectionVars false
set_option linter.unusedSimpArgs false
namespace Go.Proofs
open Go.PW Go.KP
variable [GF]

theorem c_l07Ready (x : LPeer) (now : Int) : CallOK Tryz.prog 72 [.val (rvPeer x), .val (num now)] (.ret (.val (.bool (lready now x))) []) [] := by
  refine call_val mixed ok72 rfl (fun _ => rfl) ?_
  unfold ir72
  rw [evalC_intro]
  unfold lready
  cases hg : x.gone <;> simp [initSt, avPVs, avPV, avBoxesL, avBoxes, RV.cells, RV.one, PV.cells, PV.solid, PV.one, vals?, allVal, mkAgg, setAt, RV.ofCells, elems, PV.killL, List.all_cons, List.all_nil, rvPeer, tx, num, allVal, hg]

theorem schoose_l13 {K : Kx (PExit → St → Prop)} (l : List LPeer) (now draw b s : Int) (hl : l.length ≤ 4) (hg : chGood l) (i : Nat) (hi : i ≤ l.length) (hinv : ChInv now (l.take i) (b, s))
    (hx : i = l.length → ∀ st' : St, st'.env 0 = .val (rvPeers l) → st'.env 1 = .val (num now) → st'.env 2 = .val (num draw) → st'.env 7 = .val (num b) → st'.env 8 = .val (num s) → K.k (.exit 0) st')
    (hn : ∀ h : i < l.length, ∀ st' : St, st'.env 0 = .val (rvPeers l) → st'.env 1 = .val (num now) → st'.env 2 = .val (num draw) → st'.env 7 = .val (num (chStep now (b, s) l[i]).1) → st'.env 8 = .val (num (chStep now (b, s) l[i]).2) → st'.env 9 = .val (num ((i + 1 : Nat) : Int)) → K.k .normal st') :
    EC Tryz.prog ir44_l13 ⟨envOf [(0, .val (rvPeers l)), (1, .val (num now)), (2, .val (num draw)), (7, .val (num b)), (8, .val (num s)), (9, .val (num i))], memOf []⟩ (K := K) := by
  unfold ir44_l13
  simp [RV.cells, RV.one, PV.cells, PV.solid, PV.one, vals?, allVal, mkAgg, setAt, RV.ofCells, elems, PV.killL, List.all_cons, List.all_nil, num, rvPeers]
  refine iteP_intro (fun h1 => ?_) (fun h1 => ?_)
  · have e1 := peers_at h1
    rw [List.getD_eq_getElem?_getD] at e1
    have hwi : IntKind.i64.wrap ((i : Int) + 1) = (i : Int) + 1 := wrap_i64 (by omega) (by omega)
    have hgi := hg _ (List.getElem_mem h1)
    have hlo : 0 ≤ s := hinv.lo
    have hhi : s ≤ 9 * (l.take i).length := hinv.hi
    rw [List.length_take] at hhi
    have hsw : IntKind.i64.wrap (s + l[i].target.weight) = s + l[i].target.weight := wrap_i64 (by omega) (by omega)
    have h0w : IntKind.i64.wrap l[i].target.weight = l[i].target.weight := wrap_i64 (by omega) (by omega)
    replace hn := hn h1
    simp [RV.cells, RV.one, PV.cells, PV.solid, PV.one, vals?, allVal, mkAgg, setAt, RV.ofCells, elems, PV.killL, List.all_cons, List.all_nil, num, rvPeers, h1, e1, rvPeer, tx]
    refine callS_val rfl rfl (.inl rfl) (c_l07Ready l[i] now) ?_
    cases hr : lready now l[i] with
    | false =>
      have hst : chStep now (b, s) l[i] = (b, s) := by simp [chStep, hr]
      rw [hst] at hn
      simp [RV.cells, RV.one, PV.cells, PV.solid, PV.one, vals?, allVal, mkAgg, setAt, RV.ofCells, elems, PV.killL, List.all_cons, List.all_nil]
      refine hn _ ?_ ?_ ?_ ?_ ?_ ?_
      all_goals simp [num, rvPeers, hwi]
    | true =>
      by_cases hs : s = 0
      · have hst : chStep now (b, s) l[i] = (l[i].target.prio, l[i].target.weight) := by simp [chStep, hr, hs]
        rw [hst] at hn
        subst hs
        simp [RV.cells, RV.one, PV.cells, PV.solid, PV.one, vals?, allVal, mkAgg, setAt, RV.ofCells, elems, PV.killL, List.all_cons, List.all_nil, h1, e1, rvPeer, tx, num]
        refine hn _ ?_ ?_ ?_ ?_ ?_ ?_
        all_goals simp [num, rvPeers, hwi, h0w]
      · have hs' : 0 < s := by omega
        by_cases hgt : b < l[i].target.prio
        · have hst : chStep now (b, s) l[i] = (b, s) := by simp [chStep, hr, hs', hgt]
          rw [hst] at hn
          simp [RV.cells, RV.one, PV.cells, PV.solid, PV.one, vals?, allVal, mkAgg, setAt, RV.ofCells, elems, PV.killL, List.all_cons, List.all_nil, hs', hgt]
          refine hn _ ?_ ?_ ?_ ?_ ?_ ?_
          all_goals simp [num, rvPeers, hwi]
        · by_cases hlt : l[i].target.prio < b
          · have hst : chStep now (b, s) l[i] = (l[i].target.prio, l[i].target.weight) := by simp [chStep, hr, hgt, hlt]
            rw [hst] at hn
            simp [RV.cells, RV.one, PV.cells, PV.solid, PV.one, vals?, allVal, mkAgg, setAt, RV.ofCells, elems, PV.killL, List.all_cons, List.all_nil, hs, hs', hgt, hlt, h1, e1, rvPeer, tx, num]
            refine hn _ ?_ ?_ ?_ ?_ ?_ ?_
            all_goals simp [num, rvPeers, hwi, h0w]
          · have hst : chStep now (b, s) l[i] = (b, s + l[i].target.weight) := by simp [chStep, hr, hgt, hlt, hs]
            rw [hst] at hn
            simp [RV.cells, RV.one, PV.cells, PV.solid, PV.one, vals?, allVal, mkAgg, setAt, RV.ofCells, elems, PV.killL, List.all_cons, List.all_nil, hs, hs', hgt, hlt, h1, e1, rvPeer, tx, num]
            refine hn _ ?_ ?_ ?_ ?_ ?_ ?_
            all_goals simp [num, rvPeers, hwi, hsw]
  · have e : i = l.length := by omega
    simp
    refine hx e _ ?_ ?_ ?_ ?_ ?_ <;> simp [num, rvPeers]

theorem schoose_l64 {K : Kx (PExit → St → Prop)} (l : List LPeer) (now b left : Int) (hl : l.length ≤ 4) (hg : chGood l) (i : Nat) (hi : i < l.length) (h0 : 0 ≤ left) (h00 : left ≤ 1000000)
    (hr : chMatch now b l[i] = true → left < l[i].target.weight → ∀ st' : St, st'.env 6 = .val (num i) → K.k .ret st')
    (hn : ∀ left', left' = (if chMatch now b l[i] then left - l[i].target.weight else left) → (chMatch now b l[i] = true → ¬ left < l[i].target.weight) → ∀ st' : St, st'.env 0 = .val (rvPeers l) → st'.env 1 = .val (num now) → st'.env 7 = .val (num b) → st'.env 11 = .val (num left') → st'.env 12 = .val (num ((i + 1 : Nat) : Int)) → K.k .normal st') :
    EC Tryz.prog ir44_l64 ⟨envOf [(0, .val (rvPeers l)), (1, .val (num now)), (7, .val (num b)), (11, .val (num left)), (12, .val (num i))], memOf []⟩ (K := K) := by
  unfold ir44_l64
  have e1 := peers_at hi
  rw [List.getD_eq_getElem?_getD] at e1
  have hwi : IntKind.i64.wrap ((i : Int) + 1) = (i : Int) + 1 := wrap_i64 (by omega) (by omega)
  have hgi := hg _ (List.getElem_mem hi)
  have hsw : IntKind.i64.wrap (left - l[i].target.weight) = left - l[i].target.weight := wrap_i64 (by omega) (by omega)
  simp [RV.cells, RV.one, PV.cells, PV.solid, PV.one, vals?, allVal, mkAgg, setAt, RV.ofCells, elems, PV.killL, List.all_cons, List.all_nil, num, rvPeers, hi, e1, rvPeer, tx]
  refine callS_val rfl rfl (.inl rfl) (c_l07Ready l[i] now) ?_
  cases hrd : lready now l[i] with
  | false =>
    have hm : chMatch now b l[i] = false := by simp [chMatch, hrd]
    rw [hm] at hn
    simp [RV.cells, RV.one, PV.cells, PV.solid, PV.one, vals?, allVal, mkAgg, setAt, RV.ofCells, elems, PV.killL, List.all_cons, List.all_nil]
    refine hn left (by simp) (fun h => by cases h) _ ?_ ?_ ?_ ?_ ?_
    all_goals simp [num, rvPeers, hwi]
  | true =>
    by_cases hp : l[i].target.prio = b
    · have hm : chMatch now b l[i] = true := by simp [chMatch, hrd, hp]
      rw [hm] at hn hr
      by_cases hlt : left < l[i].target.weight
      · simp [RV.cells, RV.one, PV.cells, PV.solid, PV.one, vals?, allVal, mkAgg, setAt, RV.ofCells, elems, PV.killL, List.all_cons, List.all_nil, hi, e1, hp, hlt, rvPeer, tx, num]
        refine hr rfl hlt _ ?_
        simp [num]
      · simp [RV.cells, RV.one, PV.cells, PV.solid, PV.one, vals?, allVal, mkAgg, setAt, RV.ofCells, elems, PV.killL, List.all_cons, List.all_nil, hi, e1, hp, hlt, rvPeer, tx, num]
        refine hn (left - l[i].target.weight) (by simp) (fun _ => hlt) _ ?_ ?_ ?_ ?_ ?_
        all_goals simp [num, rvPeers, hwi, hsw]
    · have hm : chMatch now b l[i] = false := by simp [chMatch, hrd, hp]
      rw [hm] at hn
      simp [RV.cells, RV.one, PV.cells, PV.solid, PV.one, vals?, allVal, mkAgg, setAt, RV.ofCells, elems, PV.killL, List.all_cons, List.all_nil, hi, e1, hp, rvPeer, tx, num]
      refine hn left (by simp) (fun h => by cases h) _ ?_ ?_ ?_ ?_ ?_
      all_goals simp [num, rvPeers, hwi]

theorem c_l07Choose (l : List LPeer) (now draw : Int) (hl : l.length ≤ 4) (hg : chGood l) (hd : 0 ≤ draw ∧ draw ≤ 1000000) : CallOK Tryz.prog 44 [.val (rvPeers l), .val (num now), .val (num draw)] (.ret (.val (num (lchoose l now draw))) []) [] := by
  refine call_val mixed ok44 rfl (fun _ => rfl) ?_
  unfold ir44
  rw [evalC_intro]
  have hall := chInv_all (now := now) hg
  unfold lchoose
  simp [initSt, avPVs, avPV, avBoxesL, avBoxes, RV.cells, RV.one, PV.cells, PV.solid, PV.one, vals?, allVal, mkAgg, setAt, RV.ofCells, elems, PV.killL, List.all_cons, List.all_nil, rvPeers, num]
  refine loop_EC (X := Nat) (fun i => ⟨envOf [(0, .val (rvPeers l)), (1, .val (num now)), (2, .val (num draw)), (7, .val (num (chAcc now (l.take i)).1)), (8, .val (num (chAcc now (l.take i)).2)), (9, .val (num i))], memOf []⟩) (fun i => i ≤ l.length) (fun i => l.length - i) 0 (Le.mk _ _ ?_ ?_) (Nat.zero_le _) ?_
  · simp [upd, rvPeers, num, chAcc, PV.kill]
  · simp
  · intro i hi
    refine schoose_l13 l now draw (chAcc now (l.take i)).1 (chAcc now (l.take i)).2 hl hg i hi (chInv_take hg i hi) (fun hil st' q0 q1 q2 q7 q8 => ?_) (fun h1 st' q0 q1 q2 q7 q8 q9 => ?_)
    · subst hil
      rw [List.take_length] at q7 q8
      generalize chAcc now l = a at *
      obtain ⟨b, s⟩ := a
      by_cases hs : s = 0
      · subst hs
        simp [RV.cells, RV.one, PV.cells, PV.solid, PV.one, vals?, allVal, mkAgg, setAt, RV.ofCells, elems, PV.killL, List.all_cons, List.all_nil, q0, q1, q2, q7, q8, num]
      · have hpos : 0 < s := by have := hall.lo; simp only at this; omega
        have hr := tmod_range hd.1 hpos
        have hsum := hall.sum
        simp only [if_neg hs] at hsum
        have hle : draw.tmod s ≤ 1000000 := by
          have := hall.hi
          simp only at this
          omega
        simp [RV.cells, RV.one, PV.cells, PV.solid, PV.one, vals?, allVal, mkAgg, setAt, RV.ofCells, elems, PV.killL, List.all_cons, List.all_nil, q0, q1, q2, q7, q8, num, hs]
        refine loop_EC (X := Nat × Int) (fun x => ⟨envOf [(0, .val (rvPeers l)), (1, .val (num now)), (7, .val (num b)), (11, .val (num x.2)), (12, .val (num x.1))], memOf []⟩) (fun x => x.1 ≤ l.length ∧ 0 ≤ x.2 ∧ x.2 ≤ 1000000 ∧ x.2 < chSum now b (l.drop x.1) ∧ chPick now b (l.drop x.1) x.2 x.1 = chPick now b l (draw.tmod s) 0) (fun x => l.length - x.1) (0, draw.tmod s) (Le.mk _ _ ?_ ?_) ⟨Nat.zero_le _, hr.1, hle, by simp; omega, rfl⟩ ?_
        · simp [upd, rvPeers, num, PV.kill, q0, q1, q7]
        · simp
        · rintro ⟨j, left⟩ ⟨hj, hl0, hl1, hls, hp⟩
          have hj1 : j < l.length := by
            rcases Nat.lt_or_ge j l.length with h | h
            · exact h
            · rw [List.drop_eq_nil_of_le h] at hls
              simp [chSum] at hls
              simp only at hl0
              omega
          simp only at hj hl0 hl1 hls hp
          rw [chPick_drop now b hj1] at hp
          rw [chSum_drop now b hj1] at hls
          refine schoose_l64 l now b left hl hg j hj1 hl0 hl1 (fun hm hlt st' q6 => ?_) (fun left' hl' hnl st' r0 r1 r7 r11 r12 => ?_)
          · rw [if_pos hm, if_pos hlt] at hp
            simp [q6, ← hp, num, hs]
          · simp
            have hgj := hg _ (List.getElem_mem hj1)
            refine LoopNext.mk (j + 1, left') ⟨hj1, ?_, ?_, ?_, ?_⟩ (by show l.length - (j + 1) < l.length - j; omega) (Le.mk _ _ ?_ ?_)
            · show 0 ≤ left'
              cases hm : chMatch now b l[j] with
              | true => have := hnl hm; rw [hm] at hl'; simp at hl'; omega
              | false => rw [hm] at hl'; simp at hl'; omega
            · show left' ≤ 1000000
              cases hm : chMatch now b l[j] with
              | true => have := hnl hm; rw [hm] at hl'; simp at hl'; omega
              | false => rw [hm] at hl'; simp at hl'; omega
            · show left' < chSum now b (l.drop (j + 1))
              cases hm : chMatch now b l[j] with
              | true => have := hnl hm; rw [hm] at hl' hls; simp at hl' hls; omega
              | false => rw [hm] at hl' hls; simp at hl' hls; omega
            · show chPick now b (l.drop (j + 1)) left' ((j + 1 : Nat) : Int) = _
              rw [← hp]
              cases hm : chMatch now b l[j] with
              | true => have := hnl hm; rw [hm] at hl'; simp at hl'; simp [hl', this]
              | false => rw [hm] at hl'; simp at hl'; simp [hl']
            · simp [r0, r1, r7, r11, r12]
            · simp
    · simp
      refine LoopNext.mk (i + 1) (by omega) (by omega) (Le.mk _ _ ?_ ?_)
      · have hsn : chAcc now (l.take (i + 1)) = chStep now (chAcc now (l.take i)) l[i] := by
          rw [List.take_add_one, List.getElem?_eq_getElem h1, Option.toList_some, chAcc_snoc]
        simp [q0, q1, q2, q7, q8, q9, hsn]
      · simp

theorem c_specChoose (l : List LPeer) (now draw : Int) (hl : l.length < 1099511627776) (hs : ∀ p ∈ l, p.target.url.length < 1099511627776) : CallOK Tryz.prog 18 [.val (rvPeers l), .val (num now), .val (num draw)] (.ret (wakeRes (lChoose l now draw)) []) [] := by
  refine call_val mixed ok18 rfl (fun _ => rfl) ?_
  unfold ir18
  rw [evalC_intro]
  unfold lChoose
  by_cases h0 : 4096 < l.length
  · have h0' : (4096 : Int) < l.length := by omega
    rw [if_pos h0]
    simp [initSt, avPVs, avPV, avBoxesL, avBoxes, RV.cells, RV.one, PV.cells, PV.solid, PV.one, vals?, allVal, mkAgg, setAt, RV.ofCells, elems, PV.killL, List.all_cons, List.all_nil, rvPeers, num, h0', wakeRes]
  · have h0' : ¬ (4096 : Int) < l.length := by omega
    rw [if_neg h0]
    simp [initSt, avPVs, avPV, avBoxesL, avBoxes, RV.cells, RV.one, PV.cells, PV.solid, PV.one, vals?, allVal, mkAgg, setAt, RV.ofCells, elems, PV.killL, List.all_cons, List.all_nil, rvPeers, num, h0']
    refine callS_val rfl rfl (.inl rfl) (c_l07OK l hl hs) ?_
    cases hok : lpeersOK l with
    | false => simp [RV.cells, RV.one, PV.cells, PV.solid, PV.one, vals?, allVal, mkAgg, setAt, RV.ofCells, elems, PV.killL, List.all_cons, List.all_nil, num, wakeRes]
    | true =>
      simp [RV.cells, RV.one, PV.cells, PV.solid, PV.one, vals?, allVal, mkAgg, setAt, RV.ofCells, elems, PV.killL, List.all_cons, List.all_nil, num]
      refine callS_val rfl rfl (.inl rfl) (c_l01In .i64 now 0 1000000) ?_
      by_cases hn : 0 ≤ now ∧ now ≤ 1000000
      · rw [decide_eq_true hn]
        simp [RV.cells, RV.one, PV.cells, PV.solid, PV.one, vals?, allVal, mkAgg, setAt, RV.ofCells, elems, PV.killL, List.all_cons, List.all_nil, num]
        refine callS_val rfl rfl (.inl rfl) (c_l01In .i64 draw 0 1000000) ?_
        by_cases hd : 0 ≤ draw ∧ draw ≤ 1000000
        · rw [decide_eq_true hd, if_pos rfl, if_pos ⟨hn, hd⟩]
          obtain ⟨g1, g2⟩ := chGood_of hok
          simp [RV.cells, RV.one, PV.cells, PV.solid, PV.one, vals?, allVal, mkAgg, setAt, RV.ofCells, elems, PV.killL, List.all_cons, List.all_nil, num, rvPeers]
          refine callS_val rfl rfl (.inl rfl) (c_l07Choose l now draw g1 g2 hd) ?_
          by_cases hc : lchoose l now draw < 0
          · rw [if_pos hc]
            simp [RV.cells, RV.one, PV.cells, PV.solid, PV.one, vals?, allVal, mkAgg, setAt, RV.ofCells, elems, PV.killL, List.all_cons, List.all_nil, num, wakeRes, hc]
          · rw [if_neg hc]
            simp [RV.cells, RV.one, PV.cells, PV.solid, PV.one, vals?, allVal, mkAgg, setAt, RV.ofCells, elems, PV.killL, List.all_cons, List.all_nil, num, wakeRes, hc]
        · rw [decide_eq_false hd, if_pos rfl, if_neg (fun h => hd h.2)]
          simp [RV.cells, RV.one, PV.cells, PV.solid, PV.one, vals?, allVal, mkAgg, setAt, RV.ofCells, elems, PV.killL, List.all_cons, List.all_nil, num, wakeRes]
      · rw [decide_eq_false hn, if_pos rfl, if_neg (fun h => hn h.1)]
        simp [RV.cells, RV.one, PV.cells, PV.solid, PV.one, vals?, allVal, mkAgg, setAt, RV.ofCells, elems, PV.killL, List.all_cons, List.all_nil, num, wakeRes]
end Go.Proofs
end

/- What the program's choosing of a peer comes to, and the law. -/
section
set_option maxRecDepth 100000
set_option linter.unusedVariables false
set_option linter.unusedSectionVars false
set_option linter.unusedSimpArgs false
namespace Go.Proofs
open Go.PW Go.KP
variable [GH]

theorem ichoose_l16 {K : Kx (PExit → St → Prop)} (l : List LPeer) (now draw b s : Int) (hl : l.length ≤ 4) (hg : chGood l) (i : Nat) (hi : i ≤ l.length) (hinv : ChInv now (l.take i) (b, s))
    (hx : i = l.length → ∀ st' : St, st'.env 0 = .val (rvPeers l) → st'.env 1 = .val (num now) → st'.env 2 = .val (num draw) → st'.env 7 = .val (num (chI (b, s))) → st'.env 8 = .val (num s) → K.k (.exit 0) st')
    (hn : ∀ h : i < l.length, ∀ st' : St, st'.env 0 = .val (rvPeers l) → st'.env 1 = .val (num now) → st'.env 2 = .val (num draw) → st'.env 7 = .val (num (chI (chStep now (b, s) l[i]))) → st'.env 8 = .val (num (chStep now (b, s) l[i]).2) → st'.env 13 = .val (rvPeers l) → st'.env 14 = .val (num l.length) → st'.env 15 = .val (num ((i + 1 : Nat) : Int)) → K.k .normal st') :
    EC Tryz.prog ir45_l16 ⟨envOf [(0, .val (rvPeers l)), (1, .val (num now)), (2, .val (num draw)), (7, .val (num (chI (b, s)))), (8, .val (num s)), (13, .val (rvPeers l)), (14, .val (num l.length)), (15, .val (num i))], memOf []⟩ (K := K) := by
  unfold ir45_l16
  simp [RV.cells, RV.one, PV.cells, PV.solid, PV.one, vals?, allVal, mkAgg, setAt, RV.ofCells, elems, PV.killL, List.all_cons, List.all_nil, num, rvPeers]
  refine iteP_intro (fun h1 => ?_) (fun h1 => ?_)
  · have e1 := peers_at h1
    rw [List.getD_eq_getElem?_getD] at e1
    have hwi : IntKind.i64.wrap ((i : Int) + 1) = (i : Int) + 1 := wrap_i64 (by omega) (by omega)
    have hgi := hg _ (List.getElem_mem h1)
    have hlo : 0 ≤ s := hinv.lo
    have hhi : s ≤ 9 * (l.take i).length := hinv.hi
    rw [List.length_take] at hhi
    have hsw : IntKind.i64.wrap (s + l[i].target.weight) = s + l[i].target.weight := wrap_i64 (by omega) (by omega)
    have h0w : IntKind.i64.wrap l[i].target.weight = l[i].target.weight := wrap_i64 (by omega) (by omega)
    replace hn := hn h1
    cases hgo : l[i].gone with
    | true =>
      have hr : lready now l[i] = false := by simp [lready, hgo]
      have hst : chStep now (b, s) l[i] = (b, s) := by simp [chStep, hr]
      rw [hst] at hn
      simp [RV.cells, RV.one, PV.cells, PV.solid, PV.one, vals?, allVal, mkAgg, setAt, RV.ofCells, elems, PV.killL, List.all_cons, List.all_nil, num, rvPeers, h1, e1, rvPeer, tx, hgo]
      refine hn _ ?_ ?_ ?_ ?_ ?_ ?_ ?_ ?_
      all_goals simp [num, rvPeers, hwi]
    | false =>
      by_cases hre : now < l[i].retry
      · have hr : lready now l[i] = false := by simp [lready, hgo, hre]
        have hst : chStep now (b, s) l[i] = (b, s) := by simp [chStep, hr]
        rw [hst] at hn
        simp [RV.cells, RV.one, PV.cells, PV.solid, PV.one, vals?, allVal, mkAgg, setAt, RV.ofCells, elems, PV.killL, List.all_cons, List.all_nil, num, rvPeers, h1, e1, rvPeer, tx, hgo, hre]
        refine hn _ ?_ ?_ ?_ ?_ ?_ ?_ ?_ ?_
        all_goals simp [num, rvPeers, hwi]
      · have hr : lready now l[i] = true := by simp [lready, hgo]; omega
        by_cases hs : s = 0
        · have hst : chStep now (b, s) l[i] = (l[i].target.prio, l[i].target.weight) := by simp [chStep, hr, hs]
          have hci : chI (b, s) = 10 := by simp [chI, hs]
          have hcn : chI (l[i].target.prio, l[i].target.weight) = l[i].target.prio := by unfold chI; rw [if_neg]; show ¬ l[i].target.weight = 0; omega
          have hlt : l[i].target.prio < 10 := by omega
          rw [hst, hcn] at hn
          rw [hci]
          subst hs
          simp [RV.cells, RV.one, PV.cells, PV.solid, PV.one, vals?, allVal, mkAgg, setAt, RV.ofCells, elems, PV.killL, List.all_cons, List.all_nil, num, rvPeers, h1, e1, rvPeer, tx, hgo, hre, hlt]
          refine hn _ ?_ ?_ ?_ ?_ ?_ ?_ ?_ ?_
          all_goals simp [num, rvPeers, hwi, h0w]
        · have hs' : 0 < s := by omega
          have hci : chI (b, s) = b := by simp [chI, hs]
          rw [hci]
          by_cases hgt : b < l[i].target.prio
          · have hst : chStep now (b, s) l[i] = (b, s) := by simp [chStep, hr, hs', hgt]
            have hng : ¬ l[i].target.prio < b := by omega
            have hne : ¬ l[i].target.prio = b := by omega
            rw [hst, hci] at hn
            simp [RV.cells, RV.one, PV.cells, PV.solid, PV.one, vals?, allVal, mkAgg, setAt, RV.ofCells, elems, PV.killL, List.all_cons, List.all_nil, num, rvPeers, h1, e1, rvPeer, tx, hgo, hre, hng, hne]
            refine hn _ ?_ ?_ ?_ ?_ ?_ ?_ ?_ ?_
            all_goals simp [num, rvPeers, hwi]
          · by_cases hlt : l[i].target.prio < b
            · have hst : chStep now (b, s) l[i] = (l[i].target.prio, l[i].target.weight) := by simp [chStep, hr, hgt, hlt]
              have hcn : chI (l[i].target.prio, l[i].target.weight) = l[i].target.prio := by unfold chI; rw [if_neg]; show ¬ l[i].target.weight = 0; omega
              rw [hst, hcn] at hn
              simp [RV.cells, RV.one, PV.cells, PV.solid, PV.one, vals?, allVal, mkAgg, setAt, RV.ofCells, elems, PV.killL, List.all_cons, List.all_nil, num, rvPeers, h1, e1, rvPeer, tx, hgo, hre, hlt]
              refine hn _ ?_ ?_ ?_ ?_ ?_ ?_ ?_ ?_
              all_goals simp [num, rvPeers, hwi, h0w]
            · have hst : chStep now (b, s) l[i] = (b, s + l[i].target.weight) := by simp [chStep, hr, hgt, hlt, hs]
              have hcn : chI (b, s + l[i].target.weight) = b := by unfold chI; rw [if_neg]; show ¬ s + l[i].target.weight = 0; omega
              have heq : l[i].target.prio = b := by omega
              rw [hst, hcn] at hn
              simp [RV.cells, RV.one, PV.cells, PV.solid, PV.one, vals?, allVal, mkAgg, setAt, RV.ofCells, elems, PV.killL, List.all_cons, List.all_nil, num, rvPeers, h1, e1, rvPeer, tx, hgo, hre, hlt, heq]
              refine hn _ ?_ ?_ ?_ ?_ ?_ ?_ ?_ ?_
              all_goals simp [num, rvPeers, hwi, hsw]
  · have e : i = l.length := by omega
    simp
    refine hx e _ ?_ ?_ ?_ ?_ ?_ <;> simp [num, rvPeers]

theorem ichoose_l54 {K : Kx (PExit → St → Prop)} (l : List LPeer) (now b left : Int) (hl : l.length ≤ 4) (hg : chGood l) (i : Nat) (hi : i < l.length) (h0 : 0 ≤ left) (h00 : left ≤ 1000000)
    (hr : chMatch now b l[i] = true → left < l[i].target.weight → ∀ st' : St, st'.env 6 = .val (num i) → K.k .ret st')
    (hn : ∀ left', left' = (if chMatch now b l[i] then left - l[i].target.weight else left) → (chMatch now b l[i] = true → ¬ left < l[i].target.weight) → ∀ st' : St, st'.env 1 = .val (num now) → st'.env 2 = .val (num left') → st'.env 7 = .val (num b) → st'.env 51 = .val (rvPeers l) → st'.env 52 = .val (num l.length) → st'.env 53 = .val (num ((i + 1 : Nat) : Int)) → K.k .normal st') :
    EC Tryz.prog ir45_l54 ⟨envOf [(1, .val (num now)), (2, .val (num left)), (7, .val (num b)), (51, .val (rvPeers l)), (52, .val (num l.length)), (53, .val (num i))], memOf []⟩ (K := K) := by
  unfold ir45_l54
  have e1 := peers_at hi
  rw [List.getD_eq_getElem?_getD] at e1
  have hwi : IntKind.i64.wrap ((i : Int) + 1) = (i : Int) + 1 := wrap_i64 (by omega) (by omega)
  have hgi := hg _ (List.getElem_mem hi)
  have hsw : IntKind.i64.wrap (left - l[i].target.weight) = left - l[i].target.weight := wrap_i64 (by omega) (by omega)
  cases hgo : l[i].gone with
  | true =>
    have hm : chMatch now b l[i] = false := by simp [chMatch, lready, hgo]
    rw [hm] at hn
    simp [RV.cells, RV.one, PV.cells, PV.solid, PV.one, vals?, allVal, mkAgg, setAt, RV.ofCells, elems, PV.killL, List.all_cons, List.all_nil, num, rvPeers, hi, e1, rvPeer, tx, hgo]
    refine hn left (by simp) (fun h => by cases h) _ ?_ ?_ ?_ ?_ ?_ ?_
    all_goals simp [num, rvPeers, hwi]
  | false =>
    by_cases hre : now < l[i].retry
    · have hm : chMatch now b l[i] = false := by unfold chMatch lready; rw [decide_eq_false (show ¬ l[i].retry ≤ now by omega)]; simp
      rw [hm] at hn
      simp [RV.cells, RV.one, PV.cells, PV.solid, PV.one, vals?, allVal, mkAgg, setAt, RV.ofCells, elems, PV.killL, List.all_cons, List.all_nil, num, rvPeers, hi, e1, rvPeer, tx, hgo, hre]
      refine hn left (by simp) (fun h => by cases h) _ ?_ ?_ ?_ ?_ ?_ ?_
      all_goals simp [num, rvPeers, hwi]
    · have hrd : lready now l[i] = true := by simp [lready, hgo]; omega
      by_cases hp : l[i].target.prio = b
      · have hm : chMatch now b l[i] = true := by simp [chMatch, hrd, hp]
        rw [hm] at hn hr
        by_cases hlt : left < l[i].target.weight
        · simp [RV.cells, RV.one, PV.cells, PV.solid, PV.one, vals?, allVal, mkAgg, setAt, RV.ofCells, elems, PV.killL, List.all_cons, List.all_nil, num, rvPeers, hi, e1, rvPeer, tx, hgo, hre, hp, hlt]
          refine hr rfl hlt _ ?_
          simp [num]
        · simp [RV.cells, RV.one, PV.cells, PV.solid, PV.one, vals?, allVal, mkAgg, setAt, RV.ofCells, elems, PV.killL, List.all_cons, List.all_nil, num, rvPeers, hi, e1, rvPeer, tx, hgo, hre, hp, hlt]
          refine hn (left - l[i].target.weight) (by simp) (fun _ => hlt) _ ?_ ?_ ?_ ?_ ?_ ?_
          all_goals simp [num, rvPeers, hwi, hsw]
      · have hm : chMatch now b l[i] = false := by simp [chMatch, hrd, hp]
        rw [hm] at hn
        simp [RV.cells, RV.one, PV.cells, PV.solid, PV.one, vals?, allVal, mkAgg, setAt, RV.ofCells, elems, PV.killL, List.all_cons, List.all_nil, num, rvPeers, hi, e1, rvPeer, tx, hgo, hre, hp]
        refine hn left (by simp) (fun h => by cases h) _ ?_ ?_ ?_ ?_ ?_ ?_
        all_goals simp [num, rvPeers, hwi]

theorem i_choose (l : List LPeer) (now draw : Int) (hl : l.length ≤ 4) (hg : chGood l) (hd : 0 ≤ draw ∧ draw ≤ 1000000) : CallOK Tryz.prog 45 [.val (rvPeers l), .val (num now), .val (num draw)] (.ret (.val (num (lchoose l now draw))) []) [] := by
  refine call_val mixed ok45 rfl (fun _ => rfl) ?_
  unfold ir45
  rw [evalC_intro]
  have hall := chInv_all (now := now) hg
  unfold lchoose
  simp [initSt, avPVs, avPV, avBoxesL, avBoxes, RV.cells, RV.one, PV.cells, PV.solid, PV.one, vals?, allVal, mkAgg, setAt, RV.ofCells, elems, PV.killL, List.all_cons, List.all_nil, rvPeers, num]
  refine loop_EC (X := Nat) (fun i => ⟨envOf [(0, .val (rvPeers l)), (1, .val (num now)), (2, .val (num draw)), (7, .val (num (chI (chAcc now (l.take i))))), (8, .val (num (chAcc now (l.take i)).2)), (13, .val (rvPeers l)), (14, .val (num l.length)), (15, .val (num i))], memOf []⟩) (fun i => i ≤ l.length) (fun i => l.length - i) 0 (Le.mk _ _ ?_ ?_) (Nat.zero_le _) ?_
  · simp [upd, rvPeers, num, chAcc, chI, PV.kill]
  · simp
  · intro i hi
    refine ichoose_l16 l now draw (chAcc now (l.take i)).1 (chAcc now (l.take i)).2 hl hg i hi (chInv_take hg i hi) (fun hil st' q0 q1 q2 q7 q8 => ?_) (fun h1 st' q0 q1 q2 q7 q8 q13 q14 q15 => ?_)
    · subst hil
      rw [List.take_length] at q7 q8
      generalize chAcc now l = a at *
      obtain ⟨b, s⟩ := a
      by_cases hs : s = 0
      · subst hs
        simp [RV.cells, RV.one, PV.cells, PV.solid, PV.one, vals?, allVal, mkAgg, setAt, RV.ofCells, elems, PV.killL, List.all_cons, List.all_nil, q0, q1, q2, q7, q8, num]
      · have hpos : 0 < s := by have := hall.lo; simp only at this; omega
        have hr := tmod_range hd.1 hpos
        have hle : draw.tmod s ≤ 1000000 := by
          have := hall.hi
          simp only at this
          omega
        have hci : chI (b, s) = b := by simp [chI, hs]
        rw [hci] at q7
        simp [RV.cells, RV.one, PV.cells, PV.solid, PV.one, vals?, allVal, mkAgg, setAt, RV.ofCells, elems, PV.killL, List.all_cons, List.all_nil, q0, q1, q2, q7, q8, num, hs, rvPeers]
        refine loop_EC (X := Nat × Int) (fun x => ⟨envOf [(1, .val (num now)), (2, .val (num x.2)), (7, .val (num b)), (51, .val (rvPeers l)), (52, .val (num l.length)), (53, .val (num x.1))], memOf []⟩) (fun x => x.1 ≤ l.length ∧ 0 ≤ x.2 ∧ x.2 ≤ 1000000 ∧ chPick now b (l.drop x.1) x.2 x.1 = chPick now b l (draw.tmod s) 0) (fun x => l.length - x.1) (0, draw.tmod s) (Le.mk _ _ ?_ ?_) ⟨Nat.zero_le _, hr.1, hle, rfl⟩ ?_
        · simp [upd, rvPeers, num, PV.kill, q0, q1, q7]
        · simp
        · rintro ⟨j, left⟩ ⟨hj, hl0, hl1, hp⟩
          simp only at hj hl0 hl1 hp
          rcases Nat.lt_or_ge j l.length with hj1 | hj1
          · rw [chPick_drop now b hj1] at hp
            refine ichoose_l54 l now b left hl hg j hj1 hl0 hl1 (fun hm hlt st' q6 => ?_) (fun left' hl' hnl st' r1 r2 r7 r51 r52 r53 => ?_)
            · rw [if_pos hm, if_pos hlt] at hp
              simp [q6, ← hp, num, hs]
            · simp
              have hgj := hg _ (List.getElem_mem hj1)
              refine LoopNext.mk (j + 1, left') ⟨hj1, ?_, ?_, ?_⟩ (by show l.length - (j + 1) < l.length - j; omega) (Le.mk _ _ ?_ ?_)
              · show 0 ≤ left'
                cases hm : chMatch now b l[j] with
                | true => have := hnl hm; rw [hm] at hl'; simp at hl'; omega
                | false => rw [hm] at hl'; simp at hl'; omega
              · show left' ≤ 1000000
                cases hm : chMatch now b l[j] with
                | true => have := hnl hm; rw [hm] at hl'; simp at hl'; omega
                | false => rw [hm] at hl'; simp at hl'; omega
              · show chPick now b (l.drop (j + 1)) left' ((j + 1 : Nat) : Int) = _
                rw [← hp]
                cases hm : chMatch now b l[j] with
                | true => have := hnl hm; rw [hm] at hl'; simp at hl'; simp [hl', this]
                | false => rw [hm] at hl'; simp at hl'; simp [hl']
              · simp [r1, r2, r7, r51, r52, r53]
              · simp
          · have e : j = l.length := by omega
            subst e
            rw [List.drop_length] at hp
            unfold ir45_l54
            simp [RV.cells, RV.one, PV.cells, PV.solid, PV.one, vals?, allVal, mkAgg, setAt, RV.ofCells, elems, PV.killL, List.all_cons, List.all_nil, num, rvPeers, ← hp, chPick]
    · simp
      refine LoopNext.mk (i + 1) (by omega) (by omega) (Le.mk _ _ ?_ ?_)
      · have hsn : chAcc now (l.take (i + 1)) = chStep now (chAcc now (l.take i)) l[i] := by
          rw [List.take_add_one, List.getElem?_eq_getElem h1, Option.toList_some, chAcc_snoc]
        simp [q0, q1, q2, q7, q8, q13, q14, q15, hsn]
      · simp

theorem i_Choose (l : List LPeer) (now draw : Int) (hl : l.length < 1099511627776) (hs : ∀ p ∈ l, p.target.url.length < 1048577) : CallOK Tryz.prog 19 [.val (rvPeers l), .val (num now), .val (num draw)] (.ret (wakeRes (lChoose l now draw)) []) [] := by
  refine call_val mixed ok19 rfl (fun _ => rfl) ?_
  unfold ir19
  rw [evalC_intro]
  have hpc := i_peersCode l hl hs
  unfold lChoose
  have hisn := i_isNow now
  have hisd := i_isNow draw
  generalize hb : decide (0 ≤ now ∧ now ≤ 1000000) = b at hisn
  generalize hd : decide (0 ≤ draw ∧ draw ≤ 1000000) = d at hisd
  simp [initSt, avPVs, avPV, avBoxesL, avBoxes, RV.cells, RV.one, PV.cells, PV.solid, PV.one, vals?, allVal, mkAgg, setAt, RV.ofCells, elems, PV.killL, List.all_cons, List.all_nil, rvPeers, num]
  refine callS_val rfl rfl (.inl rfl) hpc ?_
  simp [RV.cells, RV.one, PV.cells, PV.solid, PV.one, vals?, allVal, mkAgg, setAt, RV.ofCells, elems, PV.killL, List.all_cons, List.all_nil, num]
  refine callS_val rfl rfl (.inl rfl) hisn ?_
  cases b with
  | false =>
    have hnn : ¬ ((0 ≤ now ∧ now ≤ 1000000) ∧ (0 ≤ draw ∧ draw ≤ 1000000)) := fun h => by rw [decide_eq_true h.1] at hb; cases hb
    simp [RV.cells, RV.one, PV.cells, PV.solid, PV.one, vals?, allVal, mkAgg, setAt, RV.ofCells, elems, PV.killL, List.all_cons, List.all_nil, num]
    refine callS_val rfl rfl (.inl rfl) (i_unless false 4) ?_
    simp [RV.cells, RV.one, PV.cells, PV.solid, PV.one, vals?, allVal, mkAgg, setAt, RV.ofCells, elems, PV.killL, List.all_cons, List.all_nil, num, elems]
    refine callS_val rfl rfl (.inr rfl) (i_first [if 4096 < l.length then 2 else if lpeersOK l then 0 else 1, 4] (by simp)) ?_
    by_cases h : 4096 < l.length
    · rw [if_pos h, if_pos h, lfirst_ne (by decide)]
      simp [num, wakeRes]
    · rw [if_neg h, if_neg h]
      cases hok : lpeersOK l with
      | false =>
        rw [if_neg (by simp), if_neg (by simp), lfirst_ne (by decide)]
        simp [num, wakeRes]
      | true =>
        rw [if_pos rfl, if_pos rfl, lfirst_zero, if_neg hnn, lfirst_ne (by decide)]
        simp [num, wakeRes]
  | true =>
    simp [RV.cells, RV.one, PV.cells, PV.solid, PV.one, vals?, allVal, mkAgg, setAt, RV.ofCells, elems, PV.killL, List.all_cons, List.all_nil, num]
    refine callS_val rfl rfl (.inl rfl) hisd ?_
    simp [RV.cells, RV.one, PV.cells, PV.solid, PV.one, vals?, allVal, mkAgg, setAt, RV.ofCells, elems, PV.killL, List.all_cons, List.all_nil, num]
    refine callS_val rfl rfl (.inl rfl) (i_unless d 4) ?_
    simp [RV.cells, RV.one, PV.cells, PV.solid, PV.one, vals?, allVal, mkAgg, setAt, RV.ofCells, elems, PV.killL, List.all_cons, List.all_nil, num, elems]
    refine callS_val rfl rfl (.inr rfl) (i_first [if 4096 < l.length then 2 else if lpeersOK l then 0 else 1, if d then 0 else 4] (by simp)) ?_
    by_cases h : 4096 < l.length
    · rw [if_pos h, if_pos h, lfirst_ne (by decide)]
      simp [num, wakeRes]
    · rw [if_neg h, if_neg h]
      cases hok : lpeersOK l with
      | false =>
        rw [if_neg (by simp), if_neg (by simp), lfirst_ne (by decide)]
        simp [num, wakeRes]
      | true =>
        rw [if_pos rfl, if_pos rfl, lfirst_zero]
        cases d with
        | false =>
          have hnn : ¬ ((0 ≤ now ∧ now ≤ 1000000) ∧ (0 ≤ draw ∧ draw ≤ 1000000)) := fun h => by rw [decide_eq_true h.2] at hd; cases hd
          rw [if_neg hnn, if_neg (by simp), lfirst_ne (by decide)]
          simp [num, wakeRes]
        | true =>
          have hd' := of_decide_eq_true hd
          rw [if_pos ⟨of_decide_eq_true hb, hd'⟩, if_pos rfl, show lfirst [0] = 0 from rfl]
          obtain ⟨g1, g2⟩ := chGood_of hok
          simp [RV.cells, RV.one, PV.cells, PV.solid, PV.one, vals?, allVal, mkAgg, setAt, RV.ofCells, elems, PV.killL, List.all_cons, List.all_nil, num, rvPeers]
          refine callS_val rfl rfl (.inl rfl) (i_choose l now draw g1 g2 hd') ?_
          by_cases hc : lchoose l now draw < 0
          · rw [if_pos hc]
            simp [RV.cells, RV.one, PV.cells, PV.solid, PV.one, vals?, allVal, mkAgg, setAt, RV.ofCells, elems, PV.killL, List.all_cons, List.all_nil, num, wakeRes, hc]
          · rw [if_neg hc]
            simp [RV.cells, RV.one, PV.cells, PV.solid, PV.one, vals?, allVal, mkAgg, setAt, RV.ofCells, elems, PV.killL, List.all_cons, List.all_nil, num, wakeRes, hc]

theorem law_Choose (l : List LPeer) (now draw : Int) (hl : l.length ≤ 9223372036854775807) (hx : ∀ p ∈ l, p.target.url.length ≤ 9223372036854775807) : CallOK Tryz.prog 5 [.val (rvPeers l), .val (num now), .val (num draw)] (.ret (.val (.bool true)) []) [] := by
  refine call_val mixed ok5 rfl (fun _ => rfl) ?_
  unfold ir5
  rw [evalC_intro]
  simp [initSt, avPVs, avPV, avBoxesL, avBoxes, RV.cells, RV.one, PV.cells, PV.solid, PV.one, vals?, allVal, mkAgg, setAt, RV.ofCells, elems, PV.killL, List.all_cons, List.all_nil, rvPeers, num]
  refine callS_val rfl rfl (.inl rfl) (c_szPeerS l 1048576 (by omega) (by omega) hl hx) ?_
  simp [RV.cells, RV.one, PV.cells, PV.solid, PV.one, vals?, allVal, mkAgg, setAt, RV.ofCells, elems, PV.killL, List.all_cons, List.all_nil, num]
  refine iteP_intro (fun h => ?_) (fun h => ?_)
  · simp
  · obtain ⟨hl2, hx2⟩ := lsz_small (by omega) (by omega) h
    have hl3 : l.length < 1099511627776 := by omega
    simp [RV.cells, RV.one, PV.cells, PV.solid, PV.one, vals?, allVal, mkAgg, setAt, RV.ofCells, elems, PV.killL, List.all_cons, List.all_nil, num]
    refine callS_val rfl rfl (.inl rfl) (c_toPeerS l hl3) ?_
    simp [RV.cells, RV.one, PV.cells, PV.solid, PV.one, vals?, allVal, mkAgg, setAt, RV.ofCells, elems, PV.killL, List.all_cons, List.all_nil, num, rvPeers]
    refine callS_two rfl rfl (.inl rfl) (c_specChoose l now draw hl3 (fun p hp => by have := hx2 p hp; omega)) ?_
    generalize hr : lChoose l now draw = r
    obtain ⟨a, c⟩ := r
    simp [RV.cells, RV.one, PV.cells, PV.solid, PV.one, vals?, allVal, mkAgg, setAt, RV.ofCells, elems, PV.killL, List.all_cons, List.all_nil, num, rvPeers]
    refine callS_val rfl rfl (.inl rfl) (c_toPeerS l hl3) ?_
    simp [RV.cells, RV.one, PV.cells, PV.solid, PV.one, vals?, allVal, mkAgg, setAt, RV.ofCells, elems, PV.killL, List.all_cons, List.all_nil, num, rvPeers]
    have hi := i_Choose l now draw hl3 (fun p hp => by have := hx2 p hp; omega)
    rw [hr] at hi
    refine callS_two rfl rfl (.inl rfl) hi ?_
    simp [RV.cells, RV.one, PV.cells, PV.solid, PV.one, vals?, allVal, mkAgg, setAt, RV.ofCells, elems, PV.killL, List.all_cons, List.all_nil, num, rvPeers]
    refine callS_val rfl rfl (.inl rfl) (c_toPeerS l hl3) ?_
    simp [RV.cells, RV.one, PV.cells, PV.solid, PV.one, vals?, allVal, mkAgg, setAt, RV.ofCells, elems, PV.killL, List.all_cons, List.all_nil, num, rvPeers]
    refine callS_val rfl rfl (.inl rfl) (c_eqPeerS l hl3) ?_
    simp [RV.cells, RV.one, PV.cells, PV.solid, PV.one, vals?, allVal, mkAgg, setAt, RV.ofCells, elems, PV.killL, List.all_cons, List.all_nil, num, rvPeers]
end Go.Proofs
end

/- 'laws.FnExactChoose': for every input the call returns true, and each argument reads as it did. -/
section
set_option maxRecDepth 100000
set_option linter.unusedVariables false
set_option linter.unusedSectionVars false
set_option linter.unusedSimpArgs false
namespace Go.Proofs.YtmpcaeidpofoiaaGreatDoor
open Go.ChangeShapes Go.WideShapes Go.ChangeAt Go.RowKit Go.PW Go.KP

theorem paramsChoose : Tryz.f5.params = #[22, 3, 3] := rfl

theorem liftedChoose (os : Os) (started : os.Started) (H : Type) (enc : TypeId × Value → H) :
    ReturnsInHanded {} Tryz.checked os 5 .any (fun w args => (Rows.fnExactChooseSpec.pre enc Tryz.prog Tryz.f5 [] false w args ∧ laidMetH Tryz.prog lay5 w) ∧ sizedMet enc Tryz.prog Tryz.f5 (OpenSpec.ofChange Rows.fnExactChooseSpec) false w args)
      (Rows.fnExactChooseSpec.post enc Tryz.prog Tryz.f5 false true false false) := by
  refine lifted_shaped (C := Tryz.checked) (X := fun w _ => laidMetH Tryz.prog lay5 w) (fun _ _ _ hh h => h.of_heap hh) own started (by kernel_rfl) Tryz.func5
    (ChangeSpec.witness_shaped (enc := enc) (C := Tryz.checked) (os := os) (X := fun w _ => laidMetH Tryz.prog lay5 w) false (World.doorLaid Tryz.prog 4000 os) #[.slice none 0 0, .int .i64 0, .int .i64 0] 8 rfl (World.shaped_of_RefB (by kernel_rfl) (by kernel_rfl)) (by kernel_rfl) (by kernel_rfl) (by kernel_rfl) (door_met os _)) ?_
  intro W base args ds gs before hval0 hW hL hsh
  have hval : ∀ (j : Nat) t v, Tryz.f5.params[j]? = some t → args[j]? = some v → Value.okWide Tryz.prog W .any base t v := hval0
  have hW' := hW
  obtain ⟨p, q, hA0, hV, rfl, _, _⟩ := hW
  have hA : DataW.TrodAll enc Tryz.prog W 0 (fun _ => true) true Tryz.f5.params.toList args.toList ds p := hA0
  rw [paramsChoose] at hA hval
  obtain ⟨v0, v1, v2, d0, d1, d2, p0, p1, p2, rfl, rfl, rfl, h0, h1, h2⟩ := trodAll_three hA
  obtain ⟨rfl, rfl⟩ := trodVars_none hV
  obtain ⟨now, rfl, rfl, rfl, _⟩ := open_int Tryz.underlying3 (hval 1 3 v1 rfl rfl) h1
  obtain ⟨draw, rfl, rfl, rfl, _⟩ := open_int Tryz.underlying3 (hval 2 3 v2 rfl rfl) h2
  obtain ⟨a0, len, cap, rfl⟩ := okWide_slice Tryz.underlying22 (hval 0 22 v0 rfl rfl)
  obtain ⟨r, hr1, hr2⟩ := arg_cell (n := 4) (by kernel_rfl) (by kernel_rfl) rfl h0
  obtain ⟨l, rfl, hl, hx⟩ := peers_of_rv hr1
  obtain ⟨I, hg, hb⟩ := gh_of hL hsh
  have hmax : maxLen = 9223372036854775807 := rfl
  have hlaw := @law_Choose I l now draw (by omega) (fun p hp => by have := hx p hp; omega)
  refine (calls_of (v := .bool true) hlaw (fun g hgg => ⟨fun h => h, hg g hgg⟩) (fun g hgg => ⟨fun h => h, hb g hgg⟩) (.cons _ _ _ _ [] [] (.val _ _ hr2) (.cons _ _ _ _ [] [] (.val _ _ (.int _ _)) (.cons _ _ _ _ [] [] (.val _ _ (.int _ _)) .nil))) (fun L w u hu => by cases hu; rfl)).mono fun e W' ⟨he, hbl⟩ => ?_
  exact ⟨_, he, post_true laidOut rfl Tryz.underlying4 rfl (by kernel_rfl) rfl hW' hbl⟩

theorem rowChoose : Rows.FnExactChooseSaid :=
  OpenClaim.holds_of_wide 5 Tryz.f5 rfl rfl rfl rfl rfl rfl rfl ⟨rfl, rfl, rfl, rfl, rfl⟩ rfl rfl rfl rfl rfl (by kernel_rfl) Tryz.func5 (by kernel_rfl)
    (of_decide_eq_true (by kernel_rfl)) (by unfold Func.isWrapper; first | (rw [if_pos (by decide +kernel)]; kernel_rfl) | (rw [if_neg (by decide +kernel)]; exact ⟨rfl, rfl⟩))
    (fun os started H enc _ => liftedChoose os started H enc)
end Go.Proofs.YtmpcaeidpofoiaaGreatDoor
end

/- THE CARD of 'laws.FnExactChoose': for every input the call returns true, and each argument reads as it did; the listed variables of the library are tied to the program's text. -/
section
set_option maxRecDepth 100000
namespace Go.Proofs.YtmpcaeidpofoiaaGreatDoor
open Go

theorem choose_card : Rows.FnExactChooseCardSaid :=
  Claim7.holds_tied_plain_at .later [] [.data, .data, .data, .sentinel, .sentinel] true (true, "103f06081cd347f41dc7823dfdcf71e69e371868965f81f15176f72846038628") true
    rowChoose (fun _ h => by cases h) (by kernel_rfl) (fun _ h => by cases h) fnExactChoose_row_tie rfl ⟨rfl, rfl⟩ (by kernel_rfl) rfl
    (fun f fn hf hfn => by
      obtain rfl : f = 5 := Option.some.inj ((show Tryz.prog.funcNamed "loop.example/g00779/laws.FnExactChoose" = some 5 by kernel_rfl).symm.trans hf) |>.symm
      obtain rfl : fn = Tryz.f5 := (Option.some.inj (Tryz.func5.symm.trans hfn)).symm
      exact ⟨by kernel_rfl, fun j t ht => by
        rw [paramsChoose] at ht
        match j, ht with
        | 0, ht =>
          obtain rfl : 22 = t := by simpa using ht
          exact (show Tryz.prog.wantsStandIn 22 = false by kernel_rfl)
        | 1, ht =>
          obtain rfl : 3 = t := by simpa using ht
          exact (show Tryz.prog.wantsStandIn 3 = false by kernel_rfl)
        | 2, ht =>
          obtain rfl : 3 = t := by simpa using ht
          exact (show Tryz.prog.wantsStandIn 3 = false by kernel_rfl)
        | j + 3, ht => simp at ht⟩)
    (by kernel_rfl)
end Go.Proofs.YtmpcaeidpofoiaaGreatDoor
end
