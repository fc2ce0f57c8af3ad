/- The caller's side of a call that is handed objects, all of them kept where they are. -/
import Derived.Test.YtgdapgcjmfeocaaGreatDoorPWaa
set_option linter.unusedVariables false
set_option linter.unusedSectionVars false
set_option linter.unusedSimpArgs false
set_option maxRecDepth 100000
namespace Go.PW
variable [GF]
open Go.RowKit

/-- The objects 0, 1, .. (n of them) under the names 900, 901, .. -/
def hands (n : Nat) (O : Nat → MObj) (i : Nat) : MObj := if 900 ≤ i ∧ i < 900 + n then O (i - 900) else .dead
def handPin (n : Nat) (i : Nat) : Bool := decide (900 ≤ i) && decide (i < 900 + n)
/-- The caller's names: of those the list's, of all others far ones. -/
def ioAs (as : List Nat) (i : Nat) : Nat := if 900 ≤ i ∧ i < 900 + as.length then as.getD (i - 900) 0 else 10000000 + (if i < 900 then i else i - as.length)
def koAs (as : List Nat) (x : Nat) : Option Nat := if x ∈ as then some (900 + as.idxOf x) else if 10000000 ≤ x then some (if x - 10000000 < 900 then x - 10000000 else x - 10000000 + as.length) else none
def farK (x : Nat) : Bool := decide (10000000 ≤ x)
def memAs (as : List Nat) (O : Nat → MObj) (f : Nat → MObj) : Nat → MObj := match as with
  | [] => f
  | a :: as => upd a (O 0) (memAs as (fun i => O (i + 1)) f)
theorem memAs_in : ∀ (as : List Nat) (O : Nat → MObj) (f : Nat → MObj) (x : Nat), memAs as O f x = if x ∈ as then O (as.idxOf x) else f x
  | [], O, f, x => by simp [memAs]
  | a :: as, O, f, x => by
    simp only [memAs, upd]
    by_cases h : x = a
    · subst h; simp
    · rw [if_neg h, memAs_in as _ f x]
      have h' : ¬ a = x := fun e => h e.symm
      by_cases hm : x ∈ as
      · rw [if_pos hm, if_pos (by simp [hm])]; have hb : (a == x) = false := by simp [h']
        simp [List.idxOf_cons, hb]
      · rw [if_neg hm, if_neg (by simp [h, hm])]

theorem koAs_io (as : List Nat) (hn : as.Nodup) (hl : ∀ a ∈ as, a < 10000000) (i : Nat) : koAs as (ioAs as i) = some i := by
  unfold ioAs
  by_cases h : 900 ≤ i ∧ i < 900 + as.length
  · rw [if_pos h]
    have hlt : i - 900 < as.length := by omega
    have e : as.getD (i - 900) 0 = as[i - 900] := by rw [List.getD_eq_getElem?_getD, List.getElem?_eq_getElem hlt]; rfl
    rw [e]
    unfold koAs
    rw [if_pos (List.getElem_mem hlt), hn.idxOf_getElem]
    exact congrArg some (by omega)
  · rw [if_neg h]
    generalize hy : 10000000 + (if i < 900 then i else i - as.length) = y
    have hy7 : 10000000 ≤ y := by omega
    unfold koAs
    have hm : ¬ y ∈ as := fun hm => by have := hl _ hm; omega
    rw [if_neg hm, if_pos hy7]
    by_cases h9 : i < 900
    · rw [if_pos h9] at hy
      rw [if_pos (by omega)]
      exact congrArg some (by omega)
    · rw [if_neg h9] at hy
      rw [if_neg (by omega)]
      exact congrArg some (by omega)
theorem ioAs_ko (as : List Nat) (x i : Nat) (h : koAs as x = some i) : x = ioAs as i := by
  unfold koAs at h
  by_cases hm : x ∈ as
  · rw [if_pos hm] at h
    obtain rfl := Option.some.inj h
    have hlt := List.idxOf_lt_length_iff.2 hm
    unfold ioAs
    rw [if_pos ⟨by omega, by omega⟩, show 900 + as.idxOf x - 900 = as.idxOf x by omega, List.getD_eq_getElem?_getD, List.getElem?_eq_getElem hlt]
    simp
  · rw [if_neg hm] at h
    split at h
    · obtain rfl := Option.some.inj h
      unfold ioAs
      by_cases h9 : x - 10000000 < 900
      · simp only [if_pos h9]
        rw [if_neg (by omega)]; omega
      · simp only [if_neg h9]
        rw [if_neg (by omega), if_neg (by omega)]; omega
    · cases h

theorem callM_as {P : Program} {st : St} {Ke : Kx (PV → St → Prop)} {kx : Kx (RV → St → Prop)} {d f : Nat} {ps ps0 : List PV} (as : List Nat) (O O' Oc Oc' : Nat → MObj) {out : PV} (hn : as.Nodup) (hl : ∀ a ∈ as, a < 10000000)
    (hps : ps = ps0.map (PV.ren (ioAs as))) (hm : ∀ j, j < as.length → st.mem (as.getD j 0) = Oc j) (hO : ∀ j, j < as.length → (O j).ren (ioAs as) = Oc j) (hO' : ∀ j, j < as.length → (O' j).ren (ioAs as) = Oc' j)
    (hlive : ∀ j, j < as.length → (O j).live = true) (hkind : ∀ j, j < as.length → (O' j).live = true → (O' j).kind = (O j).kind) (hbox : ∀ j cs, j < as.length → O' j = .box cs → as.getD j 0 < 1000)
    (h : CallMem P f ps0 (hands as.length O) (handPin as.length) out (hands as.length O'))
    (hK : Ke.k (out.ren (ioAs as)) ⟨fun x => (st.env x).kill farK, memAs as Oc' fun x => if 10000000 ≤ x then .dead else (st.mem x).kill farK⟩) : KC P st d f ps (Ke := Ke) (kx := kx) := by
  unfold KC
  refine .inr ?_
  have hin : ∀ i, (hands as.length O i).live = true → 900 ≤ i ∧ i < 900 + as.length := fun i hi => by
    unfold hands at hi; split at hi
    · assumption
    · cases hi
  have hio : ∀ j, j < as.length → ioAs as (900 + j) = as.getD j 0 := fun j hj => by
    unfold ioAs; rw [if_pos ⟨by omega, by omega⟩, show 900 + j - 900 = j by omega]
  have hkk : kapKill (koAs as) (handPin as.length) = farK := by
    funext x
    unfold kapKill koAs farK
    by_cases hx : x ∈ as
    · have := hl x hx
      have hlt := List.idxOf_lt_length_iff.2 hx
      rw [if_pos hx]
      simp only [handPin]
      rw [decide_eq_true (show 900 ≤ 900 + as.idxOf x by omega), decide_eq_true (show 900 + as.idxOf x < 900 + as.length by omega), decide_eq_false (show ¬ 10000000 ≤ x by omega)]
      rfl
    · rw [if_neg hx]
      by_cases h7 : 10000000 ≤ x
      · rw [if_pos h7, decide_eq_true h7]
        simp only [handPin]
        split
        · rw [decide_eq_false (show ¬ 900 ≤ x - 10000000 by omega)]; rfl
        · rw [decide_eq_false (show ¬ x - 10000000 + as.length < 900 + as.length by omega)]; simp
      · rw [if_neg h7, decide_eq_false h7]
  refine ⟨ps0, hands as.length O, hands as.length O', handPin as.length, out, ioAs as, koAs as, hps, koAs_io as hn hl, ioAs_ko as, fun i hi => ?_, fun i h1 h2 => ?_, fun i cs hi => ?_, fun i h1 h2 => ?_, h, ?_⟩
  · obtain ⟨j1, j2⟩ := hin i hi
    have e : i = 900 + (i - 900) := by omega
    have hj : i - 900 < as.length := by omega
    rw [e, hio _ hj, hm _ hj]
    unfold hands
    rw [if_pos ⟨by omega, by omega⟩, show 900 + (i - 900) - 900 = i - 900 by omega, hO _ hj]
  · by_cases hh : 900 ≤ i ∧ i < 900 + as.length
    · refine ⟨by simp [handPin, hh], ?_⟩
      unfold hands; rw [if_pos hh]; exact hlive _ (by omega)
    · unfold ioAs at h2; rw [if_neg hh] at h2; omega
  · unfold hands at hi
    split at hi
    · rename_i hh
      have e : i = 900 + (i - 900) := by omega
      rw [e, hio _ (by omega)]
      exact hbox _ cs (by omega) hi
    · cases hi
  · obtain ⟨j1, j2⟩ := hin i h1
    unfold hands at h2 ⊢
    rw [if_pos ⟨j1, j2⟩] at h2
    rw [if_pos ⟨j1, j2⟩, if_pos ⟨j1, j2⟩]
    exact hkind _ (by omega) h2
  · rw [hkk]
    have e : kapMem st (koAs as) (handPin as.length) (ioAs as) (hands as.length O') = memAs as Oc' fun x => if 10000000 ≤ x then .dead else (st.mem x).kill farK := by
      funext x
      rw [memAs_in]
      unfold kapMem
      rw [hkk]
      by_cases hx : x ∈ as
      · have hlt := List.idxOf_lt_length_iff.2 hx
        rw [if_pos hx]
        have : koAs as x = some (900 + as.idxOf x) := by unfold koAs; rw [if_pos hx]
        rw [this]
        simp only [hands]
        rw [if_pos ⟨by omega, by omega⟩, show 900 + as.idxOf x - 900 = as.idxOf x by omega, hO' _ hlt]
      · rw [if_neg hx]
        by_cases h7 : 10000000 ≤ x
        · rw [if_pos h7]
          have : koAs as x = some (if x - 10000000 < 900 then x - 10000000 else x - 10000000 + as.length) := by unfold koAs; rw [if_neg hx, if_pos h7]
          rw [this]
          simp only [hands]
          rw [if_neg (by split <;> omega)]; rfl
        · rw [if_neg h7]
          have : koAs as x = none := by unfold koAs; rw [if_neg hx, if_neg h7]
          rw [this]
    rw [e]
    exact hK
end Go.PW
