/-
  DERIVED. GIVEN WITH THE SEED: THE CARDS: each row of YtgdapgcjmfeocaaGreatDoorRows.lean that lists a variable, with what it lists TIED to the program's text (the seventh form; the later family's looks); each row that meets fmt, with fmt's text TOLD by the authors' own Lean function (tested against real Go, not proved from fmt's source: count such statements apart). THE CARD IS WHAT COUNTS. Prove the row's statement (the work); the ties are given (YtgdapgcjmfeocaaGreatDoorTie.lean); close each card by the builder's one call (the guide's Derived/Test/ToyasCard.lean, 'card_holds'). Laid BY PROGRAM, IN A SANDBOX (cutbox-door.mjs). By AI agents, Wed Nov 11 2026. No macro, syntax, notation, axiom, sorry.
-/
import Derived.Test.YtgdapgcjmfeocaaGreatDoorRows
import GoSem.ClaimSeven
namespace Go.Proofs.YtgdapgcjmfeocaaGreatDoor
namespace Rows

/-- THE TIED CARD OF 'laws.FnExactFateOf'. -/
def fnExactFateOfCard : Claim7 := { stood := { row := fnExactFateOfRow, standIns := [], harness := (true, "2e2573802ff5d0b2756901822aa9ff57152d18fe02fe994b4a45ed53894a6ecc"), looks := true }, kinds := [], alts := [], laidByText := true, laidKinds := [.data, .data, .data, .sentinel, .sentinel], laidTests := true, laidLooks := .later }
def FnExactFateOfCardSaid : Prop := Claim7.holds Tryz.pinned (.plain (OpenSpec.ofChange fnExactFateOfSpec)) fnExactFateOfCard

/-- THE TIED CARD OF 'laws.FnExactAtMostOnce'. -/
def fnExactAtMostOnceCard : Claim7 := { stood := { row := fnExactAtMostOnceRow, standIns := [], harness := (true, "2e2573802ff5d0b2756901822aa9ff57152d18fe02fe994b4a45ed53894a6ecc"), looks := true }, kinds := [], alts := [], laidByText := true, laidKinds := [.data, .data, .data, .sentinel, .sentinel], laidTests := true, laidLooks := .later }
def FnExactAtMostOnceCardSaid : Prop := Claim7.holds Tryz.pinned (.plain (OpenSpec.ofChange fnExactAtMostOnceSpec)) fnExactAtMostOnceCard

/-- THE TIED CARD OF 'laws.FnExactEntriesOf'. -/
def fnExactEntriesOfCard : Claim7 := { stood := { row := fnExactEntriesOfRow, standIns := [], harness := (true, "2e2573802ff5d0b2756901822aa9ff57152d18fe02fe994b4a45ed53894a6ecc"), looks := true }, kinds := [], alts := [], laidByText := true, laidKinds := [.data, .data, .data, .sentinel, .sentinel], laidTests := true, laidLooks := .later }
def FnExactEntriesOfCardSaid : Prop := Claim7.holds Tryz.pinned (.plain (OpenSpec.ofChange fnExactEntriesOfSpec)) fnExactEntriesOfCard

/-- THE TIED CARD OF 'laws.FnExactIdsOf'. -/
def fnExactIdsOfCard : Claim7 := { stood := { row := fnExactIdsOfRow, standIns := [], harness := (true, "2e2573802ff5d0b2756901822aa9ff57152d18fe02fe994b4a45ed53894a6ecc"), looks := true }, kinds := [], alts := [], laidByText := true, laidKinds := [.data, .data, .data, .sentinel, .sentinel], laidTests := true, laidLooks := .later }
def FnExactIdsOfCardSaid : Prop := Claim7.holds Tryz.pinned (.plain (OpenSpec.ofChange fnExactIdsOfSpec)) fnExactIdsOfCard

/-- THE TIED CARD OF 'laws.FnExactCountFates'. -/
def fnExactCountFatesCard : Claim7 := { stood := { row := fnExactCountFatesRow, standIns := [], harness := (true, "2e2573802ff5d0b2756901822aa9ff57152d18fe02fe994b4a45ed53894a6ecc"), looks := true }, kinds := [], alts := [], laidByText := true, laidKinds := [.data, .data, .data, .sentinel, .sentinel], laidTests := true, laidLooks := .later }
def FnExactCountFatesCardSaid : Prop := Claim7.holds Tryz.pinned (.plain (OpenSpec.ofChange fnExactCountFatesSpec)) fnExactCountFatesCard

/-- THE TIED CARD OF 'laws.FnExactOneFate'. -/
def fnExactOneFateCard : Claim7 := { stood := { row := fnExactOneFateRow, standIns := [], harness := (true, "2e2573802ff5d0b2756901822aa9ff57152d18fe02fe994b4a45ed53894a6ecc"), looks := true }, kinds := [], alts := [], laidByText := true, laidKinds := [.data, .data, .data, .sentinel, .sentinel], laidTests := true, laidLooks := .later }
def FnExactOneFateCardSaid : Prop := Claim7.holds Tryz.pinned (.plain (OpenSpec.ofChange fnExactOneFateSpec)) fnExactOneFateCard

/-- THE SECOND FORM's CARD OF 'laws.FnExactFateOf'. -/
def fnExactFateOfUptoCard : Claim7 := { stood := { row := fnExactFateOfUptoRow, standIns := [], harness := (true, "2e2573802ff5d0b2756901822aa9ff57152d18fe02fe994b4a45ed53894a6ecc"), looks := true }, kinds := [], alts := [], laidByText := true, laidKinds := [.data, .data, .data, .sentinel, .sentinel], laidTests := true, laidLooks := .later }
def FnExactFateOfUptoCardSaid : Prop := Claim7.holds Tryz.pinned (.plain (OpenSpec.upto fnExactFateOfSpec)) fnExactFateOfUptoCard

/-- THE SECOND FORM's CARD OF 'laws.FnExactAtMostOnce'. -/
def fnExactAtMostOnceUptoCard : Claim7 := { stood := { row := fnExactAtMostOnceUptoRow, standIns := [], harness := (true, "2e2573802ff5d0b2756901822aa9ff57152d18fe02fe994b4a45ed53894a6ecc"), looks := true }, kinds := [], alts := [], laidByText := true, laidKinds := [.data, .data, .data, .sentinel, .sentinel], laidTests := true, laidLooks := .later }
def FnExactAtMostOnceUptoCardSaid : Prop := Claim7.holds Tryz.pinned (.plain (OpenSpec.upto fnExactAtMostOnceSpec)) fnExactAtMostOnceUptoCard

/-- THE SECOND FORM's CARD OF 'laws.FnExactEntriesOf'. -/
def fnExactEntriesOfUptoCard : Claim7 := { stood := { row := fnExactEntriesOfUptoRow, standIns := [], harness := (true, "2e2573802ff5d0b2756901822aa9ff57152d18fe02fe994b4a45ed53894a6ecc"), looks := true }, kinds := [], alts := [], laidByText := true, laidKinds := [.data, .data, .data, .sentinel, .sentinel], laidTests := true, laidLooks := .later }
def FnExactEntriesOfUptoCardSaid : Prop := Claim7.holds Tryz.pinned (.plain (OpenSpec.upto fnExactEntriesOfSpec)) fnExactEntriesOfUptoCard

/-- THE SECOND FORM's CARD OF 'laws.FnExactIdsOf'. -/
def fnExactIdsOfUptoCard : Claim7 := { stood := { row := fnExactIdsOfUptoRow, standIns := [], harness := (true, "2e2573802ff5d0b2756901822aa9ff57152d18fe02fe994b4a45ed53894a6ecc"), looks := true }, kinds := [], alts := [], laidByText := true, laidKinds := [.data, .data, .data, .sentinel, .sentinel], laidTests := true, laidLooks := .later }
def FnExactIdsOfUptoCardSaid : Prop := Claim7.holds Tryz.pinned (.plain (OpenSpec.upto fnExactIdsOfSpec)) fnExactIdsOfUptoCard

/-- THE SECOND FORM's CARD OF 'laws.FnExactCountFates'. -/
def fnExactCountFatesUptoCard : Claim7 := { stood := { row := fnExactCountFatesUptoRow, standIns := [], harness := (true, "2e2573802ff5d0b2756901822aa9ff57152d18fe02fe994b4a45ed53894a6ecc"), looks := true }, kinds := [], alts := [], laidByText := true, laidKinds := [.data, .data, .data, .sentinel, .sentinel], laidTests := true, laidLooks := .later }
def FnExactCountFatesUptoCardSaid : Prop := Claim7.holds Tryz.pinned (.plain (OpenSpec.upto fnExactCountFatesSpec)) fnExactCountFatesUptoCard

/-- THE SECOND FORM's CARD OF 'laws.FnExactOneFate'. -/
def fnExactOneFateUptoCard : Claim7 := { stood := { row := fnExactOneFateUptoRow, standIns := [], harness := (true, "2e2573802ff5d0b2756901822aa9ff57152d18fe02fe994b4a45ed53894a6ecc"), looks := true }, kinds := [], alts := [], laidByText := true, laidKinds := [.data, .data, .data, .sentinel, .sentinel], laidTests := true, laidLooks := .later }
def FnExactOneFateUptoCardSaid : Prop := Claim7.holds Tryz.pinned (.plain (OpenSpec.upto fnExactOneFateSpec)) fnExactOneFateUptoCard
end Rows
end Go.Proofs.YtgdapgcjmfeocaaGreatDoor
