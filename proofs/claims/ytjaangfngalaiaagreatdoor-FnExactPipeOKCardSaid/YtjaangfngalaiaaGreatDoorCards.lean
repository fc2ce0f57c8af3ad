/-
  DERIVED. GIVEN WITH THE SEED: THE CARDS: each row of YtjaangfngalaiaaGreatDoorRows.lean that lists a variable, with what it lists TIED to the program's text (the seventh form; the later family's looks); each row that meets fmt, with fmt's text TOLD by the authors' own Lean function (tested against real Go, not proved from fmt's source: count such statements apart). THE CARD IS WHAT COUNTS. Prove the row's statement (the work); the ties are given (YtjaangfngalaiaaGreatDoorTie.lean); close each card by the builder's one call (the guide's Derived/Test/ToyasCard.lean, 'card_holds'). Laid BY PROGRAM, IN A SANDBOX (cutbox-door.mjs). By AI agents, Wed Nov 11 2026. No macro, syntax, notation, axiom, sorry.
-/
import Derived.Test.YtjaangfngalaiaaGreatDoorRows
import GoSem.ClaimSeven
namespace Go.Proofs.YtjaangfngalaiaaGreatDoor
namespace Rows

/-- THE TIED CARD OF 'laws.FnExactPipeOK'. -/
def fnExactPipeOKCard : Claim7 := { stood := { row := fnExactPipeOKRow, standIns := [], harness := (true, "21bc49812dbbf52f03ace3a3950f35bd10d84f533582bff0f5eee806ae1945c3"), looks := true }, kinds := [], alts := [], laidByText := true, laidKinds := [.data, .data, .data, .sentinel, .sentinel], laidTests := true, laidLooks := .later }
def FnExactPipeOKCardSaid : Prop := Claim7.holds Tryz.pinned (.plain (OpenSpec.ofChange fnExactPipeOKSpec)) fnExactPipeOKCard

/-- THE TIED CARD OF 'laws.FnExactDueAt'. -/
def fnExactDueAtCard : Claim7 := { stood := { row := fnExactDueAtRow, standIns := [], harness := (true, "21bc49812dbbf52f03ace3a3950f35bd10d84f533582bff0f5eee806ae1945c3"), looks := true }, kinds := [], alts := [], laidByText := true, laidKinds := [.data, .data, .data, .sentinel, .sentinel], laidTests := true, laidLooks := .later }
def FnExactDueAtCardSaid : Prop := Claim7.holds Tryz.pinned (.plain (OpenSpec.ofChange fnExactDueAtSpec)) fnExactDueAtCard

/-- THE TIED CARD OF 'laws.FnExactAcceptedOf'. -/
def fnExactAcceptedOfCard : Claim7 := { stood := { row := fnExactAcceptedOfRow, standIns := [], harness := (true, "21bc49812dbbf52f03ace3a3950f35bd10d84f533582bff0f5eee806ae1945c3"), looks := true }, kinds := [], alts := [], laidByText := true, laidKinds := [.data, .data, .data, .sentinel, .sentinel], laidTests := true, laidLooks := .later }
def FnExactAcceptedOfCardSaid : Prop := Claim7.holds Tryz.pinned (.plain (OpenSpec.ofChange fnExactAcceptedOfSpec)) fnExactAcceptedOfCard

/-- THE TIED CARD OF 'laws.FnExactLossesOf'. -/
def fnExactLossesOfCard : Claim7 := { stood := { row := fnExactLossesOfRow, standIns := [], harness := (true, "21bc49812dbbf52f03ace3a3950f35bd10d84f533582bff0f5eee806ae1945c3"), looks := true }, kinds := [], alts := [], laidByText := true, laidKinds := [.data, .data, .data, .sentinel, .sentinel], laidTests := true, laidLooks := .later }
def FnExactLossesOfCardSaid : Prop := Claim7.holds Tryz.pinned (.plain (OpenSpec.ofChange fnExactLossesOfSpec)) fnExactLossesOfCard

/-- THE SECOND FORM's CARD OF 'laws.FnExactPipeOK'. -/
def fnExactPipeOKUptoCard : Claim7 := { stood := { row := fnExactPipeOKUptoRow, standIns := [], harness := (true, "21bc49812dbbf52f03ace3a3950f35bd10d84f533582bff0f5eee806ae1945c3"), looks := true }, kinds := [], alts := [], laidByText := true, laidKinds := [.data, .data, .data, .sentinel, .sentinel], laidTests := true, laidLooks := .later }
def FnExactPipeOKUptoCardSaid : Prop := Claim7.holds Tryz.pinned (.plain (OpenSpec.upto fnExactPipeOKSpec)) fnExactPipeOKUptoCard

/-- THE SECOND FORM's CARD OF 'laws.FnExactDueAt'. -/
def fnExactDueAtUptoCard : Claim7 := { stood := { row := fnExactDueAtUptoRow, standIns := [], harness := (true, "21bc49812dbbf52f03ace3a3950f35bd10d84f533582bff0f5eee806ae1945c3"), looks := true }, kinds := [], alts := [], laidByText := true, laidKinds := [.data, .data, .data, .sentinel, .sentinel], laidTests := true, laidLooks := .later }
def FnExactDueAtUptoCardSaid : Prop := Claim7.holds Tryz.pinned (.plain (OpenSpec.upto fnExactDueAtSpec)) fnExactDueAtUptoCard

/-- THE SECOND FORM's CARD OF 'laws.FnExactAcceptedOf'. -/
def fnExactAcceptedOfUptoCard : Claim7 := { stood := { row := fnExactAcceptedOfUptoRow, standIns := [], harness := (true, "21bc49812dbbf52f03ace3a3950f35bd10d84f533582bff0f5eee806ae1945c3"), looks := true }, kinds := [], alts := [], laidByText := true, laidKinds := [.data, .data, .data, .sentinel, .sentinel], laidTests := true, laidLooks := .later }
def FnExactAcceptedOfUptoCardSaid : Prop := Claim7.holds Tryz.pinned (.plain (OpenSpec.upto fnExactAcceptedOfSpec)) fnExactAcceptedOfUptoCard

/-- THE SECOND FORM's CARD OF 'laws.FnExactLossesOf'. -/
def fnExactLossesOfUptoCard : Claim7 := { stood := { row := fnExactLossesOfUptoRow, standIns := [], harness := (true, "21bc49812dbbf52f03ace3a3950f35bd10d84f533582bff0f5eee806ae1945c3"), looks := true }, kinds := [], alts := [], laidByText := true, laidKinds := [.data, .data, .data, .sentinel, .sentinel], laidTests := true, laidLooks := .later }
def FnExactLossesOfUptoCardSaid : Prop := Claim7.holds Tryz.pinned (.plain (OpenSpec.upto fnExactLossesOfSpec)) fnExactLossesOfUptoCard
end Rows
end Go.Proofs.YtjaangfngalaiaaGreatDoor
