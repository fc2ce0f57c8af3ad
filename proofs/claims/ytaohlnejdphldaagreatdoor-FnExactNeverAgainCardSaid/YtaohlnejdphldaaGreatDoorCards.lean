/-
  DERIVED. GIVEN WITH THE SEED: THE CARDS: each row of YtaohlnejdphldaaGreatDoorRows.lean that lists a variable, with what it lists TIED to the program's text (the seventh form; the later family's looks); each row that meets fmt, with fmt's text TOLD by the authors' own Lean function (tested against real Go, not proved from fmt's source: count such statements apart). THE CARD IS WHAT COUNTS. Prove the row's statement (the work); the ties are given (YtaohlnejdphldaaGreatDoorTie.lean); close each card by the builder's one call (the guide's Derived/Test/ToyasCard.lean, 'card_holds'). Laid BY PROGRAM, IN A SANDBOX (cutbox-door.mjs). By AI agents, Wed Nov 11 2026. No macro, syntax, notation, axiom, sorry.
-/
import Derived.Test.YtaohlnejdphldaaGreatDoorRows
import GoSem.ClaimSeven
namespace Go.Proofs.YtaohlnejdphldaaGreatDoor
namespace Rows

/-- THE TIED CARD OF 'laws.FnExactAcceptedOf'. -/
def fnExactAcceptedOfCard : Claim7 := { stood := { row := fnExactAcceptedOfRow, standIns := [], harness := (true, "7fb74b68752ed7b2d68f9e56d830967882877d14b697e7be9412e3ef2715ee28"), looks := true }, kinds := [], alts := [], laidByText := true, laidKinds := [.data, .data, .data, .sentinel, .sentinel], laidTests := true, laidLooks := .later }
def FnExactAcceptedOfCardSaid : Prop := Claim7.holds Tryz.pinned (.plain (OpenSpec.ofChange fnExactAcceptedOfSpec)) fnExactAcceptedOfCard

/-- THE TIED CARD OF 'laws.FnExactLossesOf'. -/
def fnExactLossesOfCard : Claim7 := { stood := { row := fnExactLossesOfRow, standIns := [], harness := (true, "7fb74b68752ed7b2d68f9e56d830967882877d14b697e7be9412e3ef2715ee28"), looks := true }, kinds := [], alts := [], laidByText := true, laidKinds := [.data, .data, .data, .sentinel, .sentinel], laidTests := true, laidLooks := .later }
def FnExactLossesOfCardSaid : Prop := Claim7.holds Tryz.pinned (.plain (OpenSpec.ofChange fnExactLossesOfSpec)) fnExactLossesOfCard

/-- THE TIED CARD OF 'laws.FnExactDueAt'. -/
def fnExactDueAtCard : Claim7 := { stood := { row := fnExactDueAtRow, standIns := [], harness := (true, "7fb74b68752ed7b2d68f9e56d830967882877d14b697e7be9412e3ef2715ee28"), looks := true }, kinds := [], alts := [], laidByText := true, laidKinds := [.data, .data, .data, .sentinel, .sentinel], laidTests := true, laidLooks := .later }
def FnExactDueAtCardSaid : Prop := Claim7.holds Tryz.pinned (.plain (OpenSpec.ofChange fnExactDueAtSpec)) fnExactDueAtCard

/-- THE TIED CARD OF 'laws.FnExactSamePipe'. -/
def fnExactSamePipeCard : Claim7 := { stood := { row := fnExactSamePipeRow, standIns := [], harness := (true, "7fb74b68752ed7b2d68f9e56d830967882877d14b697e7be9412e3ef2715ee28"), looks := true }, kinds := [], alts := [], laidByText := true, laidKinds := [.data, .data, .data, .sentinel, .sentinel], laidTests := true, laidLooks := .later }
def FnExactSamePipeCardSaid : Prop := Claim7.holds Tryz.pinned (.plain (OpenSpec.ofChange fnExactSamePipeSpec)) fnExactSamePipeCard

/-- THE TIED CARD OF 'laws.FnExactFateOf'. -/
def fnExactFateOfCard : Claim7 := { stood := { row := fnExactFateOfRow, standIns := [], harness := (true, "7fb74b68752ed7b2d68f9e56d830967882877d14b697e7be9412e3ef2715ee28"), looks := true }, kinds := [], alts := [], laidByText := true, laidKinds := [.data, .data, .data, .sentinel, .sentinel], laidTests := true, laidLooks := .later }
def FnExactFateOfCardSaid : Prop := Claim7.holds Tryz.pinned (.plain (OpenSpec.ofChange fnExactFateOfSpec)) fnExactFateOfCard

/-- THE TIED CARD OF 'laws.FnExactNeverAgain'. -/
def fnExactNeverAgainCard : Claim7 := { stood := { row := fnExactNeverAgainRow, standIns := [], harness := (true, "7fb74b68752ed7b2d68f9e56d830967882877d14b697e7be9412e3ef2715ee28"), looks := true }, kinds := [], alts := [], laidByText := true, laidKinds := [.data, .data, .data, .sentinel, .sentinel], laidTests := true, laidLooks := .later }
def FnExactNeverAgainCardSaid : Prop := Claim7.holds Tryz.pinned (.plain (OpenSpec.ofChange fnExactNeverAgainSpec)) fnExactNeverAgainCard

/-- THE SECOND FORM's CARD OF 'laws.FnExactAcceptedOf'. -/
def fnExactAcceptedOfUptoCard : Claim7 := { stood := { row := fnExactAcceptedOfUptoRow, standIns := [], harness := (true, "7fb74b68752ed7b2d68f9e56d830967882877d14b697e7be9412e3ef2715ee28"), looks := true }, kinds := [], alts := [], laidByText := true, laidKinds := [.data, .data, .data, .sentinel, .sentinel], laidTests := true, laidLooks := .later }
def FnExactAcceptedOfUptoCardSaid : Prop := Claim7.holds Tryz.pinned (.plain (OpenSpec.upto fnExactAcceptedOfSpec)) fnExactAcceptedOfUptoCard

/-- THE SECOND FORM's CARD OF 'laws.FnExactLossesOf'. -/
def fnExactLossesOfUptoCard : Claim7 := { stood := { row := fnExactLossesOfUptoRow, standIns := [], harness := (true, "7fb74b68752ed7b2d68f9e56d830967882877d14b697e7be9412e3ef2715ee28"), looks := true }, kinds := [], alts := [], laidByText := true, laidKinds := [.data, .data, .data, .sentinel, .sentinel], laidTests := true, laidLooks := .later }
def FnExactLossesOfUptoCardSaid : Prop := Claim7.holds Tryz.pinned (.plain (OpenSpec.upto fnExactLossesOfSpec)) fnExactLossesOfUptoCard

/-- THE SECOND FORM's CARD OF 'laws.FnExactDueAt'. -/
def fnExactDueAtUptoCard : Claim7 := { stood := { row := fnExactDueAtUptoRow, standIns := [], harness := (true, "7fb74b68752ed7b2d68f9e56d830967882877d14b697e7be9412e3ef2715ee28"), looks := true }, kinds := [], alts := [], laidByText := true, laidKinds := [.data, .data, .data, .sentinel, .sentinel], laidTests := true, laidLooks := .later }
def FnExactDueAtUptoCardSaid : Prop := Claim7.holds Tryz.pinned (.plain (OpenSpec.upto fnExactDueAtSpec)) fnExactDueAtUptoCard

/-- THE SECOND FORM's CARD OF 'laws.FnExactSamePipe'. -/
def fnExactSamePipeUptoCard : Claim7 := { stood := { row := fnExactSamePipeUptoRow, standIns := [], harness := (true, "7fb74b68752ed7b2d68f9e56d830967882877d14b697e7be9412e3ef2715ee28"), looks := true }, kinds := [], alts := [], laidByText := true, laidKinds := [.data, .data, .data, .sentinel, .sentinel], laidTests := true, laidLooks := .later }
def FnExactSamePipeUptoCardSaid : Prop := Claim7.holds Tryz.pinned (.plain (OpenSpec.upto fnExactSamePipeSpec)) fnExactSamePipeUptoCard

/-- THE SECOND FORM's CARD OF 'laws.FnExactFateOf'. -/
def fnExactFateOfUptoCard : Claim7 := { stood := { row := fnExactFateOfUptoRow, standIns := [], harness := (true, "7fb74b68752ed7b2d68f9e56d830967882877d14b697e7be9412e3ef2715ee28"), looks := true }, kinds := [], alts := [], laidByText := true, laidKinds := [.data, .data, .data, .sentinel, .sentinel], laidTests := true, laidLooks := .later }
def FnExactFateOfUptoCardSaid : Prop := Claim7.holds Tryz.pinned (.plain (OpenSpec.upto fnExactFateOfSpec)) fnExactFateOfUptoCard

/-- THE SECOND FORM's CARD OF 'laws.FnExactNeverAgain'. -/
def fnExactNeverAgainUptoCard : Claim7 := { stood := { row := fnExactNeverAgainUptoRow, standIns := [], harness := (true, "7fb74b68752ed7b2d68f9e56d830967882877d14b697e7be9412e3ef2715ee28"), looks := true }, kinds := [], alts := [], laidByText := true, laidKinds := [.data, .data, .data, .sentinel, .sentinel], laidTests := true, laidLooks := .later }
def FnExactNeverAgainUptoCardSaid : Prop := Claim7.holds Tryz.pinned (.plain (OpenSpec.upto fnExactNeverAgainSpec)) fnExactNeverAgainUptoCard
end Rows
end Go.Proofs.YtaohlnejdphldaaGreatDoor
