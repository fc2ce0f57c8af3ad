/-
  DERIVED. GIVEN WITH THE SEED: THE CARDS: each row of YtmpcaeidpofoiaaGreatDoorRows.lean that lists a variable, with what it lists TIED to the program's text (the seventh form; the later family's looks); each row that meets fmt, with fmt's text TOLD by the authors' own Lean function (tested against real Go, not proved from fmt's source: count such statements apart). THE CARD IS WHAT COUNTS. Prove the row's statement (the work); the ties are given (YtmpcaeidpofoiaaGreatDoorTie.lean); close each card by the builder's one call (the guide's Derived/Test/ToyasCard.lean, 'card_holds'). Laid BY PROGRAM, IN A SANDBOX (cutbox-door.mjs). By AI agents, Wed Nov 11 2026. No macro, syntax, notation, axiom, sorry.
-/
import Derived.Test.YtmpcaeidpofoiaaGreatDoorRows
import GoSem.ClaimSeven
namespace Go.Proofs.YtmpcaeidpofoiaaGreatDoor
namespace Rows

/-- THE TIED CARD OF 'laws.FnExactNextWake'. -/
def fnExactNextWakeCard : Claim7 := { stood := { row := fnExactNextWakeRow, standIns := [], harness := (true, "103f06081cd347f41dc7823dfdcf71e69e371868965f81f15176f72846038628"), looks := true }, kinds := [], alts := [], laidByText := true, laidKinds := [.data, .data, .data, .sentinel, .sentinel], laidTests := true, laidLooks := .later }
def FnExactNextWakeCardSaid : Prop := Claim7.holds Tryz.pinned (.plain (OpenSpec.ofChange fnExactNextWakeSpec)) fnExactNextWakeCard

/-- THE TIED CARD OF 'laws.FnExactReadParcels'. -/
def fnExactReadParcelsCard : Claim7 := { stood := { row := fnExactReadParcelsRow, standIns := [], harness := (true, "103f06081cd347f41dc7823dfdcf71e69e371868965f81f15176f72846038628"), looks := true }, kinds := [], alts := [], laidByText := true, laidKinds := [.data, .data, .data, .sentinel, .sentinel], laidTests := true, laidLooks := .later }
def FnExactReadParcelsCardSaid : Prop := Claim7.holds Tryz.pinned (.plain (OpenSpec.ofChange fnExactReadParcelsSpec)) fnExactReadParcelsCard

/-- THE TIED CARD OF 'laws.FnExactChoose'. -/
def fnExactChooseCard : Claim7 := { stood := { row := fnExactChooseRow, standIns := [], harness := (true, "103f06081cd347f41dc7823dfdcf71e69e371868965f81f15176f72846038628"), looks := true }, kinds := [], alts := [], laidByText := true, laidKinds := [.data, .data, .data, .sentinel, .sentinel], laidTests := true, laidLooks := .later }
def FnExactChooseCardSaid : Prop := Claim7.holds Tryz.pinned (.plain (OpenSpec.ofChange fnExactChooseSpec)) fnExactChooseCard

/-- THE TIED CARD OF 'laws.FnExactAlikeOutside'. -/
def fnExactAlikeOutsideCard : Claim7 := { stood := { row := fnExactAlikeOutsideRow, standIns := [], harness := (true, "103f06081cd347f41dc7823dfdcf71e69e371868965f81f15176f72846038628"), looks := true }, kinds := [], alts := [], laidByText := true, laidKinds := [.data, .data, .data, .sentinel, .sentinel], laidTests := true, laidLooks := .later }
def FnExactAlikeOutsideCardSaid : Prop := Claim7.holds Tryz.pinned (.plain (OpenSpec.ofChange fnExactAlikeOutsideSpec)) fnExactAlikeOutsideCard

/-- THE TIED CARD OF 'laws.FnExactPeerWorks'. -/
def fnExactPeerWorksCard : Claim7 := { stood := { row := fnExactPeerWorksRow, standIns := [], harness := (true, "103f06081cd347f41dc7823dfdcf71e69e371868965f81f15176f72846038628"), looks := true }, kinds := [], alts := [], laidByText := true, laidKinds := [.data, .data, .data, .sentinel, .sentinel], laidTests := true, laidLooks := .later }
def FnExactPeerWorksCardSaid : Prop := Claim7.holds Tryz.pinned (.plain (OpenSpec.ofChange fnExactPeerWorksSpec)) fnExactPeerWorksCard

/-- THE SECOND FORM's CARD OF 'laws.FnExactNextWake'. -/
def fnExactNextWakeUptoCard : Claim7 := { stood := { row := fnExactNextWakeUptoRow, standIns := [], harness := (true, "103f06081cd347f41dc7823dfdcf71e69e371868965f81f15176f72846038628"), looks := true }, kinds := [], alts := [], laidByText := true, laidKinds := [.data, .data, .data, .sentinel, .sentinel], laidTests := true, laidLooks := .later }
def FnExactNextWakeUptoCardSaid : Prop := Claim7.holds Tryz.pinned (.plain (OpenSpec.upto fnExactNextWakeSpec)) fnExactNextWakeUptoCard

/-- THE SECOND FORM's CARD OF 'laws.FnExactReadParcels'. -/
def fnExactReadParcelsUptoCard : Claim7 := { stood := { row := fnExactReadParcelsUptoRow, standIns := [], harness := (true, "103f06081cd347f41dc7823dfdcf71e69e371868965f81f15176f72846038628"), looks := true }, kinds := [], alts := [], laidByText := true, laidKinds := [.data, .data, .data, .sentinel, .sentinel], laidTests := true, laidLooks := .later }
def FnExactReadParcelsUptoCardSaid : Prop := Claim7.holds Tryz.pinned (.plain (OpenSpec.upto fnExactReadParcelsSpec)) fnExactReadParcelsUptoCard

/-- THE SECOND FORM's CARD OF 'laws.FnExactChoose'. -/
def fnExactChooseUptoCard : Claim7 := { stood := { row := fnExactChooseUptoRow, standIns := [], harness := (true, "103f06081cd347f41dc7823dfdcf71e69e371868965f81f15176f72846038628"), looks := true }, kinds := [], alts := [], laidByText := true, laidKinds := [.data, .data, .data, .sentinel, .sentinel], laidTests := true, laidLooks := .later }
def FnExactChooseUptoCardSaid : Prop := Claim7.holds Tryz.pinned (.plain (OpenSpec.upto fnExactChooseSpec)) fnExactChooseUptoCard

/-- THE SECOND FORM's CARD OF 'laws.FnExactAlikeOutside'. -/
def fnExactAlikeOutsideUptoCard : Claim7 := { stood := { row := fnExactAlikeOutsideUptoRow, standIns := [], harness := (true, "103f06081cd347f41dc7823dfdcf71e69e371868965f81f15176f72846038628"), looks := true }, kinds := [], alts := [], laidByText := true, laidKinds := [.data, .data, .data, .sentinel, .sentinel], laidTests := true, laidLooks := .later }
def FnExactAlikeOutsideUptoCardSaid : Prop := Claim7.holds Tryz.pinned (.plain (OpenSpec.upto fnExactAlikeOutsideSpec)) fnExactAlikeOutsideUptoCard

/-- THE SECOND FORM's CARD OF 'laws.FnExactPeerWorks'. -/
def fnExactPeerWorksUptoCard : Claim7 := { stood := { row := fnExactPeerWorksUptoRow, standIns := [], harness := (true, "103f06081cd347f41dc7823dfdcf71e69e371868965f81f15176f72846038628"), looks := true }, kinds := [], alts := [], laidByText := true, laidKinds := [.data, .data, .data, .sentinel, .sentinel], laidTests := true, laidLooks := .later }
def FnExactPeerWorksUptoCardSaid : Prop := Claim7.holds Tryz.pinned (.plain (OpenSpec.upto fnExactPeerWorksSpec)) fnExactPeerWorksUptoCard
end Rows
end Go.Proofs.YtmpcaeidpofoiaaGreatDoor
