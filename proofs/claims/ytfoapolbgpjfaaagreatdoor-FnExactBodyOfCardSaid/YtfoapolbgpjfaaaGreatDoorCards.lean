/-
  DERIVED. GIVEN WITH THE SEED: THE CARDS: each row of YtfoapolbgpjfaaaGreatDoorRows.lean that lists a variable, with what it lists TIED to the program's text (the seventh form; the later family's looks); each row that meets fmt, with fmt's text TOLD by the authors' own Lean function (tested against real Go, not proved from fmt's source: count such statements apart). THE CARD IS WHAT COUNTS. Prove the row's statement (the work); the ties are given (YtfoapolbgpjfaaaGreatDoorTie.lean); close each card by the builder's one call (the guide's Derived/Test/ToyasCard.lean, 'card_holds'). Laid BY PROGRAM, IN A SANDBOX (cutbox-door.mjs). By AI agents, Wed Nov 11 2026. No macro, syntax, notation, axiom, sorry.
-/
import Derived.Test.YtfoapolbgpjfaaaGreatDoorRows
import GoSem.ClaimSeven
namespace Go.Proofs.YtfoapolbgpjfaaaGreatDoor
namespace Rows

/-- THE TIED CARD OF 'laws.FnExactReadParcels'. -/
def fnExactReadParcelsCard : Claim7 := { stood := { row := fnExactReadParcelsRow, standIns := [], harness := (true, "ac77757cf8e36a121016858653550d99e632a575f00785e5295a67301b5b6646"), looks := true }, kinds := [], alts := [], laidByText := true, laidKinds := [.data, .data, .data, .sentinel, .sentinel], laidTests := true, laidLooks := .later }
def FnExactReadParcelsCardSaid : Prop := Claim7.holds Tryz.pinned (.plain (OpenSpec.ofChange fnExactReadParcelsSpec)) fnExactReadParcelsCard

/-- THE TIED CARD OF 'laws.FnExactParcelsOf'. -/
def fnExactParcelsOfCard : Claim7 := { stood := { row := fnExactParcelsOfRow, standIns := [], harness := (true, "ac77757cf8e36a121016858653550d99e632a575f00785e5295a67301b5b6646"), looks := true }, kinds := [], alts := [], laidByText := true, laidKinds := [.data, .data, .data, .sentinel, .sentinel], laidTests := true, laidLooks := .later }
def FnExactParcelsOfCardSaid : Prop := Claim7.holds Tryz.pinned (.plain (OpenSpec.ofChange fnExactParcelsOfSpec)) fnExactParcelsOfCard

/-- THE TIED CARD OF 'laws.FnExactReceiveAll'. -/
def fnExactReceiveAllCard : Claim7 := { stood := { row := fnExactReceiveAllRow, standIns := [], harness := (true, "ac77757cf8e36a121016858653550d99e632a575f00785e5295a67301b5b6646"), looks := true }, kinds := [], alts := [], laidByText := true, laidKinds := [.data, .data, .data, .sentinel, .sentinel], laidTests := true, laidLooks := .later }
def FnExactReceiveAllCardSaid : Prop := Claim7.holds Tryz.pinned (.plain (OpenSpec.ofChange fnExactReceiveAllSpec)) fnExactReceiveAllCard

/-- THE TIED CARD OF 'laws.FnExactReceive'. -/
def fnExactReceiveCard : Claim7 := { stood := { row := fnExactReceiveRow, standIns := [], harness := (true, "ac77757cf8e36a121016858653550d99e632a575f00785e5295a67301b5b6646"), looks := true }, kinds := [], alts := [], laidByText := true, laidKinds := [.data, .data, .data, .sentinel, .sentinel], laidTests := true, laidLooks := .later }
def FnExactReceiveCardSaid : Prop := Claim7.holds Tryz.pinned (.plain (OpenSpec.ofChange fnExactReceiveSpec)) fnExactReceiveCard

/-- THE TIED CARD OF 'laws.FnExactReadPolicy'. -/
def fnExactReadPolicyCard : Claim7 := { stood := { row := fnExactReadPolicyRow, standIns := [], harness := (true, "ac77757cf8e36a121016858653550d99e632a575f00785e5295a67301b5b6646"), looks := true }, kinds := [], alts := [], laidByText := true, laidKinds := [.data, .data, .data, .data, .sentinel, .sentinel, .pinned], laidTests := true, laidLooks := .later }
def FnExactReadPolicyCardSaid : Prop := Claim7.holds Tryz.pinned (.plain (OpenSpec.ofChange fnExactReadPolicySpec)) fnExactReadPolicyCard

/-- THE TIED CARD OF 'laws.FnExactReadEndpoints'. -/
def fnExactReadEndpointsCard : Claim7 := { stood := { row := fnExactReadEndpointsRow, standIns := [], harness := (true, "ac77757cf8e36a121016858653550d99e632a575f00785e5295a67301b5b6646"), looks := true }, kinds := [], alts := [], laidByText := true, laidKinds := [.data, .data, .data, .data, .sentinel, .sentinel, .pinned], laidTests := true, laidLooks := .later }
def FnExactReadEndpointsCardSaid : Prop := Claim7.holds Tryz.pinned (.plain (OpenSpec.ofChange fnExactReadEndpointsSpec)) fnExactReadEndpointsCard

/-- THE TIED CARD OF 'laws.FnExactReadReportTo'. -/
def fnExactReadReportToCard : Claim7 := { stood := { row := fnExactReadReportToRow, standIns := [], harness := (true, "ac77757cf8e36a121016858653550d99e632a575f00785e5295a67301b5b6646"), looks := true }, kinds := [], alts := [], laidByText := true, laidKinds := [.data, .data, .data, .sentinel, .sentinel], laidTests := true, laidLooks := .later }
def FnExactReadReportToCardSaid : Prop := Claim7.holds Tryz.pinned (.plain (OpenSpec.ofChange fnExactReadReportToSpec)) fnExactReadReportToCard

/-- THE TIED CARD OF 'laws.FnExactBodyOf'. -/
def fnExactBodyOfCard : Claim7 := { stood := { row := fnExactBodyOfRow, standIns := [], harness := (true, "ac77757cf8e36a121016858653550d99e632a575f00785e5295a67301b5b6646"), looks := true }, kinds := [], alts := [], laidByText := true, laidKinds := [.data, .data, .data, .sentinel, .sentinel], laidTests := true, laidLooks := .later }
def FnExactBodyOfCardSaid : Prop := Claim7.holds Tryz.pinned (.plain (OpenSpec.ofChange fnExactBodyOfSpec)) fnExactBodyOfCard

/-- THE SECOND FORM's CARD OF 'laws.FnExactReadParcels'. -/
def fnExactReadParcelsUptoCard : Claim7 := { stood := { row := fnExactReadParcelsUptoRow, standIns := [], harness := (true, "ac77757cf8e36a121016858653550d99e632a575f00785e5295a67301b5b6646"), looks := true }, kinds := [], alts := [], laidByText := true, laidKinds := [.data, .data, .data, .sentinel, .sentinel], laidTests := true, laidLooks := .later }
def FnExactReadParcelsUptoCardSaid : Prop := Claim7.holds Tryz.pinned (.plain (OpenSpec.upto fnExactReadParcelsSpec)) fnExactReadParcelsUptoCard

/-- THE SECOND FORM's CARD OF 'laws.FnExactParcelsOf'. -/
def fnExactParcelsOfUptoCard : Claim7 := { stood := { row := fnExactParcelsOfUptoRow, standIns := [], harness := (true, "ac77757cf8e36a121016858653550d99e632a575f00785e5295a67301b5b6646"), looks := true }, kinds := [], alts := [], laidByText := true, laidKinds := [.data, .data, .data, .sentinel, .sentinel], laidTests := true, laidLooks := .later }
def FnExactParcelsOfUptoCardSaid : Prop := Claim7.holds Tryz.pinned (.plain (OpenSpec.upto fnExactParcelsOfSpec)) fnExactParcelsOfUptoCard

/-- THE SECOND FORM's CARD OF 'laws.FnExactReceiveAll'. -/
def fnExactReceiveAllUptoCard : Claim7 := { stood := { row := fnExactReceiveAllUptoRow, standIns := [], harness := (true, "ac77757cf8e36a121016858653550d99e632a575f00785e5295a67301b5b6646"), looks := true }, kinds := [], alts := [], laidByText := true, laidKinds := [.data, .data, .data, .sentinel, .sentinel], laidTests := true, laidLooks := .later }
def FnExactReceiveAllUptoCardSaid : Prop := Claim7.holds Tryz.pinned (.plain (OpenSpec.upto fnExactReceiveAllSpec)) fnExactReceiveAllUptoCard

/-- THE SECOND FORM's CARD OF 'laws.FnExactReceive'. -/
def fnExactReceiveUptoCard : Claim7 := { stood := { row := fnExactReceiveUptoRow, standIns := [], harness := (true, "ac77757cf8e36a121016858653550d99e632a575f00785e5295a67301b5b6646"), looks := true }, kinds := [], alts := [], laidByText := true, laidKinds := [.data, .data, .data, .sentinel, .sentinel], laidTests := true, laidLooks := .later }
def FnExactReceiveUptoCardSaid : Prop := Claim7.holds Tryz.pinned (.plain (OpenSpec.upto fnExactReceiveSpec)) fnExactReceiveUptoCard

/-- THE SECOND FORM's CARD OF 'laws.FnExactReadPolicy'. -/
def fnExactReadPolicyUptoCard : Claim7 := { stood := { row := fnExactReadPolicyUptoRow, standIns := [], harness := (true, "ac77757cf8e36a121016858653550d99e632a575f00785e5295a67301b5b6646"), looks := true }, kinds := [], alts := [], laidByText := true, laidKinds := [.data, .data, .data, .data, .sentinel, .sentinel, .pinned], laidTests := true, laidLooks := .later }
def FnExactReadPolicyUptoCardSaid : Prop := Claim7.holds Tryz.pinned (.plain (OpenSpec.upto fnExactReadPolicySpec)) fnExactReadPolicyUptoCard

/-- THE SECOND FORM's CARD OF 'laws.FnExactReadEndpoints'. -/
def fnExactReadEndpointsUptoCard : Claim7 := { stood := { row := fnExactReadEndpointsUptoRow, standIns := [], harness := (true, "ac77757cf8e36a121016858653550d99e632a575f00785e5295a67301b5b6646"), looks := true }, kinds := [], alts := [], laidByText := true, laidKinds := [.data, .data, .data, .data, .sentinel, .sentinel, .pinned], laidTests := true, laidLooks := .later }
def FnExactReadEndpointsUptoCardSaid : Prop := Claim7.holds Tryz.pinned (.plain (OpenSpec.upto fnExactReadEndpointsSpec)) fnExactReadEndpointsUptoCard

/-- THE SECOND FORM's CARD OF 'laws.FnExactReadReportTo'. -/
def fnExactReadReportToUptoCard : Claim7 := { stood := { row := fnExactReadReportToUptoRow, standIns := [], harness := (true, "ac77757cf8e36a121016858653550d99e632a575f00785e5295a67301b5b6646"), looks := true }, kinds := [], alts := [], laidByText := true, laidKinds := [.data, .data, .data, .sentinel, .sentinel], laidTests := true, laidLooks := .later }
def FnExactReadReportToUptoCardSaid : Prop := Claim7.holds Tryz.pinned (.plain (OpenSpec.upto fnExactReadReportToSpec)) fnExactReadReportToUptoCard

/-- THE SECOND FORM's CARD OF 'laws.FnExactBodyOf'. -/
def fnExactBodyOfUptoCard : Claim7 := { stood := { row := fnExactBodyOfUptoRow, standIns := [], harness := (true, "ac77757cf8e36a121016858653550d99e632a575f00785e5295a67301b5b6646"), looks := true }, kinds := [], alts := [], laidByText := true, laidKinds := [.data, .data, .data, .sentinel, .sentinel], laidTests := true, laidLooks := .later }
def FnExactBodyOfUptoCardSaid : Prop := Claim7.holds Tryz.pinned (.plain (OpenSpec.upto fnExactBodyOfSpec)) fnExactBodyOfUptoCard
end Rows
end Go.Proofs.YtfoapolbgpjfaaaGreatDoor
