/-
  DERIVED. GIVEN WITH THE SEED: THE CARDS: each row of YtapjdgcfakhpaaaGreatDoorRows.lean that lists a variable, with what it lists TIED to the program's text (the seventh form; the later family's looks); each row that meets fmt, with fmt's text TOLD by the authors' own Lean function (tested against real Go, not proved from fmt's source: count such statements apart). THE CARD IS WHAT COUNTS. Prove the row's statement (the work); the ties are given (YtapjdgcfakhpaaaGreatDoorTie.lean); close each card by the builder's one call (the guide's Derived/Test/ToyasCard.lean, 'card_holds'). Laid BY PROGRAM, IN A SANDBOX (cutbox-door.mjs). By AI agents, Wed Nov 11 2026. No macro, syntax, notation, axiom, sorry.
-/
import Derived.Test.YtapjdgcfakhpaaaGreatDoorRows
import GoSem.ClaimSeven
namespace Go.Proofs.YtapjdgcfakhpaaaGreatDoor
namespace Rows

/-- THE TIED CARD OF 'laws.FnExactAtMostOnce'. -/
def fnExactAtMostOnceCard : Claim7 := { stood := { row := fnExactAtMostOnceRow, standIns := [], harness := (true, "623716184fac11865da5f91f4b0ea5d8be7eed1129acb74824fb6633e5927957"), looks := true }, kinds := [], alts := [], laidByText := true, laidKinds := [.data, .data, .data, .sentinel, .sentinel], laidTests := true, laidLooks := .later }
def FnExactAtMostOnceCardSaid : Prop := Claim7.holds Tryz.pinned (.plain (OpenSpec.ofChange fnExactAtMostOnceSpec)) fnExactAtMostOnceCard

/-- THE TIED CARD OF 'laws.FnExactQueuedNow'. -/
def fnExactQueuedNowCard : Claim7 := { stood := { row := fnExactQueuedNowRow, standIns := [], harness := (true, "623716184fac11865da5f91f4b0ea5d8be7eed1129acb74824fb6633e5927957"), looks := true }, kinds := [], alts := [], laidByText := true, laidKinds := [.data, .data, .data, .sentinel, .sentinel], laidTests := true, laidLooks := .later }
def FnExactQueuedNowCardSaid : Prop := Claim7.holds Tryz.pinned (.plain (OpenSpec.ofChange fnExactQueuedNowSpec)) fnExactQueuedNowCard

/-- THE TIED CARD OF 'laws.FnExactUriGroup'. -/
def fnExactUriGroupCard : Claim7 := { stood := { row := fnExactUriGroupRow, standIns := [], harness := (true, "623716184fac11865da5f91f4b0ea5d8be7eed1129acb74824fb6633e5927957"), looks := true }, kinds := [], alts := [], laidByText := true, laidKinds := [.data, .data, .data, .sentinel, .sentinel], laidTests := true, laidLooks := .later }
def FnExactUriGroupCardSaid : Prop := Claim7.holds Tryz.pinned (.plain (OpenSpec.ofChange fnExactUriGroupSpec)) fnExactUriGroupCard

/-- THE TIED CARD OF 'laws.FnExactChannelLines'. -/
def fnExactChannelLinesCard : Claim7 := { stood := { row := fnExactChannelLinesRow, standIns := [], harness := (true, "623716184fac11865da5f91f4b0ea5d8be7eed1129acb74824fb6633e5927957"), looks := true }, kinds := [], alts := [], laidByText := true, laidKinds := [.data, .data, .data, .sentinel, .sentinel], laidTests := true, laidLooks := .later }
def FnExactChannelLinesCardSaid : Prop := Claim7.holds Tryz.pinned (.plain (OpenSpec.ofChange fnExactChannelLinesSpec)) fnExactChannelLinesCard

/-- THE TIED CARD OF 'laws.FnExactBodyOf'. -/
def fnExactBodyOfCard : Claim7 := { stood := { row := fnExactBodyOfRow, standIns := [], harness := (true, "623716184fac11865da5f91f4b0ea5d8be7eed1129acb74824fb6633e5927957"), looks := true }, kinds := [], alts := [], laidByText := true, laidKinds := [.data, .data, .data, .sentinel, .sentinel], laidTests := true, laidLooks := .later }
def FnExactBodyOfCardSaid : Prop := Claim7.holds Tryz.pinned (.plain (OpenSpec.ofChange fnExactBodyOfSpec)) fnExactBodyOfCard

/-- THE TIED CARD OF 'laws.FnExactReadParcels'. -/
def fnExactReadParcelsCard : Claim7 := { stood := { row := fnExactReadParcelsRow, standIns := [], harness := (true, "623716184fac11865da5f91f4b0ea5d8be7eed1129acb74824fb6633e5927957"), looks := true }, kinds := [], alts := [], laidByText := true, laidKinds := [.data, .data, .data, .sentinel, .sentinel], laidTests := true, laidLooks := .later }
def FnExactReadParcelsCardSaid : Prop := Claim7.holds Tryz.pinned (.plain (OpenSpec.ofChange fnExactReadParcelsSpec)) fnExactReadParcelsCard

/-- THE SECOND FORM's CARD OF 'laws.FnExactAtMostOnce'. -/
def fnExactAtMostOnceUptoCard : Claim7 := { stood := { row := fnExactAtMostOnceUptoRow, standIns := [], harness := (true, "623716184fac11865da5f91f4b0ea5d8be7eed1129acb74824fb6633e5927957"), looks := true }, kinds := [], alts := [], laidByText := true, laidKinds := [.data, .data, .data, .sentinel, .sentinel], laidTests := true, laidLooks := .later }
def FnExactAtMostOnceUptoCardSaid : Prop := Claim7.holds Tryz.pinned (.plain (OpenSpec.upto fnExactAtMostOnceSpec)) fnExactAtMostOnceUptoCard

/-- THE SECOND FORM's CARD OF 'laws.FnExactQueuedNow'. -/
def fnExactQueuedNowUptoCard : Claim7 := { stood := { row := fnExactQueuedNowUptoRow, standIns := [], harness := (true, "623716184fac11865da5f91f4b0ea5d8be7eed1129acb74824fb6633e5927957"), looks := true }, kinds := [], alts := [], laidByText := true, laidKinds := [.data, .data, .data, .sentinel, .sentinel], laidTests := true, laidLooks := .later }
def FnExactQueuedNowUptoCardSaid : Prop := Claim7.holds Tryz.pinned (.plain (OpenSpec.upto fnExactQueuedNowSpec)) fnExactQueuedNowUptoCard

/-- THE SECOND FORM's CARD OF 'laws.FnExactUriGroup'. -/
def fnExactUriGroupUptoCard : Claim7 := { stood := { row := fnExactUriGroupUptoRow, standIns := [], harness := (true, "623716184fac11865da5f91f4b0ea5d8be7eed1129acb74824fb6633e5927957"), looks := true }, kinds := [], alts := [], laidByText := true, laidKinds := [.data, .data, .data, .sentinel, .sentinel], laidTests := true, laidLooks := .later }
def FnExactUriGroupUptoCardSaid : Prop := Claim7.holds Tryz.pinned (.plain (OpenSpec.upto fnExactUriGroupSpec)) fnExactUriGroupUptoCard

/-- THE SECOND FORM's CARD OF 'laws.FnExactChannelLines'. -/
def fnExactChannelLinesUptoCard : Claim7 := { stood := { row := fnExactChannelLinesUptoRow, standIns := [], harness := (true, "623716184fac11865da5f91f4b0ea5d8be7eed1129acb74824fb6633e5927957"), looks := true }, kinds := [], alts := [], laidByText := true, laidKinds := [.data, .data, .data, .sentinel, .sentinel], laidTests := true, laidLooks := .later }
def FnExactChannelLinesUptoCardSaid : Prop := Claim7.holds Tryz.pinned (.plain (OpenSpec.upto fnExactChannelLinesSpec)) fnExactChannelLinesUptoCard

/-- THE SECOND FORM's CARD OF 'laws.FnExactBodyOf'. -/
def fnExactBodyOfUptoCard : Claim7 := { stood := { row := fnExactBodyOfUptoRow, standIns := [], harness := (true, "623716184fac11865da5f91f4b0ea5d8be7eed1129acb74824fb6633e5927957"), looks := true }, kinds := [], alts := [], laidByText := true, laidKinds := [.data, .data, .data, .sentinel, .sentinel], laidTests := true, laidLooks := .later }
def FnExactBodyOfUptoCardSaid : Prop := Claim7.holds Tryz.pinned (.plain (OpenSpec.upto fnExactBodyOfSpec)) fnExactBodyOfUptoCard

/-- THE SECOND FORM's CARD OF 'laws.FnExactReadParcels'. -/
def fnExactReadParcelsUptoCard : Claim7 := { stood := { row := fnExactReadParcelsUptoRow, standIns := [], harness := (true, "623716184fac11865da5f91f4b0ea5d8be7eed1129acb74824fb6633e5927957"), looks := true }, kinds := [], alts := [], laidByText := true, laidKinds := [.data, .data, .data, .sentinel, .sentinel], laidTests := true, laidLooks := .later }
def FnExactReadParcelsUptoCardSaid : Prop := Claim7.holds Tryz.pinned (.plain (OpenSpec.upto fnExactReadParcelsSpec)) fnExactReadParcelsUptoCard
end Rows
end Go.Proofs.YtapjdgcfakhpaaaGreatDoor
