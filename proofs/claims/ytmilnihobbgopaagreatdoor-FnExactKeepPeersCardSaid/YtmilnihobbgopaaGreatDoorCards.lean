/-
  DERIVED. GIVEN WITH THE SEED: THE CARDS: each row of YtmilnihobbgopaaGreatDoorRows.lean that lists a variable, with what it lists TIED to the program's text (the seventh form; the later family's looks); each row that meets fmt, with fmt's text TOLD by the authors' own Lean function (tested against real Go, not proved from fmt's source: count such statements apart). THE CARD IS WHAT COUNTS. Prove the row's statement (the work); the ties are given (YtmilnihobbgopaaGreatDoorTie.lean); close each card by the builder's one call (the guide's Derived/Test/ToyasCard.lean, 'card_holds'). Laid BY PROGRAM, IN A SANDBOX (cutbox-door.mjs). By AI agents, Wed Nov 11 2026. No macro, syntax, notation, axiom, sorry.
-/
import Derived.Test.YtmilnihobbgopaaGreatDoorRows
import GoSem.ClaimSeven
namespace Go.Proofs.YtmilnihobbgopaaGreatDoor
namespace Rows

/-- THE TIED CARD OF 'laws.FnExactReadParcels'. -/
def fnExactReadParcelsCard : Claim7 := { stood := { row := fnExactReadParcelsRow, standIns := [], harness := (true, "9e1acf34d2e11551000dc3c64ac39e34b40ed56a9b6c26527531e028de39efab"), looks := true }, kinds := [], alts := [], laidByText := true, laidKinds := [.data, .data, .data, .sentinel, .sentinel], laidTests := true, laidLooks := .later }
def FnExactReadParcelsCardSaid : Prop := Claim7.holds Tryz.pinned (.plain (OpenSpec.ofChange fnExactReadParcelsSpec)) fnExactReadParcelsCard

/-- THE TIED CARD OF 'laws.FnExactAlikeOutside'. -/
def fnExactAlikeOutsideCard : Claim7 := { stood := { row := fnExactAlikeOutsideRow, standIns := [], harness := (true, "9e1acf34d2e11551000dc3c64ac39e34b40ed56a9b6c26527531e028de39efab"), looks := true }, kinds := [], alts := [], laidByText := true, laidKinds := [.data, .data, .data, .sentinel, .sentinel], laidTests := true, laidLooks := .later }
def FnExactAlikeOutsideCardSaid : Prop := Claim7.holds Tryz.pinned (.plain (OpenSpec.ofChange fnExactAlikeOutsideSpec)) fnExactAlikeOutsideCard

/-- THE TIED CARD OF 'laws.FnExactPeerWorks'. -/
def fnExactPeerWorksCard : Claim7 := { stood := { row := fnExactPeerWorksRow, standIns := [], harness := (true, "9e1acf34d2e11551000dc3c64ac39e34b40ed56a9b6c26527531e028de39efab"), looks := true }, kinds := [], alts := [], laidByText := true, laidKinds := [.data, .data, .data, .sentinel, .sentinel], laidTests := true, laidLooks := .later }
def FnExactPeerWorksCardSaid : Prop := Claim7.holds Tryz.pinned (.plain (OpenSpec.ofChange fnExactPeerWorksSpec)) fnExactPeerWorksCard

/-- THE TIED CARD OF 'laws.FnExactPeerGone'. -/
def fnExactPeerGoneCard : Claim7 := { stood := { row := fnExactPeerGoneRow, standIns := [], harness := (true, "9e1acf34d2e11551000dc3c64ac39e34b40ed56a9b6c26527531e028de39efab"), looks := true }, kinds := [], alts := [], laidByText := true, laidKinds := [.data, .data, .data, .sentinel, .sentinel], laidTests := true, laidLooks := .later }
def FnExactPeerGoneCardSaid : Prop := Claim7.holds Tryz.pinned (.plain (OpenSpec.ofChange fnExactPeerGoneSpec)) fnExactPeerGoneCard

/-- THE TIED CARD OF 'laws.FnExactPeerFails'. -/
def fnExactPeerFailsCard : Claim7 := { stood := { row := fnExactPeerFailsRow, standIns := [], harness := (true, "9e1acf34d2e11551000dc3c64ac39e34b40ed56a9b6c26527531e028de39efab"), looks := true }, kinds := [], alts := [], laidByText := true, laidKinds := [.data, .data, .data, .sentinel, .sentinel], laidTests := true, laidLooks := .later }
def FnExactPeerFailsCardSaid : Prop := Claim7.holds Tryz.pinned (.plain (OpenSpec.ofChange fnExactPeerFailsSpec)) fnExactPeerFailsCard

/-- THE TIED CARD OF 'laws.FnExactPolicyOK'. -/
def fnExactPolicyOKCard : Claim7 := { stood := { row := fnExactPolicyOKRow, standIns := [], harness := (true, "9e1acf34d2e11551000dc3c64ac39e34b40ed56a9b6c26527531e028de39efab"), looks := true }, kinds := [], alts := [], laidByText := true, laidKinds := [.data, .data, .data, .sentinel, .sentinel], laidTests := true, laidLooks := .later }
def FnExactPolicyOKCardSaid : Prop := Claim7.holds Tryz.pinned (.plain (OpenSpec.ofChange fnExactPolicyOKSpec)) fnExactPolicyOKCard

/-- THE TIED CARD OF 'laws.FnKeep'. -/
def fnKeepCard : Claim7 := { stood := { row := fnKeepRow, standIns := [], harness := (true, "9e1acf34d2e11551000dc3c64ac39e34b40ed56a9b6c26527531e028de39efab"), looks := true }, kinds := [], alts := [], laidByText := true, laidKinds := [.data, .data, .data, .sentinel, .sentinel], laidTests := true, laidLooks := .later }
def FnKeepCardSaid : Prop := Claim7.holds Tryz.pinned (.plain (OpenSpec.ofChange fnKeepSpec)) fnKeepCard

/-- THE TIED CARD OF 'laws.FnExactPeersOf'. -/
def fnExactPeersOfCard : Claim7 := { stood := { row := fnExactPeersOfRow, standIns := [], harness := (true, "9e1acf34d2e11551000dc3c64ac39e34b40ed56a9b6c26527531e028de39efab"), looks := true }, kinds := [], alts := [], laidByText := true, laidKinds := [.data, .data, .data, .sentinel, .sentinel], laidTests := true, laidLooks := .later }
def FnExactPeersOfCardSaid : Prop := Claim7.holds Tryz.pinned (.plain (OpenSpec.ofChange fnExactPeersOfSpec)) fnExactPeersOfCard

/-- THE TIED CARD OF 'laws.FnExactGroupFor'. -/
def fnExactGroupForCard : Claim7 := { stood := { row := fnExactGroupForRow, standIns := [], harness := (true, "9e1acf34d2e11551000dc3c64ac39e34b40ed56a9b6c26527531e028de39efab"), looks := true }, kinds := [], alts := [], laidByText := true, laidKinds := [.data, .data, .data, .sentinel, .sentinel], laidTests := true, laidLooks := .later }
def FnExactGroupForCardSaid : Prop := Claim7.holds Tryz.pinned (.plain (OpenSpec.ofChange fnExactGroupForSpec)) fnExactGroupForCard

/-- THE TIED CARD OF 'laws.FnExactKeepPeers'. -/
def fnExactKeepPeersCard : Claim7 := { stood := { row := fnExactKeepPeersRow, standIns := [], harness := (true, "9e1acf34d2e11551000dc3c64ac39e34b40ed56a9b6c26527531e028de39efab"), looks := true }, kinds := [], alts := [], laidByText := true, laidKinds := [.data, .data, .data, .sentinel, .sentinel], laidTests := true, laidLooks := .later }
def FnExactKeepPeersCardSaid : Prop := Claim7.holds Tryz.pinned (.plain (OpenSpec.ofChange fnExactKeepPeersSpec)) fnExactKeepPeersCard

/-- THE TIED CARD OF 'laws.FnPeers'. -/
def fnPeersCard : Claim7 := { stood := { row := fnPeersRow, standIns := [], harness := (true, "9e1acf34d2e11551000dc3c64ac39e34b40ed56a9b6c26527531e028de39efab"), looks := true }, kinds := [], alts := [], laidByText := true, laidKinds := [.data, .data, .data, .sentinel, .sentinel], laidTests := true, laidLooks := .later }
def FnPeersCardSaid : Prop := Claim7.holds Tryz.pinned (.plain (OpenSpec.ofChange fnPeersSpec)) fnPeersCard

/-- THE TIED CARD OF 'laws.FnExactUriGroup'. -/
def fnExactUriGroupCard : Claim7 := { stood := { row := fnExactUriGroupRow, standIns := [], harness := (true, "9e1acf34d2e11551000dc3c64ac39e34b40ed56a9b6c26527531e028de39efab"), looks := true }, kinds := [], alts := [], laidByText := true, laidKinds := [.data, .data, .data, .sentinel, .sentinel], laidTests := true, laidLooks := .later }
def FnExactUriGroupCardSaid : Prop := Claim7.holds Tryz.pinned (.plain (OpenSpec.ofChange fnExactUriGroupSpec)) fnExactUriGroupCard

/-- THE SECOND FORM's CARD OF 'laws.FnExactReadParcels'. -/
def fnExactReadParcelsUptoCard : Claim7 := { stood := { row := fnExactReadParcelsUptoRow, standIns := [], harness := (true, "9e1acf34d2e11551000dc3c64ac39e34b40ed56a9b6c26527531e028de39efab"), looks := true }, kinds := [], alts := [], laidByText := true, laidKinds := [.data, .data, .data, .sentinel, .sentinel], laidTests := true, laidLooks := .later }
def FnExactReadParcelsUptoCardSaid : Prop := Claim7.holds Tryz.pinned (.plain (OpenSpec.upto fnExactReadParcelsSpec)) fnExactReadParcelsUptoCard

/-- THE SECOND FORM's CARD OF 'laws.FnExactAlikeOutside'. -/
def fnExactAlikeOutsideUptoCard : Claim7 := { stood := { row := fnExactAlikeOutsideUptoRow, standIns := [], harness := (true, "9e1acf34d2e11551000dc3c64ac39e34b40ed56a9b6c26527531e028de39efab"), looks := true }, kinds := [], alts := [], laidByText := true, laidKinds := [.data, .data, .data, .sentinel, .sentinel], laidTests := true, laidLooks := .later }
def FnExactAlikeOutsideUptoCardSaid : Prop := Claim7.holds Tryz.pinned (.plain (OpenSpec.upto fnExactAlikeOutsideSpec)) fnExactAlikeOutsideUptoCard

/-- THE SECOND FORM's CARD OF 'laws.FnExactPeerWorks'. -/
def fnExactPeerWorksUptoCard : Claim7 := { stood := { row := fnExactPeerWorksUptoRow, standIns := [], harness := (true, "9e1acf34d2e11551000dc3c64ac39e34b40ed56a9b6c26527531e028de39efab"), looks := true }, kinds := [], alts := [], laidByText := true, laidKinds := [.data, .data, .data, .sentinel, .sentinel], laidTests := true, laidLooks := .later }
def FnExactPeerWorksUptoCardSaid : Prop := Claim7.holds Tryz.pinned (.plain (OpenSpec.upto fnExactPeerWorksSpec)) fnExactPeerWorksUptoCard

/-- THE SECOND FORM's CARD OF 'laws.FnExactPeerGone'. -/
def fnExactPeerGoneUptoCard : Claim7 := { stood := { row := fnExactPeerGoneUptoRow, standIns := [], harness := (true, "9e1acf34d2e11551000dc3c64ac39e34b40ed56a9b6c26527531e028de39efab"), looks := true }, kinds := [], alts := [], laidByText := true, laidKinds := [.data, .data, .data, .sentinel, .sentinel], laidTests := true, laidLooks := .later }
def FnExactPeerGoneUptoCardSaid : Prop := Claim7.holds Tryz.pinned (.plain (OpenSpec.upto fnExactPeerGoneSpec)) fnExactPeerGoneUptoCard

/-- THE SECOND FORM's CARD OF 'laws.FnExactPeerFails'. -/
def fnExactPeerFailsUptoCard : Claim7 := { stood := { row := fnExactPeerFailsUptoRow, standIns := [], harness := (true, "9e1acf34d2e11551000dc3c64ac39e34b40ed56a9b6c26527531e028de39efab"), looks := true }, kinds := [], alts := [], laidByText := true, laidKinds := [.data, .data, .data, .sentinel, .sentinel], laidTests := true, laidLooks := .later }
def FnExactPeerFailsUptoCardSaid : Prop := Claim7.holds Tryz.pinned (.plain (OpenSpec.upto fnExactPeerFailsSpec)) fnExactPeerFailsUptoCard

/-- THE SECOND FORM's CARD OF 'laws.FnExactPolicyOK'. -/
def fnExactPolicyOKUptoCard : Claim7 := { stood := { row := fnExactPolicyOKUptoRow, standIns := [], harness := (true, "9e1acf34d2e11551000dc3c64ac39e34b40ed56a9b6c26527531e028de39efab"), looks := true }, kinds := [], alts := [], laidByText := true, laidKinds := [.data, .data, .data, .sentinel, .sentinel], laidTests := true, laidLooks := .later }
def FnExactPolicyOKUptoCardSaid : Prop := Claim7.holds Tryz.pinned (.plain (OpenSpec.upto fnExactPolicyOKSpec)) fnExactPolicyOKUptoCard

/-- THE SECOND FORM's CARD OF 'laws.FnKeep'. -/
def fnKeepUptoCard : Claim7 := { stood := { row := fnKeepUptoRow, standIns := [], harness := (true, "9e1acf34d2e11551000dc3c64ac39e34b40ed56a9b6c26527531e028de39efab"), looks := true }, kinds := [], alts := [], laidByText := true, laidKinds := [.data, .data, .data, .sentinel, .sentinel], laidTests := true, laidLooks := .later }
def FnKeepUptoCardSaid : Prop := Claim7.holds Tryz.pinned (.plain (OpenSpec.upto fnKeepSpec)) fnKeepUptoCard

/-- THE SECOND FORM's CARD OF 'laws.FnExactPeersOf'. -/
def fnExactPeersOfUptoCard : Claim7 := { stood := { row := fnExactPeersOfUptoRow, standIns := [], harness := (true, "9e1acf34d2e11551000dc3c64ac39e34b40ed56a9b6c26527531e028de39efab"), looks := true }, kinds := [], alts := [], laidByText := true, laidKinds := [.data, .data, .data, .sentinel, .sentinel], laidTests := true, laidLooks := .later }
def FnExactPeersOfUptoCardSaid : Prop := Claim7.holds Tryz.pinned (.plain (OpenSpec.upto fnExactPeersOfSpec)) fnExactPeersOfUptoCard

/-- THE SECOND FORM's CARD OF 'laws.FnExactGroupFor'. -/
def fnExactGroupForUptoCard : Claim7 := { stood := { row := fnExactGroupForUptoRow, standIns := [], harness := (true, "9e1acf34d2e11551000dc3c64ac39e34b40ed56a9b6c26527531e028de39efab"), looks := true }, kinds := [], alts := [], laidByText := true, laidKinds := [.data, .data, .data, .sentinel, .sentinel], laidTests := true, laidLooks := .later }
def FnExactGroupForUptoCardSaid : Prop := Claim7.holds Tryz.pinned (.plain (OpenSpec.upto fnExactGroupForSpec)) fnExactGroupForUptoCard

/-- THE SECOND FORM's CARD OF 'laws.FnExactKeepPeers'. -/
def fnExactKeepPeersUptoCard : Claim7 := { stood := { row := fnExactKeepPeersUptoRow, standIns := [], harness := (true, "9e1acf34d2e11551000dc3c64ac39e34b40ed56a9b6c26527531e028de39efab"), looks := true }, kinds := [], alts := [], laidByText := true, laidKinds := [.data, .data, .data, .sentinel, .sentinel], laidTests := true, laidLooks := .later }
def FnExactKeepPeersUptoCardSaid : Prop := Claim7.holds Tryz.pinned (.plain (OpenSpec.upto fnExactKeepPeersSpec)) fnExactKeepPeersUptoCard

/-- THE SECOND FORM's CARD OF 'laws.FnPeers'. -/
def fnPeersUptoCard : Claim7 := { stood := { row := fnPeersUptoRow, standIns := [], harness := (true, "9e1acf34d2e11551000dc3c64ac39e34b40ed56a9b6c26527531e028de39efab"), looks := true }, kinds := [], alts := [], laidByText := true, laidKinds := [.data, .data, .data, .sentinel, .sentinel], laidTests := true, laidLooks := .later }
def FnPeersUptoCardSaid : Prop := Claim7.holds Tryz.pinned (.plain (OpenSpec.upto fnPeersSpec)) fnPeersUptoCard

/-- THE SECOND FORM's CARD OF 'laws.FnExactUriGroup'. -/
def fnExactUriGroupUptoCard : Claim7 := { stood := { row := fnExactUriGroupUptoRow, standIns := [], harness := (true, "9e1acf34d2e11551000dc3c64ac39e34b40ed56a9b6c26527531e028de39efab"), looks := true }, kinds := [], alts := [], laidByText := true, laidKinds := [.data, .data, .data, .sentinel, .sentinel], laidTests := true, laidLooks := .later }
def FnExactUriGroupUptoCardSaid : Prop := Claim7.holds Tryz.pinned (.plain (OpenSpec.upto fnExactUriGroupSpec)) fnExactUriGroupUptoCard
end Rows
end Go.Proofs.YtmilnihobbgopaaGreatDoor
