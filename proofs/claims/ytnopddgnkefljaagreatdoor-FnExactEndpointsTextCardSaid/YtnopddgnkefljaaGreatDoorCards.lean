/-
  DERIVED. GIVEN WITH THE SEED: THE CARDS: each row of YtnopddgnkefljaaGreatDoorRows.lean that lists a variable, with what it lists TIED to the program's text (the seventh form; the later family's looks); each row that meets fmt, with fmt's text TOLD by the authors' own Lean function (tested against real Go, not proved from fmt's source: count such statements apart). THE CARD IS WHAT COUNTS. Prove the row's statement (the work); the ties are given (YtnopddgnkefljaaGreatDoorTie.lean); close each card by the builder's one call (the guide's Derived/Test/ToyasCard.lean, 'card_holds'). Laid BY PROGRAM, IN A SANDBOX (cutbox-door.mjs). By AI agents, Wed Nov 11 2026. No macro, syntax, notation, axiom, sorry.
-/
import Derived.Test.YtnopddgnkefljaaGreatDoorRows
import GoSem.ClaimSeven
namespace Go.Proofs.YtnopddgnkefljaaGreatDoor
namespace Rows

/-- THE TIED CARD OF 'laws.FnExactAlikeOutside'. -/
def fnExactAlikeOutsideCard : Claim7 := { stood := { row := fnExactAlikeOutsideRow, standIns := [], harness := (true, "9a82fa75ed562d8c26fb36ce180077d7c6cd2abbad0cd8d94e3f41441645e045"), looks := true }, kinds := [], alts := [], laidByText := true, laidKinds := [.data, .data, .data, .sentinel, .sentinel], laidTests := true, laidLooks := .later }
def FnExactAlikeOutsideCardSaid : Prop := Claim7.holds Tryz.pinned (.plain (OpenSpec.ofChange fnExactAlikeOutsideSpec)) fnExactAlikeOutsideCard

/-- THE TIED CARD OF 'laws.FnExactEndpointsText'. -/
def fnExactEndpointsTextCard : Claim7 := { stood := { row := fnExactEndpointsTextRow, standIns := [], harness := (true, "9a82fa75ed562d8c26fb36ce180077d7c6cd2abbad0cd8d94e3f41441645e045"), looks := true }, kinds := [], alts := [], laidByText := true, laidKinds := [.data, .data, .data, .sentinel, .sentinel], laidTests := true, laidLooks := .later }
def FnExactEndpointsTextCardSaid : Prop := Claim7.holds Tryz.pinned (.plain (OpenSpec.ofChange fnExactEndpointsTextSpec)) fnExactEndpointsTextCard

/-- THE TIED CARD OF 'laws.FnExactBodyOf'. -/
def fnExactBodyOfCard : Claim7 := { stood := { row := fnExactBodyOfRow, standIns := [], harness := (true, "9a82fa75ed562d8c26fb36ce180077d7c6cd2abbad0cd8d94e3f41441645e045"), looks := true }, kinds := [], alts := [], laidByText := true, laidKinds := [.data, .data, .data, .sentinel, .sentinel], laidTests := true, laidLooks := .later }
def FnExactBodyOfCardSaid : Prop := Claim7.holds Tryz.pinned (.plain (OpenSpec.ofChange fnExactBodyOfSpec)) fnExactBodyOfCard

/-- THE TIED CARD OF 'laws.FnExactReportToText'. -/
def fnExactReportToTextCard : Claim7 := { stood := { row := fnExactReportToTextRow, standIns := [], harness := (true, "9a82fa75ed562d8c26fb36ce180077d7c6cd2abbad0cd8d94e3f41441645e045"), looks := true }, kinds := [], alts := [], laidByText := true, laidKinds := [.data, .data, .data, .sentinel, .sentinel], laidTests := true, laidLooks := .later }
def FnExactReportToTextCardSaid : Prop := Claim7.holds Tryz.pinned (.plain (OpenSpec.ofChange fnExactReportToTextSpec)) fnExactReportToTextCard

/-- THE TIED CARD OF 'laws.FnExactBodyText'. -/
def fnExactBodyTextCard : Claim7 := { stood := { row := fnExactBodyTextRow, standIns := [], harness := (true, "9a82fa75ed562d8c26fb36ce180077d7c6cd2abbad0cd8d94e3f41441645e045"), looks := true }, kinds := [], alts := [], laidByText := true, laidKinds := [.data, .data, .data, .sentinel, .sentinel], laidTests := true, laidLooks := .later }
def FnExactBodyTextCardSaid : Prop := Claim7.holds Tryz.pinned (.plain (OpenSpec.ofChange fnExactBodyTextSpec)) fnExactBodyTextCard

/-- THE TIED CARD OF 'laws.FnExactPolicyText'. -/
def fnExactPolicyTextCard : Claim7 := { stood := { row := fnExactPolicyTextRow, standIns := [], harness := (true, "9a82fa75ed562d8c26fb36ce180077d7c6cd2abbad0cd8d94e3f41441645e045"), looks := true }, kinds := [], alts := [], laidByText := true, laidKinds := [.data, .data, .data, .sentinel, .sentinel], laidTests := true, laidLooks := .later }
def FnExactPolicyTextCardSaid : Prop := Claim7.holds Tryz.pinned (.plain (OpenSpec.ofChange fnExactPolicyTextSpec)) fnExactPolicyTextCard

/-- THE SECOND FORM's CARD OF 'laws.FnExactAlikeOutside'. -/
def fnExactAlikeOutsideUptoCard : Claim7 := { stood := { row := fnExactAlikeOutsideUptoRow, standIns := [], harness := (true, "9a82fa75ed562d8c26fb36ce180077d7c6cd2abbad0cd8d94e3f41441645e045"), looks := true }, kinds := [], alts := [], laidByText := true, laidKinds := [.data, .data, .data, .sentinel, .sentinel], laidTests := true, laidLooks := .later }
def FnExactAlikeOutsideUptoCardSaid : Prop := Claim7.holds Tryz.pinned (.plain (OpenSpec.upto fnExactAlikeOutsideSpec)) fnExactAlikeOutsideUptoCard

/-- THE SECOND FORM's CARD OF 'laws.FnExactEndpointsText'. -/
def fnExactEndpointsTextUptoCard : Claim7 := { stood := { row := fnExactEndpointsTextUptoRow, standIns := [], harness := (true, "9a82fa75ed562d8c26fb36ce180077d7c6cd2abbad0cd8d94e3f41441645e045"), looks := true }, kinds := [], alts := [], laidByText := true, laidKinds := [.data, .data, .data, .sentinel, .sentinel], laidTests := true, laidLooks := .later }
def FnExactEndpointsTextUptoCardSaid : Prop := Claim7.holds Tryz.pinned (.plain (OpenSpec.upto fnExactEndpointsTextSpec)) fnExactEndpointsTextUptoCard

/-- THE SECOND FORM's CARD OF 'laws.FnExactBodyOf'. -/
def fnExactBodyOfUptoCard : Claim7 := { stood := { row := fnExactBodyOfUptoRow, standIns := [], harness := (true, "9a82fa75ed562d8c26fb36ce180077d7c6cd2abbad0cd8d94e3f41441645e045"), looks := true }, kinds := [], alts := [], laidByText := true, laidKinds := [.data, .data, .data, .sentinel, .sentinel], laidTests := true, laidLooks := .later }
def FnExactBodyOfUptoCardSaid : Prop := Claim7.holds Tryz.pinned (.plain (OpenSpec.upto fnExactBodyOfSpec)) fnExactBodyOfUptoCard

/-- THE SECOND FORM's CARD OF 'laws.FnExactReportToText'. -/
def fnExactReportToTextUptoCard : Claim7 := { stood := { row := fnExactReportToTextUptoRow, standIns := [], harness := (true, "9a82fa75ed562d8c26fb36ce180077d7c6cd2abbad0cd8d94e3f41441645e045"), looks := true }, kinds := [], alts := [], laidByText := true, laidKinds := [.data, .data, .data, .sentinel, .sentinel], laidTests := true, laidLooks := .later }
def FnExactReportToTextUptoCardSaid : Prop := Claim7.holds Tryz.pinned (.plain (OpenSpec.upto fnExactReportToTextSpec)) fnExactReportToTextUptoCard

/-- THE SECOND FORM's CARD OF 'laws.FnExactBodyText'. -/
def fnExactBodyTextUptoCard : Claim7 := { stood := { row := fnExactBodyTextUptoRow, standIns := [], harness := (true, "9a82fa75ed562d8c26fb36ce180077d7c6cd2abbad0cd8d94e3f41441645e045"), looks := true }, kinds := [], alts := [], laidByText := true, laidKinds := [.data, .data, .data, .sentinel, .sentinel], laidTests := true, laidLooks := .later }
def FnExactBodyTextUptoCardSaid : Prop := Claim7.holds Tryz.pinned (.plain (OpenSpec.upto fnExactBodyTextSpec)) fnExactBodyTextUptoCard

/-- THE SECOND FORM's CARD OF 'laws.FnExactPolicyText'. -/
def fnExactPolicyTextUptoCard : Claim7 := { stood := { row := fnExactPolicyTextUptoRow, standIns := [], harness := (true, "9a82fa75ed562d8c26fb36ce180077d7c6cd2abbad0cd8d94e3f41441645e045"), looks := true }, kinds := [], alts := [], laidByText := true, laidKinds := [.data, .data, .data, .sentinel, .sentinel], laidTests := true, laidLooks := .later }
def FnExactPolicyTextUptoCardSaid : Prop := Claim7.holds Tryz.pinned (.plain (OpenSpec.upto fnExactPolicyTextSpec)) fnExactPolicyTextUptoCard
end Rows
end Go.Proofs.YtnopddgnkefljaaGreatDoor
