/-
  DERIVED. GIVEN WITH THE SEED: THE CARDS: each row of YtmemoghbijcebaaGreatDoorRows.lean that lists a variable, with what it lists TIED to the program's text (the seventh form; the later family's looks); each row that meets fmt, with fmt's text TOLD by the authors' own Lean function (tested against real Go, not proved from fmt's source: count such statements apart). THE CARD IS WHAT COUNTS. Prove the row's statement (the work); the ties are given (YtmemoghbijcebaaGreatDoorTie.lean); close each card by the builder's one call (the guide's Derived/Test/ToyasCard.lean, 'card_holds'). Laid BY PROGRAM, IN A SANDBOX (cutbox-door.mjs). By AI agents, Wed Nov 11 2026. No macro, syntax, notation, axiom, sorry.
-/
import Derived.Test.YtmemoghbijcebaaGreatDoorRows
import GoSem.ClaimSeven
namespace Go.Proofs.YtmemoghbijcebaaGreatDoor
namespace Rows

/-- THE TIED CARD OF 'formularylaw04.ExprParses'. -/
def exprParsesCard : Claim7 := { stood := { row := exprParsesRow, standIns := [], harness := (true, "5c7a6711a8e3f7b8676d52d703a8bd0ce7080d00b0814d6c619292303374a015"), looks := true }, kinds := [], alts := [], laidByText := true, laidKinds := [.data, .data, .data, .data, .sentinel, .sentinel, .pinned, .pinned], laidTests := true, laidLooks := .later }
def ExprParsesCardSaid : Prop := Claim7.holds Tryz.pinned (.plain (OpenSpec.ofChange exprParsesSpec)) exprParsesCard

/-- THE TIED CARD OF 'formularylaw04.ExprTokens'. -/
def exprTokensCard : Claim7 := { stood := { row := exprTokensRow, standIns := [], harness := (true, "5c7a6711a8e3f7b8676d52d703a8bd0ce7080d00b0814d6c619292303374a015"), looks := true }, kinds := [], alts := [], laidByText := true, laidKinds := [.data, .data, .data, .data, .sentinel, .sentinel, .pinned, .pinned], laidTests := true, laidLooks := .later }
def ExprTokensCardSaid : Prop := Claim7.holds Tryz.pinned (.plain (OpenSpec.ofChange exprTokensSpec)) exprTokensCard

/-- THE TIED CARD OF 'formularylaw04.ExprFormats'. -/
def exprFormatsCard : Claim7 := { stood := { row := exprFormatsRow, standIns := [], harness := (true, "5c7a6711a8e3f7b8676d52d703a8bd0ce7080d00b0814d6c619292303374a015"), looks := true }, kinds := [], alts := [], laidByText := true, laidKinds := [.data, .data, .data, .data, .sentinel, .sentinel, .pinned, .pinned], laidTests := true, laidLooks := .later }
def ExprFormatsCardSaid : Prop := Claim7.holds Tryz.pinned (.plain (OpenSpec.ofChange exprFormatsSpec)) exprFormatsCard

/-- THE TIED CARD OF 'formularylaw04.ExprStrips'. -/
def exprStripsCard : Claim7 := { stood := { row := exprStripsRow, standIns := [], harness := (true, "5c7a6711a8e3f7b8676d52d703a8bd0ce7080d00b0814d6c619292303374a015"), looks := true }, kinds := [], alts := [], laidByText := true, laidKinds := [.data, .data, .data, .data, .sentinel, .sentinel, .pinned, .pinned], laidTests := true, laidLooks := .later }
def ExprStripsCardSaid : Prop := Claim7.holds Tryz.pinned (.plain (OpenSpec.ofChange exprStripsSpec)) exprStripsCard

/-- THE TIED CARD OF 'formularylaw04.ExprLevels'. -/
def exprLevelsCard : Claim7 := { stood := { row := exprLevelsRow, standIns := [], harness := (true, "5c7a6711a8e3f7b8676d52d703a8bd0ce7080d00b0814d6c619292303374a015"), looks := true }, kinds := [], alts := [], laidByText := true, laidKinds := [.data, .data, .data, .data, .sentinel, .sentinel, .pinned, .pinned], laidTests := true, laidLooks := .later }
def ExprLevelsCardSaid : Prop := Claim7.holds Tryz.pinned (.plain (OpenSpec.ofChange exprLevelsSpec)) exprLevelsCard

/-- THE TIED CARD OF 'formularylaw04.ExprChecks'. -/
def exprChecksCard : Claim7 := { stood := { row := exprChecksRow, standIns := [], harness := (true, "5c7a6711a8e3f7b8676d52d703a8bd0ce7080d00b0814d6c619292303374a015"), looks := true }, kinds := [], alts := [], laidByText := true, laidKinds := [.data, .data, .data, .data, .sentinel, .sentinel, .pinned, .pinned], laidTests := true, laidLooks := .later }
def ExprChecksCardSaid : Prop := Claim7.holds Tryz.pinned (.plain (OpenSpec.ofChange exprChecksSpec)) exprChecksCard

/-- THE TIED CARD OF 'formularylaw04.ExprOperands'. -/
def exprOperandsCard : Claim7 := { stood := { row := exprOperandsRow, standIns := [], harness := (true, "5c7a6711a8e3f7b8676d52d703a8bd0ce7080d00b0814d6c619292303374a015"), looks := true }, kinds := [], alts := [], laidByText := true, laidKinds := [.data, .data, .data, .data, .sentinel, .sentinel, .pinned, .pinned], laidTests := true, laidLooks := .later }
def ExprOperandsCardSaid : Prop := Claim7.holds Tryz.pinned (.plain (OpenSpec.ofChange exprOperandsSpec)) exprOperandsCard

/-- THE TIED CARD OF 'formularylaw04.ExprJoins'. -/
def exprJoinsCard : Claim7 := { stood := { row := exprJoinsRow, standIns := [], harness := (true, "5c7a6711a8e3f7b8676d52d703a8bd0ce7080d00b0814d6c619292303374a015"), looks := true }, kinds := [], alts := [], laidByText := true, laidKinds := [.data, .data, .data, .data, .sentinel, .sentinel, .pinned, .pinned], laidTests := true, laidLooks := .later }
def ExprJoinsCardSaid : Prop := Claim7.holds Tryz.pinned (.plain (OpenSpec.ofChange exprJoinsSpec)) exprJoinsCard

/-- THE TIED CARD OF 'formularylaw04.ExprNames'. -/
def exprNamesCard : Claim7 := { stood := { row := exprNamesRow, standIns := [], harness := (true, "5c7a6711a8e3f7b8676d52d703a8bd0ce7080d00b0814d6c619292303374a015"), looks := true }, kinds := [], alts := [], laidByText := true, laidKinds := [.data, .data, .data, .data, .sentinel, .sentinel, .pinned, .pinned], laidTests := true, laidLooks := .later }
def ExprNamesCardSaid : Prop := Claim7.holds Tryz.pinned (.plain (OpenSpec.ofChange exprNamesSpec)) exprNamesCard

/-- THE SECOND FORM's CARD OF 'formularylaw04.ExprParses'. -/
def exprParsesUptoCard : Claim7 := { stood := { row := exprParsesUptoRow, standIns := [], harness := (true, "5c7a6711a8e3f7b8676d52d703a8bd0ce7080d00b0814d6c619292303374a015"), looks := true }, kinds := [], alts := [], laidByText := true, laidKinds := [.data, .data, .data, .data, .sentinel, .sentinel, .pinned, .pinned], laidTests := true, laidLooks := .later }
def ExprParsesUptoCardSaid : Prop := Claim7.holds Tryz.pinned (.plain (OpenSpec.upto exprParsesSpec)) exprParsesUptoCard

/-- THE SECOND FORM's CARD OF 'formularylaw04.ExprTokens'. -/
def exprTokensUptoCard : Claim7 := { stood := { row := exprTokensUptoRow, standIns := [], harness := (true, "5c7a6711a8e3f7b8676d52d703a8bd0ce7080d00b0814d6c619292303374a015"), looks := true }, kinds := [], alts := [], laidByText := true, laidKinds := [.data, .data, .data, .data, .sentinel, .sentinel, .pinned, .pinned], laidTests := true, laidLooks := .later }
def ExprTokensUptoCardSaid : Prop := Claim7.holds Tryz.pinned (.plain (OpenSpec.upto exprTokensSpec)) exprTokensUptoCard

/-- THE SECOND FORM's CARD OF 'formularylaw04.ExprFormats'. -/
def exprFormatsUptoCard : Claim7 := { stood := { row := exprFormatsUptoRow, standIns := [], harness := (true, "5c7a6711a8e3f7b8676d52d703a8bd0ce7080d00b0814d6c619292303374a015"), looks := true }, kinds := [], alts := [], laidByText := true, laidKinds := [.data, .data, .data, .data, .sentinel, .sentinel, .pinned, .pinned], laidTests := true, laidLooks := .later }
def ExprFormatsUptoCardSaid : Prop := Claim7.holds Tryz.pinned (.plain (OpenSpec.upto exprFormatsSpec)) exprFormatsUptoCard

/-- THE SECOND FORM's CARD OF 'formularylaw04.ExprStrips'. -/
def exprStripsUptoCard : Claim7 := { stood := { row := exprStripsUptoRow, standIns := [], harness := (true, "5c7a6711a8e3f7b8676d52d703a8bd0ce7080d00b0814d6c619292303374a015"), looks := true }, kinds := [], alts := [], laidByText := true, laidKinds := [.data, .data, .data, .data, .sentinel, .sentinel, .pinned, .pinned], laidTests := true, laidLooks := .later }
def ExprStripsUptoCardSaid : Prop := Claim7.holds Tryz.pinned (.plain (OpenSpec.upto exprStripsSpec)) exprStripsUptoCard

/-- THE SECOND FORM's CARD OF 'formularylaw04.ExprLevels'. -/
def exprLevelsUptoCard : Claim7 := { stood := { row := exprLevelsUptoRow, standIns := [], harness := (true, "5c7a6711a8e3f7b8676d52d703a8bd0ce7080d00b0814d6c619292303374a015"), looks := true }, kinds := [], alts := [], laidByText := true, laidKinds := [.data, .data, .data, .data, .sentinel, .sentinel, .pinned, .pinned], laidTests := true, laidLooks := .later }
def ExprLevelsUptoCardSaid : Prop := Claim7.holds Tryz.pinned (.plain (OpenSpec.upto exprLevelsSpec)) exprLevelsUptoCard

/-- THE SECOND FORM's CARD OF 'formularylaw04.ExprChecks'. -/
def exprChecksUptoCard : Claim7 := { stood := { row := exprChecksUptoRow, standIns := [], harness := (true, "5c7a6711a8e3f7b8676d52d703a8bd0ce7080d00b0814d6c619292303374a015"), looks := true }, kinds := [], alts := [], laidByText := true, laidKinds := [.data, .data, .data, .data, .sentinel, .sentinel, .pinned, .pinned], laidTests := true, laidLooks := .later }
def ExprChecksUptoCardSaid : Prop := Claim7.holds Tryz.pinned (.plain (OpenSpec.upto exprChecksSpec)) exprChecksUptoCard

/-- THE SECOND FORM's CARD OF 'formularylaw04.ExprOperands'. -/
def exprOperandsUptoCard : Claim7 := { stood := { row := exprOperandsUptoRow, standIns := [], harness := (true, "5c7a6711a8e3f7b8676d52d703a8bd0ce7080d00b0814d6c619292303374a015"), looks := true }, kinds := [], alts := [], laidByText := true, laidKinds := [.data, .data, .data, .data, .sentinel, .sentinel, .pinned, .pinned], laidTests := true, laidLooks := .later }
def ExprOperandsUptoCardSaid : Prop := Claim7.holds Tryz.pinned (.plain (OpenSpec.upto exprOperandsSpec)) exprOperandsUptoCard

/-- THE SECOND FORM's CARD OF 'formularylaw04.ExprJoins'. -/
def exprJoinsUptoCard : Claim7 := { stood := { row := exprJoinsUptoRow, standIns := [], harness := (true, "5c7a6711a8e3f7b8676d52d703a8bd0ce7080d00b0814d6c619292303374a015"), looks := true }, kinds := [], alts := [], laidByText := true, laidKinds := [.data, .data, .data, .data, .sentinel, .sentinel, .pinned, .pinned], laidTests := true, laidLooks := .later }
def ExprJoinsUptoCardSaid : Prop := Claim7.holds Tryz.pinned (.plain (OpenSpec.upto exprJoinsSpec)) exprJoinsUptoCard

/-- THE SECOND FORM's CARD OF 'formularylaw04.ExprNames'. -/
def exprNamesUptoCard : Claim7 := { stood := { row := exprNamesUptoRow, standIns := [], harness := (true, "5c7a6711a8e3f7b8676d52d703a8bd0ce7080d00b0814d6c619292303374a015"), looks := true }, kinds := [], alts := [], laidByText := true, laidKinds := [.data, .data, .data, .data, .sentinel, .sentinel, .pinned, .pinned], laidTests := true, laidLooks := .later }
def ExprNamesUptoCardSaid : Prop := Claim7.holds Tryz.pinned (.plain (OpenSpec.upto exprNamesSpec)) exprNamesUptoCard
end Rows
end Go.Proofs.YtmemoghbijcebaaGreatDoor
