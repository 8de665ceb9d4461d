/-
  DERIVED. GIVEN WITH THE SEED: THE CARDS: each row of YtfcjjankfjaapaaGreatDoorRows.lean that lists a variable, with what it lists TIED to the program's text (the seventh form; the later family's looks); each row that meets fmt, with fmt's text TOLD by the authors' own Lean function (tested against real Go, not proved from fmt's source: count such statements apart). THE CARD IS WHAT COUNTS. Prove the row's statement (the work); the ties are given (YtfcjjankfjaapaaGreatDoorTie.lean); close each card by the builder's one call (the guide's Derived/Test/ToyasCard.lean, 'card_holds'). Laid BY PROGRAM, IN A SANDBOX (cutbox-door.mjs). By AI agents, Wed Nov 11 2026. No macro, syntax, notation, axiom, sorry.
-/
import Derived.Test.YtfcjjankfjaapaaGreatDoorRows
import GoSem.ClaimSeven
namespace Go.Proofs.YtfcjjankfjaapaaGreatDoor
namespace Rows

/-- THE TIED CARD OF 'formularylaw03.TokensChecks'. -/
def tokensChecksCard : Claim7 := { stood := { row := tokensChecksRow, standIns := [], harness := (true, "585c88d45861f0ee1fb07929dfea9b525efe6359a518a7d51a684b4a7ae2d260"), looks := true }, kinds := [], alts := [], laidByText := true, laidKinds := [.data, .data, .data, .data, .sentinel, .sentinel, .pinned, .pinned], laidTests := true, laidLooks := .later }
def TokensChecksCardSaid : Prop := Claim7.holds Tryz.pinned (.plain (OpenSpec.ofChange tokensChecksSpec)) tokensChecksCard

/-- THE TIED CARD OF 'formularylaw03.TokensSplits'. -/
def tokensSplitsCard : Claim7 := { stood := { row := tokensSplitsRow, standIns := [], harness := (true, "585c88d45861f0ee1fb07929dfea9b525efe6359a518a7d51a684b4a7ae2d260"), looks := true }, kinds := [], alts := [], laidByText := true, laidKinds := [.data, .data, .data, .data, .sentinel, .sentinel, .pinned, .pinned], laidTests := true, laidLooks := .later }
def TokensSplitsCardSaid : Prop := Claim7.holds Tryz.pinned (.plain (OpenSpec.ofChange tokensSplitsSpec)) tokensSplitsCard

/-- THE TIED CARD OF 'formularylaw03.TokensBlanks'. -/
def tokensBlanksCard : Claim7 := { stood := { row := tokensBlanksRow, standIns := [], harness := (true, "585c88d45861f0ee1fb07929dfea9b525efe6359a518a7d51a684b4a7ae2d260"), looks := true }, kinds := [], alts := [], laidByText := true, laidKinds := [.data, .data, .data, .data, .sentinel, .sentinel, .pinned, .pinned], laidTests := true, laidLooks := .later }
def TokensBlanksCardSaid : Prop := Claim7.holds Tryz.pinned (.plain (OpenSpec.ofChange tokensBlanksSpec)) tokensBlanksCard

/-- THE TIED CARD OF 'formularylaw03.TokensDigits'. -/
def tokensDigitsCard : Claim7 := { stood := { row := tokensDigitsRow, standIns := [], harness := (true, "585c88d45861f0ee1fb07929dfea9b525efe6359a518a7d51a684b4a7ae2d260"), looks := true }, kinds := [], alts := [], laidByText := true, laidKinds := [.data, .data, .data, .data, .sentinel, .sentinel, .pinned, .pinned], laidTests := true, laidLooks := .later }
def TokensDigitsCardSaid : Prop := Claim7.holds Tryz.pinned (.plain (OpenSpec.ofChange tokensDigitsSpec)) tokensDigitsCard

/-- THE TIED CARD OF 'formularylaw03.TokensAgain'. -/
def tokensAgainCard : Claim7 := { stood := { row := tokensAgainRow, standIns := [], harness := (true, "585c88d45861f0ee1fb07929dfea9b525efe6359a518a7d51a684b4a7ae2d260"), looks := true }, kinds := [], alts := [], laidByText := true, laidKinds := [.data, .data, .data, .data, .sentinel, .sentinel, .pinned, .pinned], laidTests := true, laidLooks := .later }
def TokensAgainCardSaid : Prop := Claim7.holds Tryz.pinned (.plain (OpenSpec.ofChange tokensAgainSpec)) tokensAgainCard

/-- THE TIED CARD OF 'formularylaw03.TokensFixed'. -/
def tokensFixedCard : Claim7 := { stood := { row := tokensFixedRow, standIns := [], harness := (true, "585c88d45861f0ee1fb07929dfea9b525efe6359a518a7d51a684b4a7ae2d260"), looks := true }, kinds := [], alts := [], laidByText := true, laidKinds := [.data, .data, .data, .data, .sentinel, .sentinel, .pinned, .pinned], laidTests := true, laidLooks := .later }
def TokensFixedCardSaid : Prop := Claim7.holds Tryz.pinned (.plain (OpenSpec.ofChange tokensFixedSpec)) tokensFixedCard

/-- THE TIED CARD OF 'formularylaw03.TokensJoins'. -/
def tokensJoinsCard : Claim7 := { stood := { row := tokensJoinsRow, standIns := [], harness := (true, "585c88d45861f0ee1fb07929dfea9b525efe6359a518a7d51a684b4a7ae2d260"), looks := true }, kinds := [], alts := [], laidByText := true, laidKinds := [.data, .data, .data, .data, .sentinel, .sentinel, .pinned, .pinned], laidTests := true, laidLooks := .later }
def TokensJoinsCardSaid : Prop := Claim7.holds Tryz.pinned (.plain (OpenSpec.ofChange tokensJoinsSpec)) tokensJoinsCard

/-- THE TIED CARD OF 'formularylaw03.TokensConstants'. -/
def tokensConstantsCard : Claim7 := { stood := { row := tokensConstantsRow, standIns := [], harness := (true, "585c88d45861f0ee1fb07929dfea9b525efe6359a518a7d51a684b4a7ae2d260"), looks := true }, kinds := [], alts := [], laidByText := true, laidKinds := [.data, .data, .data, .data, .sentinel, .sentinel, .pinned, .pinned], laidTests := true, laidLooks := .later }
def TokensConstantsCardSaid : Prop := Claim7.holds Tryz.pinned (.plain (OpenSpec.ofChange tokensConstantsSpec)) tokensConstantsCard

/-- THE SECOND FORM's CARD OF 'formularylaw03.TokensChecks'. -/
def tokensChecksUptoCard : Claim7 := { stood := { row := tokensChecksUptoRow, standIns := [], harness := (true, "585c88d45861f0ee1fb07929dfea9b525efe6359a518a7d51a684b4a7ae2d260"), looks := true }, kinds := [], alts := [], laidByText := true, laidKinds := [.data, .data, .data, .data, .sentinel, .sentinel, .pinned, .pinned], laidTests := true, laidLooks := .later }
def TokensChecksUptoCardSaid : Prop := Claim7.holds Tryz.pinned (.plain (OpenSpec.upto tokensChecksSpec)) tokensChecksUptoCard

/-- THE SECOND FORM's CARD OF 'formularylaw03.TokensSplits'. -/
def tokensSplitsUptoCard : Claim7 := { stood := { row := tokensSplitsUptoRow, standIns := [], harness := (true, "585c88d45861f0ee1fb07929dfea9b525efe6359a518a7d51a684b4a7ae2d260"), looks := true }, kinds := [], alts := [], laidByText := true, laidKinds := [.data, .data, .data, .data, .sentinel, .sentinel, .pinned, .pinned], laidTests := true, laidLooks := .later }
def TokensSplitsUptoCardSaid : Prop := Claim7.holds Tryz.pinned (.plain (OpenSpec.upto tokensSplitsSpec)) tokensSplitsUptoCard

/-- THE SECOND FORM's CARD OF 'formularylaw03.TokensBlanks'. -/
def tokensBlanksUptoCard : Claim7 := { stood := { row := tokensBlanksUptoRow, standIns := [], harness := (true, "585c88d45861f0ee1fb07929dfea9b525efe6359a518a7d51a684b4a7ae2d260"), looks := true }, kinds := [], alts := [], laidByText := true, laidKinds := [.data, .data, .data, .data, .sentinel, .sentinel, .pinned, .pinned], laidTests := true, laidLooks := .later }
def TokensBlanksUptoCardSaid : Prop := Claim7.holds Tryz.pinned (.plain (OpenSpec.upto tokensBlanksSpec)) tokensBlanksUptoCard

/-- THE SECOND FORM's CARD OF 'formularylaw03.TokensDigits'. -/
def tokensDigitsUptoCard : Claim7 := { stood := { row := tokensDigitsUptoRow, standIns := [], harness := (true, "585c88d45861f0ee1fb07929dfea9b525efe6359a518a7d51a684b4a7ae2d260"), looks := true }, kinds := [], alts := [], laidByText := true, laidKinds := [.data, .data, .data, .data, .sentinel, .sentinel, .pinned, .pinned], laidTests := true, laidLooks := .later }
def TokensDigitsUptoCardSaid : Prop := Claim7.holds Tryz.pinned (.plain (OpenSpec.upto tokensDigitsSpec)) tokensDigitsUptoCard

/-- THE SECOND FORM's CARD OF 'formularylaw03.TokensAgain'. -/
def tokensAgainUptoCard : Claim7 := { stood := { row := tokensAgainUptoRow, standIns := [], harness := (true, "585c88d45861f0ee1fb07929dfea9b525efe6359a518a7d51a684b4a7ae2d260"), looks := true }, kinds := [], alts := [], laidByText := true, laidKinds := [.data, .data, .data, .data, .sentinel, .sentinel, .pinned, .pinned], laidTests := true, laidLooks := .later }
def TokensAgainUptoCardSaid : Prop := Claim7.holds Tryz.pinned (.plain (OpenSpec.upto tokensAgainSpec)) tokensAgainUptoCard

/-- THE SECOND FORM's CARD OF 'formularylaw03.TokensFixed'. -/
def tokensFixedUptoCard : Claim7 := { stood := { row := tokensFixedUptoRow, standIns := [], harness := (true, "585c88d45861f0ee1fb07929dfea9b525efe6359a518a7d51a684b4a7ae2d260"), looks := true }, kinds := [], alts := [], laidByText := true, laidKinds := [.data, .data, .data, .data, .sentinel, .sentinel, .pinned, .pinned], laidTests := true, laidLooks := .later }
def TokensFixedUptoCardSaid : Prop := Claim7.holds Tryz.pinned (.plain (OpenSpec.upto tokensFixedSpec)) tokensFixedUptoCard

/-- THE SECOND FORM's CARD OF 'formularylaw03.TokensJoins'. -/
def tokensJoinsUptoCard : Claim7 := { stood := { row := tokensJoinsUptoRow, standIns := [], harness := (true, "585c88d45861f0ee1fb07929dfea9b525efe6359a518a7d51a684b4a7ae2d260"), looks := true }, kinds := [], alts := [], laidByText := true, laidKinds := [.data, .data, .data, .data, .sentinel, .sentinel, .pinned, .pinned], laidTests := true, laidLooks := .later }
def TokensJoinsUptoCardSaid : Prop := Claim7.holds Tryz.pinned (.plain (OpenSpec.upto tokensJoinsSpec)) tokensJoinsUptoCard

/-- THE SECOND FORM's CARD OF 'formularylaw03.TokensConstants'. -/
def tokensConstantsUptoCard : Claim7 := { stood := { row := tokensConstantsUptoRow, standIns := [], harness := (true, "585c88d45861f0ee1fb07929dfea9b525efe6359a518a7d51a684b4a7ae2d260"), looks := true }, kinds := [], alts := [], laidByText := true, laidKinds := [.data, .data, .data, .data, .sentinel, .sentinel, .pinned, .pinned], laidTests := true, laidLooks := .later }
def TokensConstantsUptoCardSaid : Prop := Claim7.holds Tryz.pinned (.plain (OpenSpec.upto tokensConstantsSpec)) tokensConstantsUptoCard
end Rows
end Go.Proofs.YtfcjjankfjaapaaGreatDoor
