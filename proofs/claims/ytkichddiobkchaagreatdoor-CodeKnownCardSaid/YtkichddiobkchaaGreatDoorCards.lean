/-
  DERIVED. GIVEN WITH THE SEED: THE CARDS: each row of YtkichddiobkchaaGreatDoorRows.lean that lists a variable, with what it lists TIED to the program's text (the seventh form; the later family's looks); each row that meets fmt, with fmt's text TOLD by the authors' own Lean function (tested against real Go, not proved from fmt's source: count such statements apart). THE CARD IS WHAT COUNTS. Prove the row's statement (the work); the ties are given (YtkichddiobkchaaGreatDoorTie.lean); close each card by the builder's one call (the guide's Derived/Test/ToyasCard.lean, 'card_holds'). Laid BY PROGRAM, IN A SANDBOX (cutbox-door.mjs). By AI agents, Wed Nov 11 2026. No macro, syntax, notation, axiom, sorry.
-/
import Derived.Test.YtkichddiobkchaaGreatDoorRows
import GoSem.ClaimSeven
namespace Go.Proofs.YtkichddiobkchaaGreatDoor
namespace Rows

/-- THE TIED CARD OF 'tailracelaw19.NamesMade'. -/
def namesMadeCard : Claim7 := { stood := { row := namesMadeRow, standIns := [], harness := (true, "5c28310ee40e2d239852f33389ce4811e5116c693e487c4396496c6250a1ce61"), looks := true }, kinds := [], alts := [], laidByText := true, laidKinds := [.data, .data, .widerDeep, .widerDeep, .data, .data, .data, .data, .data, .sentinel, .sentinel, .data, .data, .data, .data, .data, .data, .data, .data, .pinned, .pinned], laidTests := true, laidLooks := .later }
def NamesMadeCardSaid : Prop := Claim7.holds Tryz.pinned (.plain (OpenSpec.ofChange namesMadeSpec)) namesMadeCard

/-- THE TIED CARD OF 'tailracelaw20.CodeKnown'. -/
def codeKnownCard : Claim7 := { stood := { row := codeKnownRow, standIns := [], harness := (true, "5c28310ee40e2d239852f33389ce4811e5116c693e487c4396496c6250a1ce61"), looks := true }, kinds := [], alts := [], laidByText := true, laidKinds := [.data, .data, .widerDeep, .widerDeep, .data, .data, .data, .data, .data, .sentinel, .sentinel, .pinned, .pinned], laidTests := true, laidLooks := .later }
def CodeKnownCardSaid : Prop := Claim7.holds Tryz.pinned (.plain (OpenSpec.ofChange codeKnownSpec)) codeKnownCard

/-- THE TIED CARD OF 'tailracelaw20.CodeMade'. -/
def codeMadeCard : Claim7 := { stood := { row := codeMadeRow, standIns := [], harness := (true, "5c28310ee40e2d239852f33389ce4811e5116c693e487c4396496c6250a1ce61"), looks := true }, kinds := [], alts := [], laidByText := true, laidKinds := [.data, .data, .widerDeep, .widerDeep, .data, .data, .data, .data, .data, .sentinel, .sentinel, .data, .data, .data, .data, .data, .data, .data, .data, .pinned, .pinned], laidTests := true, laidLooks := .later }
def CodeMadeCardSaid : Prop := Claim7.holds Tryz.pinned (.plain (OpenSpec.ofChange codeMadeSpec)) codeMadeCard

/-- THE TIED CARD OF 'tailracelaw20.CodeStatements'. -/
def codeStatementsCard : Claim7 := { stood := { row := codeStatementsRow, standIns := [], harness := (true, "5c28310ee40e2d239852f33389ce4811e5116c693e487c4396496c6250a1ce61"), looks := true }, kinds := [], alts := [], laidByText := true, laidKinds := [.data, .data, .widerDeep, .widerDeep, .data, .data, .data, .data, .data, .sentinel, .sentinel, .pinned, .pinned], laidTests := true, laidLooks := .later }
def CodeStatementsCardSaid : Prop := Claim7.holds Tryz.pinned (.plain (OpenSpec.ofChange codeStatementsSpec)) codeStatementsCard

/-- THE TIED CARD OF 'tailracelaw20.CodeLevel'. -/
def codeLevelCard : Claim7 := { stood := { row := codeLevelRow, standIns := [], harness := (true, "5c28310ee40e2d239852f33389ce4811e5116c693e487c4396496c6250a1ce61"), looks := true }, kinds := [], alts := [], laidByText := true, laidKinds := [.data, .data, .widerDeep, .widerDeep, .data, .data, .data, .data, .data, .sentinel, .sentinel, .data, .data, .data, .data, .data, .data, .data, .data, .pinned, .pinned], laidTests := true, laidLooks := .later }
def CodeLevelCardSaid : Prop := Claim7.holds Tryz.pinned (.plain (OpenSpec.ofChange codeLevelSpec)) codeLevelCard

/-- THE TIED CARD OF 'tailracelaw19.NamesTexts'. -/
def namesTextsCard : Claim7 := { stood := { row := namesTextsRow, standIns := [], harness := (true, "5c28310ee40e2d239852f33389ce4811e5116c693e487c4396496c6250a1ce61"), looks := true }, kinds := [], alts := [], laidByText := true, laidKinds := [.data, .data, .widerDeep, .widerDeep, .data, .data, .data, .data, .data, .sentinel, .sentinel, .data, .data, .data, .data, .data, .data, .data, .data, .pinned, .pinned], laidTests := true, laidLooks := .later }
def NamesTextsCardSaid : Prop := Claim7.holds Tryz.pinned (.plain (OpenSpec.ofChange namesTextsSpec)) namesTextsCard

/-- THE TIED CARD OF 'tailracelaw19.NamesTurned'. -/
def namesTurnedCard : Claim7 := { stood := { row := namesTurnedRow, standIns := [], harness := (true, "5c28310ee40e2d239852f33389ce4811e5116c693e487c4396496c6250a1ce61"), looks := true }, kinds := [], alts := [], laidByText := true, laidKinds := [.data, .data, .widerDeep, .widerDeep, .data, .data, .data, .data, .data, .sentinel, .sentinel, .data, .data, .data, .data, .data, .data, .data, .data, .pinned, .pinned], laidTests := true, laidLooks := .later }
def NamesTurnedCardSaid : Prop := Claim7.holds Tryz.pinned (.plain (OpenSpec.ofChange namesTurnedSpec)) namesTurnedCard

/-- THE TIED CARD OF 'tailracelaw20.CodeTexts'. -/
def codeTextsCard : Claim7 := { stood := { row := codeTextsRow, standIns := [], harness := (true, "5c28310ee40e2d239852f33389ce4811e5116c693e487c4396496c6250a1ce61"), looks := true }, kinds := [], alts := [], laidByText := true, laidKinds := [.data, .data, .widerDeep, .widerDeep, .data, .data, .data, .data, .data, .sentinel, .sentinel, .data, .data, .data, .data, .data, .data, .data, .data, .pinned, .pinned], laidTests := true, laidLooks := .later }
def CodeTextsCardSaid : Prop := Claim7.holds Tryz.pinned (.plain (OpenSpec.ofChange codeTextsSpec)) codeTextsCard

/-- THE TIED CARD OF 'tailracelaw20.CodeAgain'. -/
def codeAgainCard : Claim7 := { stood := { row := codeAgainRow, standIns := [], harness := (true, "5c28310ee40e2d239852f33389ce4811e5116c693e487c4396496c6250a1ce61"), looks := true }, kinds := [], alts := [], laidByText := true, laidKinds := [.data, .data, .widerDeep, .widerDeep, .data, .data, .data, .data, .data, .sentinel, .sentinel, .data, .data, .data, .data, .data, .data, .data, .data, .pinned, .pinned], laidTests := true, laidLooks := .later }
def CodeAgainCardSaid : Prop := Claim7.holds Tryz.pinned (.plain (OpenSpec.ofChange codeAgainSpec)) codeAgainCard

/-- THE SECOND FORM's CARD OF 'tailracelaw19.NamesMade'. -/
def namesMadeUptoCard : Claim7 := { stood := { row := namesMadeUptoRow, standIns := [], harness := (true, "5c28310ee40e2d239852f33389ce4811e5116c693e487c4396496c6250a1ce61"), looks := true }, kinds := [], alts := [], laidByText := true, laidKinds := [.data, .data, .widerDeep, .widerDeep, .data, .data, .data, .data, .data, .sentinel, .sentinel, .data, .data, .data, .data, .data, .data, .data, .data, .pinned, .pinned], laidTests := true, laidLooks := .later }
def NamesMadeUptoCardSaid : Prop := Claim7.holds Tryz.pinned (.plain (OpenSpec.upto namesMadeSpec)) namesMadeUptoCard

/-- THE SECOND FORM's CARD OF 'tailracelaw20.CodeKnown'. -/
def codeKnownUptoCard : Claim7 := { stood := { row := codeKnownUptoRow, standIns := [], harness := (true, "5c28310ee40e2d239852f33389ce4811e5116c693e487c4396496c6250a1ce61"), looks := true }, kinds := [], alts := [], laidByText := true, laidKinds := [.data, .data, .widerDeep, .widerDeep, .data, .data, .data, .data, .data, .sentinel, .sentinel, .pinned, .pinned], laidTests := true, laidLooks := .later }
def CodeKnownUptoCardSaid : Prop := Claim7.holds Tryz.pinned (.plain (OpenSpec.upto codeKnownSpec)) codeKnownUptoCard

/-- THE SECOND FORM's CARD OF 'tailracelaw20.CodeMade'. -/
def codeMadeUptoCard : Claim7 := { stood := { row := codeMadeUptoRow, standIns := [], harness := (true, "5c28310ee40e2d239852f33389ce4811e5116c693e487c4396496c6250a1ce61"), looks := true }, kinds := [], alts := [], laidByText := true, laidKinds := [.data, .data, .widerDeep, .widerDeep, .data, .data, .data, .data, .data, .sentinel, .sentinel, .data, .data, .data, .data, .data, .data, .data, .data, .pinned, .pinned], laidTests := true, laidLooks := .later }
def CodeMadeUptoCardSaid : Prop := Claim7.holds Tryz.pinned (.plain (OpenSpec.upto codeMadeSpec)) codeMadeUptoCard

/-- THE SECOND FORM's CARD OF 'tailracelaw20.CodeStatements'. -/
def codeStatementsUptoCard : Claim7 := { stood := { row := codeStatementsUptoRow, standIns := [], harness := (true, "5c28310ee40e2d239852f33389ce4811e5116c693e487c4396496c6250a1ce61"), looks := true }, kinds := [], alts := [], laidByText := true, laidKinds := [.data, .data, .widerDeep, .widerDeep, .data, .data, .data, .data, .data, .sentinel, .sentinel, .pinned, .pinned], laidTests := true, laidLooks := .later }
def CodeStatementsUptoCardSaid : Prop := Claim7.holds Tryz.pinned (.plain (OpenSpec.upto codeStatementsSpec)) codeStatementsUptoCard

/-- THE SECOND FORM's CARD OF 'tailracelaw20.CodeLevel'. -/
def codeLevelUptoCard : Claim7 := { stood := { row := codeLevelUptoRow, standIns := [], harness := (true, "5c28310ee40e2d239852f33389ce4811e5116c693e487c4396496c6250a1ce61"), looks := true }, kinds := [], alts := [], laidByText := true, laidKinds := [.data, .data, .widerDeep, .widerDeep, .data, .data, .data, .data, .data, .sentinel, .sentinel, .data, .data, .data, .data, .data, .data, .data, .data, .pinned, .pinned], laidTests := true, laidLooks := .later }
def CodeLevelUptoCardSaid : Prop := Claim7.holds Tryz.pinned (.plain (OpenSpec.upto codeLevelSpec)) codeLevelUptoCard

/-- THE SECOND FORM's CARD OF 'tailracelaw19.NamesTexts'. -/
def namesTextsUptoCard : Claim7 := { stood := { row := namesTextsUptoRow, standIns := [], harness := (true, "5c28310ee40e2d239852f33389ce4811e5116c693e487c4396496c6250a1ce61"), looks := true }, kinds := [], alts := [], laidByText := true, laidKinds := [.data, .data, .widerDeep, .widerDeep, .data, .data, .data, .data, .data, .sentinel, .sentinel, .data, .data, .data, .data, .data, .data, .data, .data, .pinned, .pinned], laidTests := true, laidLooks := .later }
def NamesTextsUptoCardSaid : Prop := Claim7.holds Tryz.pinned (.plain (OpenSpec.upto namesTextsSpec)) namesTextsUptoCard

/-- THE SECOND FORM's CARD OF 'tailracelaw19.NamesTurned'. -/
def namesTurnedUptoCard : Claim7 := { stood := { row := namesTurnedUptoRow, standIns := [], harness := (true, "5c28310ee40e2d239852f33389ce4811e5116c693e487c4396496c6250a1ce61"), looks := true }, kinds := [], alts := [], laidByText := true, laidKinds := [.data, .data, .widerDeep, .widerDeep, .data, .data, .data, .data, .data, .sentinel, .sentinel, .data, .data, .data, .data, .data, .data, .data, .data, .pinned, .pinned], laidTests := true, laidLooks := .later }
def NamesTurnedUptoCardSaid : Prop := Claim7.holds Tryz.pinned (.plain (OpenSpec.upto namesTurnedSpec)) namesTurnedUptoCard

/-- THE SECOND FORM's CARD OF 'tailracelaw20.CodeTexts'. -/
def codeTextsUptoCard : Claim7 := { stood := { row := codeTextsUptoRow, standIns := [], harness := (true, "5c28310ee40e2d239852f33389ce4811e5116c693e487c4396496c6250a1ce61"), looks := true }, kinds := [], alts := [], laidByText := true, laidKinds := [.data, .data, .widerDeep, .widerDeep, .data, .data, .data, .data, .data, .sentinel, .sentinel, .data, .data, .data, .data, .data, .data, .data, .data, .pinned, .pinned], laidTests := true, laidLooks := .later }
def CodeTextsUptoCardSaid : Prop := Claim7.holds Tryz.pinned (.plain (OpenSpec.upto codeTextsSpec)) codeTextsUptoCard

/-- THE SECOND FORM's CARD OF 'tailracelaw20.CodeAgain'. -/
def codeAgainUptoCard : Claim7 := { stood := { row := codeAgainUptoRow, standIns := [], harness := (true, "5c28310ee40e2d239852f33389ce4811e5116c693e487c4396496c6250a1ce61"), looks := true }, kinds := [], alts := [], laidByText := true, laidKinds := [.data, .data, .widerDeep, .widerDeep, .data, .data, .data, .data, .data, .sentinel, .sentinel, .data, .data, .data, .data, .data, .data, .data, .data, .pinned, .pinned], laidTests := true, laidLooks := .later }
def CodeAgainUptoCardSaid : Prop := Claim7.holds Tryz.pinned (.plain (OpenSpec.upto codeAgainSpec)) codeAgainUptoCard
end Rows
end Go.Proofs.YtkichddiobkchaaGreatDoor
