/-
  DERIVED. GIVEN WITH THE SEED: THE CARDS: each row of YtilidabdbhaljaaGreatDoorRows.lean that lists a variable, with what it lists TIED to the program's text (the seventh form; the later family's looks); each row that meets fmt, with fmt's text TOLD by the authors' own Lean function (tested against real Go, not proved from fmt's source: count such statements apart). THE CARD IS WHAT COUNTS. Prove the row's statement (the work); the ties are given (YtilidabdbhaljaaGreatDoorTie.lean); close each card by the builder's one call (the guide's Derived/Test/ToyasCard.lean, 'card_holds'). Laid BY PROGRAM, IN A SANDBOX (cutbox-door.mjs). By AI agents, Wed Nov 11 2026. No macro, syntax, notation, axiom, sorry.
-/
import Derived.Test.YtilidabdbhaljaaGreatDoorRows
import GoSem.ClaimSeven
namespace Go.Proofs.YtilidabdbhaljaaGreatDoor
namespace Rows

/-- THE TIED CARD OF 'platenlaw06.FloatsFixed'. -/
def floatsFixedCard : Claim7 := { stood := { row := floatsFixedRow, standIns := [], harness := (true, "a182d47b2bc49d6ea3d140715521b51a61ff91648995ee6e48257409dd8affd5"), looks := false }, kinds := [], alts := [], laidByText := true, laidKinds := [.data, .pinned, .pinned], laidTests := true, laidLooks := .later }
def FloatsFixedCardSaid : Prop := Claim7.holds Tryz.pinned (.plain (OpenSpec.ofChange floatsFixedSpec)) floatsFixedCard

/-- THE TIED CARD OF 'platenlaw06.FloatsGeneral'. -/
def floatsGeneralCard : Claim7 := { stood := { row := floatsGeneralRow, standIns := [], harness := (true, "a182d47b2bc49d6ea3d140715521b51a61ff91648995ee6e48257409dd8affd5"), looks := false }, kinds := [], alts := [], laidByText := true, laidKinds := [.data, .pinned, .pinned], laidTests := true, laidLooks := .later }
def FloatsGeneralCardSaid : Prop := Claim7.holds Tryz.pinned (.plain (OpenSpec.ofChange floatsGeneralSpec)) floatsGeneralCard

/-- THE TIED CARD OF 'platenlaw06.FloatsBits'. -/
def floatsBitsCard : Claim7 := { stood := { row := floatsBitsRow, standIns := [], harness := (true, "a182d47b2bc49d6ea3d140715521b51a61ff91648995ee6e48257409dd8affd5"), looks := false }, kinds := [], alts := [], laidByText := true, laidKinds := [.data, .pinned, .pinned], laidTests := true, laidLooks := .later }
def FloatsBitsCardSaid : Prop := Claim7.holds Tryz.pinned (.plain (OpenSpec.ofChange floatsBitsSpec)) floatsBitsCard

/-- THE TIED CARD OF 'platenlaw06.FloatsAny'. -/
def floatsAnyCard : Claim7 := { stood := { row := floatsAnyRow, standIns := [], harness := (true, "a182d47b2bc49d6ea3d140715521b51a61ff91648995ee6e48257409dd8affd5"), looks := false }, kinds := [], alts := [], laidByText := true, laidKinds := [.data, .pinned, .pinned], laidTests := true, laidLooks := .later }
def FloatsAnyCardSaid : Prop := Claim7.holds Tryz.pinned (.plain (OpenSpec.ofChange floatsAnySpec)) floatsAnyCard

/-- THE TIED CARD OF 'platenlaw07.CplxTexts'. -/
def cplxTextsCard : Claim7 := { stood := { row := cplxTextsRow, standIns := [], harness := (true, "a182d47b2bc49d6ea3d140715521b51a61ff91648995ee6e48257409dd8affd5"), looks := false }, kinds := [], alts := [], laidByText := true, laidKinds := [.data, .pinned, .pinned], laidTests := true, laidLooks := .later }
def CplxTextsCardSaid : Prop := Claim7.holds Tryz.pinned (.plain (OpenSpec.ofChange cplxTextsSpec)) cplxTextsCard

/-- THE TIED CARD OF 'platenlaw07.CplxSplits'. -/
def cplxSplitsCard : Claim7 := { stood := { row := cplxSplitsRow, standIns := [], harness := (true, "a182d47b2bc49d6ea3d140715521b51a61ff91648995ee6e48257409dd8affd5"), looks := false }, kinds := [], alts := [], laidByText := true, laidKinds := [.data, .pinned, .pinned], laidTests := true, laidLooks := .later }
def CplxSplitsCardSaid : Prop := Claim7.holds Tryz.pinned (.plain (OpenSpec.ofChange cplxSplitsSpec)) cplxSplitsCard

/-- THE SECOND FORM's CARD OF 'platenlaw06.FloatsFixed'. -/
def floatsFixedUptoCard : Claim7 := { stood := { row := floatsFixedUptoRow, standIns := [], harness := (true, "a182d47b2bc49d6ea3d140715521b51a61ff91648995ee6e48257409dd8affd5"), looks := false }, kinds := [], alts := [], laidByText := true, laidKinds := [.data, .pinned, .pinned], laidTests := true, laidLooks := .later }
def FloatsFixedUptoCardSaid : Prop := Claim7.holds Tryz.pinned (.plain (OpenSpec.upto floatsFixedSpec)) floatsFixedUptoCard

/-- THE SECOND FORM's CARD OF 'platenlaw06.FloatsGeneral'. -/
def floatsGeneralUptoCard : Claim7 := { stood := { row := floatsGeneralUptoRow, standIns := [], harness := (true, "a182d47b2bc49d6ea3d140715521b51a61ff91648995ee6e48257409dd8affd5"), looks := false }, kinds := [], alts := [], laidByText := true, laidKinds := [.data, .pinned, .pinned], laidTests := true, laidLooks := .later }
def FloatsGeneralUptoCardSaid : Prop := Claim7.holds Tryz.pinned (.plain (OpenSpec.upto floatsGeneralSpec)) floatsGeneralUptoCard

/-- THE SECOND FORM's CARD OF 'platenlaw06.FloatsBits'. -/
def floatsBitsUptoCard : Claim7 := { stood := { row := floatsBitsUptoRow, standIns := [], harness := (true, "a182d47b2bc49d6ea3d140715521b51a61ff91648995ee6e48257409dd8affd5"), looks := false }, kinds := [], alts := [], laidByText := true, laidKinds := [.data, .pinned, .pinned], laidTests := true, laidLooks := .later }
def FloatsBitsUptoCardSaid : Prop := Claim7.holds Tryz.pinned (.plain (OpenSpec.upto floatsBitsSpec)) floatsBitsUptoCard

/-- THE SECOND FORM's CARD OF 'platenlaw06.FloatsAny'. -/
def floatsAnyUptoCard : Claim7 := { stood := { row := floatsAnyUptoRow, standIns := [], harness := (true, "a182d47b2bc49d6ea3d140715521b51a61ff91648995ee6e48257409dd8affd5"), looks := false }, kinds := [], alts := [], laidByText := true, laidKinds := [.data, .pinned, .pinned], laidTests := true, laidLooks := .later }
def FloatsAnyUptoCardSaid : Prop := Claim7.holds Tryz.pinned (.plain (OpenSpec.upto floatsAnySpec)) floatsAnyUptoCard

/-- THE SECOND FORM's CARD OF 'platenlaw07.CplxTexts'. -/
def cplxTextsUptoCard : Claim7 := { stood := { row := cplxTextsUptoRow, standIns := [], harness := (true, "a182d47b2bc49d6ea3d140715521b51a61ff91648995ee6e48257409dd8affd5"), looks := false }, kinds := [], alts := [], laidByText := true, laidKinds := [.data, .pinned, .pinned], laidTests := true, laidLooks := .later }
def CplxTextsUptoCardSaid : Prop := Claim7.holds Tryz.pinned (.plain (OpenSpec.upto cplxTextsSpec)) cplxTextsUptoCard

/-- THE SECOND FORM's CARD OF 'platenlaw07.CplxSplits'. -/
def cplxSplitsUptoCard : Claim7 := { stood := { row := cplxSplitsUptoRow, standIns := [], harness := (true, "a182d47b2bc49d6ea3d140715521b51a61ff91648995ee6e48257409dd8affd5"), looks := false }, kinds := [], alts := [], laidByText := true, laidKinds := [.data, .pinned, .pinned], laidTests := true, laidLooks := .later }
def CplxSplitsUptoCardSaid : Prop := Claim7.holds Tryz.pinned (.plain (OpenSpec.upto cplxSplitsSpec)) cplxSplitsUptoCard
end Rows
end Go.Proofs.YtilidabdbhaljaaGreatDoor
