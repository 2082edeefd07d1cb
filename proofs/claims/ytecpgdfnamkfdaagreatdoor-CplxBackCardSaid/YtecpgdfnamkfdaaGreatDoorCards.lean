/-
  DERIVED. GIVEN WITH THE SEED: THE CARDS: each row of YtecpgdfnamkfdaaGreatDoorRows.lean that lists a variable, with what it lists TIED to the program's text (the seventh form; the later family's looks); each row that meets fmt, with fmt's text TOLD by the authors' own Lean function (tested against real Go, not proved from fmt's source: count such statements apart). THE CARD IS WHAT COUNTS. Prove the row's statement (the work); the ties are given (YtecpgdfnamkfdaaGreatDoorTie.lean); close each card by the builder's one call (the guide's Derived/Test/ToyasCard.lean, 'card_holds'). Laid BY PROGRAM, IN A SANDBOX (cutbox-door.mjs). By AI agents, Wed Nov 11 2026. No macro, syntax, notation, axiom, sorry.
-/
import Derived.Test.YtecpgdfnamkfdaaGreatDoorRows
import GoSem.ClaimSeven
namespace Go.Proofs.YtecpgdfnamkfdaaGreatDoor
namespace Rows

/-- THE TIED CARD OF 'platenlaw06.FloatsFixed'. -/
def floatsFixedCard : Claim7 := { stood := { row := floatsFixedRow, standIns := [], harness := (true, "d03dbdbf05475fa095d3aed31833065e5c157aca1eb36ed3a7bcf00e06a6ed94"), looks := false }, kinds := [], alts := [], laidByText := true, laidKinds := [.data, .pinned, .pinned], laidTests := true, laidLooks := .later }
def FloatsFixedCardSaid : Prop := Claim7.holds Tryz.pinned (.plain (OpenSpec.ofChange floatsFixedSpec)) floatsFixedCard

/-- THE TIED CARD OF 'platenlaw06.FloatsGeneral'. -/
def floatsGeneralCard : Claim7 := { stood := { row := floatsGeneralRow, standIns := [], harness := (true, "d03dbdbf05475fa095d3aed31833065e5c157aca1eb36ed3a7bcf00e06a6ed94"), looks := false }, kinds := [], alts := [], laidByText := true, laidKinds := [.data, .pinned, .pinned], laidTests := true, laidLooks := .later }
def FloatsGeneralCardSaid : Prop := Claim7.holds Tryz.pinned (.plain (OpenSpec.ofChange floatsGeneralSpec)) floatsGeneralCard

/-- THE TIED CARD OF 'platenlaw06.FloatsBits'. -/
def floatsBitsCard : Claim7 := { stood := { row := floatsBitsRow, standIns := [], harness := (true, "d03dbdbf05475fa095d3aed31833065e5c157aca1eb36ed3a7bcf00e06a6ed94"), looks := false }, kinds := [], alts := [], laidByText := true, laidKinds := [.data, .pinned, .pinned], laidTests := true, laidLooks := .later }
def FloatsBitsCardSaid : Prop := Claim7.holds Tryz.pinned (.plain (OpenSpec.ofChange floatsBitsSpec)) floatsBitsCard

/-- THE TIED CARD OF 'platenlaw06.FloatsAny'. -/
def floatsAnyCard : Claim7 := { stood := { row := floatsAnyRow, standIns := [], harness := (true, "d03dbdbf05475fa095d3aed31833065e5c157aca1eb36ed3a7bcf00e06a6ed94"), looks := false }, kinds := [], alts := [], laidByText := true, laidKinds := [.data, .pinned, .pinned], laidTests := true, laidLooks := .later }
def FloatsAnyCardSaid : Prop := Claim7.holds Tryz.pinned (.plain (OpenSpec.ofChange floatsAnySpec)) floatsAnyCard

/-- THE TIED CARD OF 'platenlaw06.FloatsOdd'. -/
def floatsOddCard : Claim7 := { stood := { row := floatsOddRow, standIns := [], harness := (true, "d03dbdbf05475fa095d3aed31833065e5c157aca1eb36ed3a7bcf00e06a6ed94"), looks := false }, kinds := [], alts := [], laidByText := true, laidKinds := [.data, .pinned, .pinned], laidTests := true, laidLooks := .later }
def FloatsOddCardSaid : Prop := Claim7.holds Tryz.pinned (.plain (OpenSpec.ofChange floatsOddSpec)) floatsOddCard

/-- THE TIED CARD OF 'platenlaw06.FloatsSigns'. -/
def floatsSignsCard : Claim7 := { stood := { row := floatsSignsRow, standIns := [], harness := (true, "d03dbdbf05475fa095d3aed31833065e5c157aca1eb36ed3a7bcf00e06a6ed94"), looks := false }, kinds := [], alts := [], laidByText := true, laidKinds := [.data, .pinned, .pinned], laidTests := true, laidLooks := .later }
def FloatsSignsCardSaid : Prop := Claim7.holds Tryz.pinned (.plain (OpenSpec.ofChange floatsSignsSpec)) floatsSignsCard

/-- THE TIED CARD OF 'platenlaw06.FloatsWide'. -/
def floatsWideCard : Claim7 := { stood := { row := floatsWideRow, standIns := [], harness := (true, "d03dbdbf05475fa095d3aed31833065e5c157aca1eb36ed3a7bcf00e06a6ed94"), looks := false }, kinds := [], alts := [], laidByText := true, laidKinds := [.data, .pinned, .pinned], laidTests := true, laidLooks := .later }
def FloatsWideCardSaid : Prop := Claim7.holds Tryz.pinned (.plain (OpenSpec.ofChange floatsWideSpec)) floatsWideCard

/-- THE TIED CARD OF 'platenlaw06.FloatsExact'. -/
def floatsExactCard : Claim7 := { stood := { row := floatsExactRow, standIns := [], harness := (true, "d03dbdbf05475fa095d3aed31833065e5c157aca1eb36ed3a7bcf00e06a6ed94"), looks := false }, kinds := [], alts := [], laidByText := true, laidKinds := [.data, .pinned, .pinned], laidTests := true, laidLooks := .later }
def FloatsExactCardSaid : Prop := Claim7.holds Tryz.pinned (.plain (OpenSpec.ofChange floatsExactSpec)) floatsExactCard

/-- THE TIED CARD OF 'platenlaw06.FloatsHexBack'. -/
def floatsHexBackCard : Claim7 := { stood := { row := floatsHexBackRow, standIns := [], harness := (true, "d03dbdbf05475fa095d3aed31833065e5c157aca1eb36ed3a7bcf00e06a6ed94"), looks := false }, kinds := [], alts := [], laidByText := true, laidKinds := [.data, .pinned, .pinned], laidTests := true, laidLooks := .later }
def FloatsHexBackCardSaid : Prop := Claim7.holds Tryz.pinned (.plain (OpenSpec.ofChange floatsHexBackSpec)) floatsHexBackCard

/-- THE TIED CARD OF 'platenlaw06.FloatsRefuses'. -/
def floatsRefusesCard : Claim7 := { stood := { row := floatsRefusesRow, standIns := [], harness := (true, "d03dbdbf05475fa095d3aed31833065e5c157aca1eb36ed3a7bcf00e06a6ed94"), looks := false }, kinds := [], alts := [], laidByText := true, laidKinds := [.data, .pinned, .pinned], laidTests := true, laidLooks := .later }
def FloatsRefusesCardSaid : Prop := Claim7.holds Tryz.pinned (.plain (OpenSpec.ofChange floatsRefusesSpec)) floatsRefusesCard

/-- THE TIED CARD OF 'platenlaw06.FloatsBack'. -/
def floatsBackCard : Claim7 := { stood := { row := floatsBackRow, standIns := [], harness := (true, "d03dbdbf05475fa095d3aed31833065e5c157aca1eb36ed3a7bcf00e06a6ed94"), looks := false }, kinds := [], alts := [], laidByText := true, laidKinds := [.data, .pinned, .pinned], laidTests := true, laidLooks := .later }
def FloatsBackCardSaid : Prop := Claim7.holds Tryz.pinned (.plain (OpenSpec.ofChange floatsBackSpec)) floatsBackCard

/-- THE TIED CARD OF 'platenlaw07.CplxTexts'. -/
def cplxTextsCard : Claim7 := { stood := { row := cplxTextsRow, standIns := [], harness := (true, "d03dbdbf05475fa095d3aed31833065e5c157aca1eb36ed3a7bcf00e06a6ed94"), looks := false }, kinds := [], alts := [], laidByText := true, laidKinds := [.data, .pinned, .pinned], laidTests := true, laidLooks := .later }
def CplxTextsCardSaid : Prop := Claim7.holds Tryz.pinned (.plain (OpenSpec.ofChange cplxTextsSpec)) cplxTextsCard

/-- THE TIED CARD OF 'platenlaw07.CplxSplits'. -/
def cplxSplitsCard : Claim7 := { stood := { row := cplxSplitsRow, standIns := [], harness := (true, "d03dbdbf05475fa095d3aed31833065e5c157aca1eb36ed3a7bcf00e06a6ed94"), looks := false }, kinds := [], alts := [], laidByText := true, laidKinds := [.data, .pinned, .pinned], laidTests := true, laidLooks := .later }
def CplxSplitsCardSaid : Prop := Claim7.holds Tryz.pinned (.plain (OpenSpec.ofChange cplxSplitsSpec)) cplxSplitsCard

/-- THE TIED CARD OF 'platenlaw07.CplxBack'. -/
def cplxBackCard : Claim7 := { stood := { row := cplxBackRow, standIns := [], harness := (true, "d03dbdbf05475fa095d3aed31833065e5c157aca1eb36ed3a7bcf00e06a6ed94"), looks := false }, kinds := [], alts := [], laidByText := true, laidKinds := [.data, .pinned, .pinned], laidTests := true, laidLooks := .later }
def CplxBackCardSaid : Prop := Claim7.holds Tryz.pinned (.plain (OpenSpec.ofChange cplxBackSpec)) cplxBackCard

/-- THE TIED CARD OF 'platenlaw07.CplxHalves'. -/
def cplxHalvesCard : Claim7 := { stood := { row := cplxHalvesRow, standIns := [], harness := (true, "d03dbdbf05475fa095d3aed31833065e5c157aca1eb36ed3a7bcf00e06a6ed94"), looks := false }, kinds := [], alts := [], laidByText := true, laidKinds := [.data, .pinned, .pinned], laidTests := true, laidLooks := .later }
def CplxHalvesCardSaid : Prop := Claim7.holds Tryz.pinned (.plain (OpenSpec.ofChange cplxHalvesSpec)) cplxHalvesCard

/-- THE TIED CARD OF 'platenlaw07.CplxRefuses'. -/
def cplxRefusesCard : Claim7 := { stood := { row := cplxRefusesRow, standIns := [], harness := (true, "d03dbdbf05475fa095d3aed31833065e5c157aca1eb36ed3a7bcf00e06a6ed94"), looks := false }, kinds := [], alts := [], laidByText := true, laidKinds := [.data, .pinned, .pinned], laidTests := true, laidLooks := .later }
def CplxRefusesCardSaid : Prop := Claim7.holds Tryz.pinned (.plain (OpenSpec.ofChange cplxRefusesSpec)) cplxRefusesCard

/-- THE TIED CARD OF 'platenlaw07.CplxPlus'. -/
def cplxPlusCard : Claim7 := { stood := { row := cplxPlusRow, standIns := [], harness := (true, "d03dbdbf05475fa095d3aed31833065e5c157aca1eb36ed3a7bcf00e06a6ed94"), looks := false }, kinds := [], alts := [], laidByText := true, laidKinds := [.data, .pinned, .pinned], laidTests := true, laidLooks := .later }
def CplxPlusCardSaid : Prop := Claim7.holds Tryz.pinned (.plain (OpenSpec.ofChange cplxPlusSpec)) cplxPlusCard

/-- THE SECOND FORM's CARD OF 'platenlaw06.FloatsFixed'. -/
def floatsFixedUptoCard : Claim7 := { stood := { row := floatsFixedUptoRow, standIns := [], harness := (true, "d03dbdbf05475fa095d3aed31833065e5c157aca1eb36ed3a7bcf00e06a6ed94"), looks := false }, kinds := [], alts := [], laidByText := true, laidKinds := [.data, .pinned, .pinned], laidTests := true, laidLooks := .later }
def FloatsFixedUptoCardSaid : Prop := Claim7.holds Tryz.pinned (.plain (OpenSpec.upto floatsFixedSpec)) floatsFixedUptoCard

/-- THE SECOND FORM's CARD OF 'platenlaw06.FloatsGeneral'. -/
def floatsGeneralUptoCard : Claim7 := { stood := { row := floatsGeneralUptoRow, standIns := [], harness := (true, "d03dbdbf05475fa095d3aed31833065e5c157aca1eb36ed3a7bcf00e06a6ed94"), looks := false }, kinds := [], alts := [], laidByText := true, laidKinds := [.data, .pinned, .pinned], laidTests := true, laidLooks := .later }
def FloatsGeneralUptoCardSaid : Prop := Claim7.holds Tryz.pinned (.plain (OpenSpec.upto floatsGeneralSpec)) floatsGeneralUptoCard

/-- THE SECOND FORM's CARD OF 'platenlaw06.FloatsBits'. -/
def floatsBitsUptoCard : Claim7 := { stood := { row := floatsBitsUptoRow, standIns := [], harness := (true, "d03dbdbf05475fa095d3aed31833065e5c157aca1eb36ed3a7bcf00e06a6ed94"), looks := false }, kinds := [], alts := [], laidByText := true, laidKinds := [.data, .pinned, .pinned], laidTests := true, laidLooks := .later }
def FloatsBitsUptoCardSaid : Prop := Claim7.holds Tryz.pinned (.plain (OpenSpec.upto floatsBitsSpec)) floatsBitsUptoCard

/-- THE SECOND FORM's CARD OF 'platenlaw06.FloatsAny'. -/
def floatsAnyUptoCard : Claim7 := { stood := { row := floatsAnyUptoRow, standIns := [], harness := (true, "d03dbdbf05475fa095d3aed31833065e5c157aca1eb36ed3a7bcf00e06a6ed94"), looks := false }, kinds := [], alts := [], laidByText := true, laidKinds := [.data, .pinned, .pinned], laidTests := true, laidLooks := .later }
def FloatsAnyUptoCardSaid : Prop := Claim7.holds Tryz.pinned (.plain (OpenSpec.upto floatsAnySpec)) floatsAnyUptoCard

/-- THE SECOND FORM's CARD OF 'platenlaw06.FloatsOdd'. -/
def floatsOddUptoCard : Claim7 := { stood := { row := floatsOddUptoRow, standIns := [], harness := (true, "d03dbdbf05475fa095d3aed31833065e5c157aca1eb36ed3a7bcf00e06a6ed94"), looks := false }, kinds := [], alts := [], laidByText := true, laidKinds := [.data, .pinned, .pinned], laidTests := true, laidLooks := .later }
def FloatsOddUptoCardSaid : Prop := Claim7.holds Tryz.pinned (.plain (OpenSpec.upto floatsOddSpec)) floatsOddUptoCard

/-- THE SECOND FORM's CARD OF 'platenlaw06.FloatsSigns'. -/
def floatsSignsUptoCard : Claim7 := { stood := { row := floatsSignsUptoRow, standIns := [], harness := (true, "d03dbdbf05475fa095d3aed31833065e5c157aca1eb36ed3a7bcf00e06a6ed94"), looks := false }, kinds := [], alts := [], laidByText := true, laidKinds := [.data, .pinned, .pinned], laidTests := true, laidLooks := .later }
def FloatsSignsUptoCardSaid : Prop := Claim7.holds Tryz.pinned (.plain (OpenSpec.upto floatsSignsSpec)) floatsSignsUptoCard

/-- THE SECOND FORM's CARD OF 'platenlaw06.FloatsWide'. -/
def floatsWideUptoCard : Claim7 := { stood := { row := floatsWideUptoRow, standIns := [], harness := (true, "d03dbdbf05475fa095d3aed31833065e5c157aca1eb36ed3a7bcf00e06a6ed94"), looks := false }, kinds := [], alts := [], laidByText := true, laidKinds := [.data, .pinned, .pinned], laidTests := true, laidLooks := .later }
def FloatsWideUptoCardSaid : Prop := Claim7.holds Tryz.pinned (.plain (OpenSpec.upto floatsWideSpec)) floatsWideUptoCard

/-- THE SECOND FORM's CARD OF 'platenlaw06.FloatsExact'. -/
def floatsExactUptoCard : Claim7 := { stood := { row := floatsExactUptoRow, standIns := [], harness := (true, "d03dbdbf05475fa095d3aed31833065e5c157aca1eb36ed3a7bcf00e06a6ed94"), looks := false }, kinds := [], alts := [], laidByText := true, laidKinds := [.data, .pinned, .pinned], laidTests := true, laidLooks := .later }
def FloatsExactUptoCardSaid : Prop := Claim7.holds Tryz.pinned (.plain (OpenSpec.upto floatsExactSpec)) floatsExactUptoCard

/-- THE SECOND FORM's CARD OF 'platenlaw06.FloatsHexBack'. -/
def floatsHexBackUptoCard : Claim7 := { stood := { row := floatsHexBackUptoRow, standIns := [], harness := (true, "d03dbdbf05475fa095d3aed31833065e5c157aca1eb36ed3a7bcf00e06a6ed94"), looks := false }, kinds := [], alts := [], laidByText := true, laidKinds := [.data, .pinned, .pinned], laidTests := true, laidLooks := .later }
def FloatsHexBackUptoCardSaid : Prop := Claim7.holds Tryz.pinned (.plain (OpenSpec.upto floatsHexBackSpec)) floatsHexBackUptoCard

/-- THE SECOND FORM's CARD OF 'platenlaw06.FloatsRefuses'. -/
def floatsRefusesUptoCard : Claim7 := { stood := { row := floatsRefusesUptoRow, standIns := [], harness := (true, "d03dbdbf05475fa095d3aed31833065e5c157aca1eb36ed3a7bcf00e06a6ed94"), looks := false }, kinds := [], alts := [], laidByText := true, laidKinds := [.data, .pinned, .pinned], laidTests := true, laidLooks := .later }
def FloatsRefusesUptoCardSaid : Prop := Claim7.holds Tryz.pinned (.plain (OpenSpec.upto floatsRefusesSpec)) floatsRefusesUptoCard

/-- THE SECOND FORM's CARD OF 'platenlaw06.FloatsBack'. -/
def floatsBackUptoCard : Claim7 := { stood := { row := floatsBackUptoRow, standIns := [], harness := (true, "d03dbdbf05475fa095d3aed31833065e5c157aca1eb36ed3a7bcf00e06a6ed94"), looks := false }, kinds := [], alts := [], laidByText := true, laidKinds := [.data, .pinned, .pinned], laidTests := true, laidLooks := .later }
def FloatsBackUptoCardSaid : Prop := Claim7.holds Tryz.pinned (.plain (OpenSpec.upto floatsBackSpec)) floatsBackUptoCard

/-- THE SECOND FORM's CARD OF 'platenlaw07.CplxTexts'. -/
def cplxTextsUptoCard : Claim7 := { stood := { row := cplxTextsUptoRow, standIns := [], harness := (true, "d03dbdbf05475fa095d3aed31833065e5c157aca1eb36ed3a7bcf00e06a6ed94"), looks := false }, kinds := [], alts := [], laidByText := true, laidKinds := [.data, .pinned, .pinned], laidTests := true, laidLooks := .later }
def CplxTextsUptoCardSaid : Prop := Claim7.holds Tryz.pinned (.plain (OpenSpec.upto cplxTextsSpec)) cplxTextsUptoCard

/-- THE SECOND FORM's CARD OF 'platenlaw07.CplxSplits'. -/
def cplxSplitsUptoCard : Claim7 := { stood := { row := cplxSplitsUptoRow, standIns := [], harness := (true, "d03dbdbf05475fa095d3aed31833065e5c157aca1eb36ed3a7bcf00e06a6ed94"), looks := false }, kinds := [], alts := [], laidByText := true, laidKinds := [.data, .pinned, .pinned], laidTests := true, laidLooks := .later }
def CplxSplitsUptoCardSaid : Prop := Claim7.holds Tryz.pinned (.plain (OpenSpec.upto cplxSplitsSpec)) cplxSplitsUptoCard

/-- THE SECOND FORM's CARD OF 'platenlaw07.CplxBack'. -/
def cplxBackUptoCard : Claim7 := { stood := { row := cplxBackUptoRow, standIns := [], harness := (true, "d03dbdbf05475fa095d3aed31833065e5c157aca1eb36ed3a7bcf00e06a6ed94"), looks := false }, kinds := [], alts := [], laidByText := true, laidKinds := [.data, .pinned, .pinned], laidTests := true, laidLooks := .later }
def CplxBackUptoCardSaid : Prop := Claim7.holds Tryz.pinned (.plain (OpenSpec.upto cplxBackSpec)) cplxBackUptoCard

/-- THE SECOND FORM's CARD OF 'platenlaw07.CplxHalves'. -/
def cplxHalvesUptoCard : Claim7 := { stood := { row := cplxHalvesUptoRow, standIns := [], harness := (true, "d03dbdbf05475fa095d3aed31833065e5c157aca1eb36ed3a7bcf00e06a6ed94"), looks := false }, kinds := [], alts := [], laidByText := true, laidKinds := [.data, .pinned, .pinned], laidTests := true, laidLooks := .later }
def CplxHalvesUptoCardSaid : Prop := Claim7.holds Tryz.pinned (.plain (OpenSpec.upto cplxHalvesSpec)) cplxHalvesUptoCard

/-- THE SECOND FORM's CARD OF 'platenlaw07.CplxRefuses'. -/
def cplxRefusesUptoCard : Claim7 := { stood := { row := cplxRefusesUptoRow, standIns := [], harness := (true, "d03dbdbf05475fa095d3aed31833065e5c157aca1eb36ed3a7bcf00e06a6ed94"), looks := false }, kinds := [], alts := [], laidByText := true, laidKinds := [.data, .pinned, .pinned], laidTests := true, laidLooks := .later }
def CplxRefusesUptoCardSaid : Prop := Claim7.holds Tryz.pinned (.plain (OpenSpec.upto cplxRefusesSpec)) cplxRefusesUptoCard

/-- THE SECOND FORM's CARD OF 'platenlaw07.CplxPlus'. -/
def cplxPlusUptoCard : Claim7 := { stood := { row := cplxPlusUptoRow, standIns := [], harness := (true, "d03dbdbf05475fa095d3aed31833065e5c157aca1eb36ed3a7bcf00e06a6ed94"), looks := false }, kinds := [], alts := [], laidByText := true, laidKinds := [.data, .pinned, .pinned], laidTests := true, laidLooks := .later }
def CplxPlusUptoCardSaid : Prop := Claim7.holds Tryz.pinned (.plain (OpenSpec.upto cplxPlusSpec)) cplxPlusUptoCard
end Rows
end Go.Proofs.YtecpgdfnamkfdaaGreatDoor
