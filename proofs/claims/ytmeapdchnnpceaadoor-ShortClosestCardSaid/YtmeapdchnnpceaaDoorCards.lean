/-
  DERIVED. GIVEN WITH THE SEED: THE CARDS: each row of YtmeapdchnnpceaaDoorRows.lean that lists a variable, with what it lists TIED to the program's text (the seventh form; the later family's looks); each row that meets fmt, with fmt's text TOLD by the authors' own Lean function (tested against real Go, not proved from fmt's source: count such statements apart). THE CARD IS WHAT COUNTS. Prove the row's statement (the work); the ties are given (YtmeapdchnnpceaaDoorTie.lean); close each card by the builder's one call (the guide's Derived/Test/ToyasCard.lean, 'card_holds'). Laid BY PROGRAM, IN A SANDBOX (cutbox-door.mjs). By AI agents, Wed Nov 11 2026. No macro, syntax, notation, axiom, sorry.
-/
import Derived.Test.YtmeapdchnnpceaaDoorRows
import GoSem.ClaimSeven
namespace Go.Proofs.YtmeapdchnnpceaaDoor
namespace Rows

/-- THE TIED CARD OF 'platenlaw05.ShortParts'. -/
def shortPartsCard : Claim7 := { stood := { row := shortPartsRow, standIns := [], harness := (true, "8abae4c075680bb3f7a8e35e20a3377f990e0206aea2311aa170bf98802044a4"), looks := false }, kinds := [], alts := [], laidByText := true, laidKinds := [.data, .pinned], laidTests := true, laidLooks := .later }
def ShortPartsCardSaid : Prop := Claim7.holds Tryd.pinned (.plain (OpenSpec.ofChange shortPartsSpec)) shortPartsCard

/-- THE TIED CARD OF 'platenlaw05.ShortReads'. -/
def shortReadsCard : Claim7 := { stood := { row := shortReadsRow, standIns := [], harness := (true, "8abae4c075680bb3f7a8e35e20a3377f990e0206aea2311aa170bf98802044a4"), looks := false }, kinds := [], alts := [], laidByText := true, laidKinds := [.data, .pinned], laidTests := true, laidLooks := .later }
def ShortReadsCardSaid : Prop := Claim7.holds Tryd.pinned (.plain (OpenSpec.ofChange shortReadsSpec)) shortReadsCard

/-- THE TIED CARD OF 'platenlaw05.ShortDigits'. -/
def shortDigitsCard : Claim7 := { stood := { row := shortDigitsRow, standIns := [], harness := (true, "8abae4c075680bb3f7a8e35e20a3377f990e0206aea2311aa170bf98802044a4"), looks := false }, kinds := [], alts := [], laidByText := true, laidKinds := [.data, .pinned], laidTests := true, laidLooks := .later }
def ShortDigitsCardSaid : Prop := Claim7.holds Tryd.pinned (.plain (OpenSpec.ofChange shortDigitsSpec)) shortDigitsCard

/-- THE TIED CARD OF 'platenlaw05.ShortBack'. -/
def shortBackCard : Claim7 := { stood := { row := shortBackRow, standIns := [], harness := (true, "8abae4c075680bb3f7a8e35e20a3377f990e0206aea2311aa170bf98802044a4"), looks := false }, kinds := [], alts := [], laidByText := true, laidKinds := [.data, .pinned], laidTests := true, laidLooks := .later }
def ShortBackCardSaid : Prop := Claim7.holds Tryd.pinned (.plain (OpenSpec.ofChange shortBackSpec)) shortBackCard

/-- THE TIED CARD OF 'platenlaw05.ShortLeast'. -/
def shortLeastCard : Claim7 := { stood := { row := shortLeastRow, standIns := [], harness := (true, "8abae4c075680bb3f7a8e35e20a3377f990e0206aea2311aa170bf98802044a4"), looks := false }, kinds := [], alts := [], laidByText := true, laidKinds := [.data, .pinned], laidTests := true, laidLooks := .later }
def ShortLeastCardSaid : Prop := Claim7.holds Tryd.pinned (.plain (OpenSpec.ofChange shortLeastSpec)) shortLeastCard

/-- THE TIED CARD OF 'platenlaw05.ShortClosest'. -/
def shortClosestCard : Claim7 := { stood := { row := shortClosestRow, standIns := [], harness := (true, "8abae4c075680bb3f7a8e35e20a3377f990e0206aea2311aa170bf98802044a4"), looks := false }, kinds := [], alts := [], laidByText := true, laidKinds := [.data, .pinned], laidTests := true, laidLooks := .later }
def ShortClosestCardSaid : Prop := Claim7.holds Tryd.pinned (.plain (OpenSpec.ofChange shortClosestSpec)) shortClosestCard

/-- THE TIED CARD OF 'platenlaw05.ShortExacts'. -/
def shortExactsCard : Claim7 := { stood := { row := shortExactsRow, standIns := [], harness := (true, "8abae4c075680bb3f7a8e35e20a3377f990e0206aea2311aa170bf98802044a4"), looks := false }, kinds := [], alts := [], laidByText := true, laidKinds := [.data, .pinned], laidTests := true, laidLooks := .later }
def ShortExactsCardSaid : Prop := Claim7.holds Tryd.pinned (.plain (OpenSpec.ofChange shortExactsSpec)) shortExactsCard

/-- THE TIED CARD OF 'platenlaw05.ShortRises'. -/
def shortRisesCard : Claim7 := { stood := { row := shortRisesRow, standIns := [], harness := (true, "8abae4c075680bb3f7a8e35e20a3377f990e0206aea2311aa170bf98802044a4"), looks := false }, kinds := [], alts := [], laidByText := true, laidKinds := [.data, .pinned], laidTests := true, laidLooks := .later }
def ShortRisesCardSaid : Prop := Claim7.holds Tryd.pinned (.plain (OpenSpec.ofChange shortRisesSpec)) shortRisesCard

/-- THE TIED CARD OF 'platenlaw05.ShortMiddles'. -/
def shortMiddlesCard : Claim7 := { stood := { row := shortMiddlesRow, standIns := [], harness := (true, "8abae4c075680bb3f7a8e35e20a3377f990e0206aea2311aa170bf98802044a4"), looks := false }, kinds := [], alts := [], laidByText := true, laidKinds := [.data, .pinned], laidTests := true, laidLooks := .later }
def ShortMiddlesCardSaid : Prop := Claim7.holds Tryd.pinned (.plain (OpenSpec.ofChange shortMiddlesSpec)) shortMiddlesCard

/-- THE TIED CARD OF 'platenlaw05.ShortRefuses'. -/
def shortRefusesCard : Claim7 := { stood := { row := shortRefusesRow, standIns := [], harness := (true, "8abae4c075680bb3f7a8e35e20a3377f990e0206aea2311aa170bf98802044a4"), looks := false }, kinds := [], alts := [], laidByText := true, laidKinds := [.data, .pinned], laidTests := true, laidLooks := .later }
def ShortRefusesCardSaid : Prop := Claim7.holds Tryd.pinned (.plain (OpenSpec.ofChange shortRefusesSpec)) shortRefusesCard

/-- THE SECOND FORM's CARD OF 'platenlaw05.ShortParts'. -/
def shortPartsUptoCard : Claim7 := { stood := { row := shortPartsUptoRow, standIns := [], harness := (true, "8abae4c075680bb3f7a8e35e20a3377f990e0206aea2311aa170bf98802044a4"), looks := false }, kinds := [], alts := [], laidByText := true, laidKinds := [.data, .pinned], laidTests := true, laidLooks := .later }
def ShortPartsUptoCardSaid : Prop := Claim7.holds Tryd.pinned (.plain (OpenSpec.upto shortPartsSpec)) shortPartsUptoCard

/-- THE SECOND FORM's CARD OF 'platenlaw05.ShortReads'. -/
def shortReadsUptoCard : Claim7 := { stood := { row := shortReadsUptoRow, standIns := [], harness := (true, "8abae4c075680bb3f7a8e35e20a3377f990e0206aea2311aa170bf98802044a4"), looks := false }, kinds := [], alts := [], laidByText := true, laidKinds := [.data, .pinned], laidTests := true, laidLooks := .later }
def ShortReadsUptoCardSaid : Prop := Claim7.holds Tryd.pinned (.plain (OpenSpec.upto shortReadsSpec)) shortReadsUptoCard

/-- THE SECOND FORM's CARD OF 'platenlaw05.ShortDigits'. -/
def shortDigitsUptoCard : Claim7 := { stood := { row := shortDigitsUptoRow, standIns := [], harness := (true, "8abae4c075680bb3f7a8e35e20a3377f990e0206aea2311aa170bf98802044a4"), looks := false }, kinds := [], alts := [], laidByText := true, laidKinds := [.data, .pinned], laidTests := true, laidLooks := .later }
def ShortDigitsUptoCardSaid : Prop := Claim7.holds Tryd.pinned (.plain (OpenSpec.upto shortDigitsSpec)) shortDigitsUptoCard

/-- THE SECOND FORM's CARD OF 'platenlaw05.ShortBack'. -/
def shortBackUptoCard : Claim7 := { stood := { row := shortBackUptoRow, standIns := [], harness := (true, "8abae4c075680bb3f7a8e35e20a3377f990e0206aea2311aa170bf98802044a4"), looks := false }, kinds := [], alts := [], laidByText := true, laidKinds := [.data, .pinned], laidTests := true, laidLooks := .later }
def ShortBackUptoCardSaid : Prop := Claim7.holds Tryd.pinned (.plain (OpenSpec.upto shortBackSpec)) shortBackUptoCard

/-- THE SECOND FORM's CARD OF 'platenlaw05.ShortLeast'. -/
def shortLeastUptoCard : Claim7 := { stood := { row := shortLeastUptoRow, standIns := [], harness := (true, "8abae4c075680bb3f7a8e35e20a3377f990e0206aea2311aa170bf98802044a4"), looks := false }, kinds := [], alts := [], laidByText := true, laidKinds := [.data, .pinned], laidTests := true, laidLooks := .later }
def ShortLeastUptoCardSaid : Prop := Claim7.holds Tryd.pinned (.plain (OpenSpec.upto shortLeastSpec)) shortLeastUptoCard

/-- THE SECOND FORM's CARD OF 'platenlaw05.ShortClosest'. -/
def shortClosestUptoCard : Claim7 := { stood := { row := shortClosestUptoRow, standIns := [], harness := (true, "8abae4c075680bb3f7a8e35e20a3377f990e0206aea2311aa170bf98802044a4"), looks := false }, kinds := [], alts := [], laidByText := true, laidKinds := [.data, .pinned], laidTests := true, laidLooks := .later }
def ShortClosestUptoCardSaid : Prop := Claim7.holds Tryd.pinned (.plain (OpenSpec.upto shortClosestSpec)) shortClosestUptoCard

/-- THE SECOND FORM's CARD OF 'platenlaw05.ShortExacts'. -/
def shortExactsUptoCard : Claim7 := { stood := { row := shortExactsUptoRow, standIns := [], harness := (true, "8abae4c075680bb3f7a8e35e20a3377f990e0206aea2311aa170bf98802044a4"), looks := false }, kinds := [], alts := [], laidByText := true, laidKinds := [.data, .pinned], laidTests := true, laidLooks := .later }
def ShortExactsUptoCardSaid : Prop := Claim7.holds Tryd.pinned (.plain (OpenSpec.upto shortExactsSpec)) shortExactsUptoCard

/-- THE SECOND FORM's CARD OF 'platenlaw05.ShortRises'. -/
def shortRisesUptoCard : Claim7 := { stood := { row := shortRisesUptoRow, standIns := [], harness := (true, "8abae4c075680bb3f7a8e35e20a3377f990e0206aea2311aa170bf98802044a4"), looks := false }, kinds := [], alts := [], laidByText := true, laidKinds := [.data, .pinned], laidTests := true, laidLooks := .later }
def ShortRisesUptoCardSaid : Prop := Claim7.holds Tryd.pinned (.plain (OpenSpec.upto shortRisesSpec)) shortRisesUptoCard

/-- THE SECOND FORM's CARD OF 'platenlaw05.ShortMiddles'. -/
def shortMiddlesUptoCard : Claim7 := { stood := { row := shortMiddlesUptoRow, standIns := [], harness := (true, "8abae4c075680bb3f7a8e35e20a3377f990e0206aea2311aa170bf98802044a4"), looks := false }, kinds := [], alts := [], laidByText := true, laidKinds := [.data, .pinned], laidTests := true, laidLooks := .later }
def ShortMiddlesUptoCardSaid : Prop := Claim7.holds Tryd.pinned (.plain (OpenSpec.upto shortMiddlesSpec)) shortMiddlesUptoCard

/-- THE SECOND FORM's CARD OF 'platenlaw05.ShortRefuses'. -/
def shortRefusesUptoCard : Claim7 := { stood := { row := shortRefusesUptoRow, standIns := [], harness := (true, "8abae4c075680bb3f7a8e35e20a3377f990e0206aea2311aa170bf98802044a4"), looks := false }, kinds := [], alts := [], laidByText := true, laidKinds := [.data, .pinned], laidTests := true, laidLooks := .later }
def ShortRefusesUptoCardSaid : Prop := Claim7.holds Tryd.pinned (.plain (OpenSpec.upto shortRefusesSpec)) shortRefusesUptoCard
end Rows
end Go.Proofs.YtmeapdchnnpceaaDoor
