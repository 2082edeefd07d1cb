/-
  DERIVED. GIVEN WITH THE SEED: THE CARDS: each row of YtobidkjmgkmaoaaDoorRows.lean that lists a variable, with what it lists TIED to the program's text (the seventh form; the later family's looks); each row that meets fmt, with fmt's text TOLD by the authors' own Lean function (tested against real Go, not proved from fmt's source: count such statements apart). THE CARD IS WHAT COUNTS. Prove the row's statement (the work); the ties are given (YtobidkjmgkmaoaaDoorTie.lean); close each card by the builder's one call (the guide's Derived/Test/ToyasCard.lean, 'card_holds'). Laid BY PROGRAM, IN A SANDBOX (cutbox-door.mjs). By AI agents, Wed Nov 11 2026. No macro, syntax, notation, axiom, sorry.
-/
import Derived.Test.YtobidkjmgkmaoaaDoorRows
import GoSem.ClaimSeven
namespace Go.Proofs.YtobidkjmgkmaoaaDoor
namespace Rows

/-- THE TIED CARD OF 'platenlaw04.BigdecNorms'. -/
def bigdecNormsCard : Claim7 := { stood := { row := bigdecNormsRow, standIns := [], harness := (true, "7ef9089f2a0eb454aa1f34b47dc47669ad7f0411cfd23b51240b024e176e4b34"), looks := false }, kinds := [], alts := [], laidByText := true, laidKinds := [.data, .pinned], laidTests := true, laidLooks := .later }
def BigdecNormsCardSaid : Prop := Claim7.holds Tryd.pinned (.plain (OpenSpec.ofChange bigdecNormsSpec)) bigdecNormsCard

/-- THE TIED CARD OF 'platenlaw04.BigdecExacts'. -/
def bigdecExactsCard : Claim7 := { stood := { row := bigdecExactsRow, standIns := [], harness := (true, "7ef9089f2a0eb454aa1f34b47dc47669ad7f0411cfd23b51240b024e176e4b34"), looks := false }, kinds := [], alts := [], laidByText := true, laidKinds := [.data, .pinned], laidTests := true, laidLooks := .later }
def BigdecExactsCardSaid : Prop := Claim7.holds Tryd.pinned (.plain (OpenSpec.ofChange bigdecExactsSpec)) bigdecExactsCard

/-- THE TIED CARD OF 'platenlaw04.BigdecRounds'. -/
def bigdecRoundsCard : Claim7 := { stood := { row := bigdecRoundsRow, standIns := [], harness := (true, "7ef9089f2a0eb454aa1f34b47dc47669ad7f0411cfd23b51240b024e176e4b34"), looks := false }, kinds := [], alts := [], laidByText := true, laidKinds := [.data, .pinned], laidTests := true, laidLooks := .later }
def BigdecRoundsCardSaid : Prop := Claim7.holds Tryd.pinned (.plain (OpenSpec.ofChange bigdecRoundsSpec)) bigdecRoundsCard

/-- THE TIED CARD OF 'platenlaw04.BigdecPlaces'. -/
def bigdecPlacesCard : Claim7 := { stood := { row := bigdecPlacesRow, standIns := [], harness := (true, "7ef9089f2a0eb454aa1f34b47dc47669ad7f0411cfd23b51240b024e176e4b34"), looks := false }, kinds := [], alts := [], laidByText := true, laidKinds := [.data, .pinned], laidTests := true, laidLooks := .later }
def BigdecPlacesCardSaid : Prop := Claim7.holds Tryd.pinned (.plain (OpenSpec.ofChange bigdecPlacesSpec)) bigdecPlacesCard

/-- THE TIED CARD OF 'platenlaw04.BigdecCmps'. -/
def bigdecCmpsCard : Claim7 := { stood := { row := bigdecCmpsRow, standIns := [], harness := (true, "7ef9089f2a0eb454aa1f34b47dc47669ad7f0411cfd23b51240b024e176e4b34"), looks := false }, kinds := [], alts := [], laidByText := true, laidKinds := [.data, .pinned], laidTests := true, laidLooks := .later }
def BigdecCmpsCardSaid : Prop := Claim7.holds Tryd.pinned (.plain (OpenSpec.ofChange bigdecCmpsSpec)) bigdecCmpsCard

/-- THE TIED CARD OF 'platenlaw04.BigdecAdds'. -/
def bigdecAddsCard : Claim7 := { stood := { row := bigdecAddsRow, standIns := [], harness := (true, "7ef9089f2a0eb454aa1f34b47dc47669ad7f0411cfd23b51240b024e176e4b34"), looks := false }, kinds := [], alts := [], laidByText := true, laidKinds := [.data, .pinned], laidTests := true, laidLooks := .later }
def BigdecAddsCardSaid : Prop := Claim7.holds Tryd.pinned (.plain (OpenSpec.ofChange bigdecAddsSpec)) bigdecAddsCard

/-- THE TIED CARD OF 'platenlaw04.BigdecDoubles'. -/
def bigdecDoublesCard : Claim7 := { stood := { row := bigdecDoublesRow, standIns := [], harness := (true, "7ef9089f2a0eb454aa1f34b47dc47669ad7f0411cfd23b51240b024e176e4b34"), looks := false }, kinds := [], alts := [], laidByText := true, laidKinds := [.data, .pinned], laidTests := true, laidLooks := .later }
def BigdecDoublesCardSaid : Prop := Claim7.holds Tryd.pinned (.plain (OpenSpec.ofChange bigdecDoublesSpec)) bigdecDoublesCard

/-- THE TIED CARD OF 'platenlaw04.BigdecOrders'. -/
def bigdecOrdersCard : Claim7 := { stood := { row := bigdecOrdersRow, standIns := [], harness := (true, "7ef9089f2a0eb454aa1f34b47dc47669ad7f0411cfd23b51240b024e176e4b34"), looks := false }, kinds := [], alts := [], laidByText := true, laidKinds := [.data, .pinned], laidTests := true, laidLooks := .later }
def BigdecOrdersCardSaid : Prop := Claim7.holds Tryd.pinned (.plain (OpenSpec.ofChange bigdecOrdersSpec)) bigdecOrdersCard

/-- THE TIED CARD OF 'platenlaw04.BigdecEven'. -/
def bigdecEvenCard : Claim7 := { stood := { row := bigdecEvenRow, standIns := [], harness := (true, "7ef9089f2a0eb454aa1f34b47dc47669ad7f0411cfd23b51240b024e176e4b34"), looks := false }, kinds := [], alts := [], laidByText := true, laidKinds := [.data, .pinned], laidTests := true, laidLooks := .later }
def BigdecEvenCardSaid : Prop := Claim7.holds Tryd.pinned (.plain (OpenSpec.ofChange bigdecEvenSpec)) bigdecEvenCard

/-- THE TIED CARD OF 'platenlaw04.BigdecNear'. -/
def bigdecNearCard : Claim7 := { stood := { row := bigdecNearRow, standIns := [], harness := (true, "7ef9089f2a0eb454aa1f34b47dc47669ad7f0411cfd23b51240b024e176e4b34"), looks := false }, kinds := [], alts := [], laidByText := true, laidKinds := [.data, .pinned], laidTests := true, laidLooks := .later }
def BigdecNearCardSaid : Prop := Claim7.holds Tryd.pinned (.plain (OpenSpec.ofChange bigdecNearSpec)) bigdecNearCard

/-- THE SECOND FORM's CARD OF 'platenlaw04.BigdecNorms'. -/
def bigdecNormsUptoCard : Claim7 := { stood := { row := bigdecNormsUptoRow, standIns := [], harness := (true, "7ef9089f2a0eb454aa1f34b47dc47669ad7f0411cfd23b51240b024e176e4b34"), looks := false }, kinds := [], alts := [], laidByText := true, laidKinds := [.data, .pinned], laidTests := true, laidLooks := .later }
def BigdecNormsUptoCardSaid : Prop := Claim7.holds Tryd.pinned (.plain (OpenSpec.upto bigdecNormsSpec)) bigdecNormsUptoCard

/-- THE SECOND FORM's CARD OF 'platenlaw04.BigdecExacts'. -/
def bigdecExactsUptoCard : Claim7 := { stood := { row := bigdecExactsUptoRow, standIns := [], harness := (true, "7ef9089f2a0eb454aa1f34b47dc47669ad7f0411cfd23b51240b024e176e4b34"), looks := false }, kinds := [], alts := [], laidByText := true, laidKinds := [.data, .pinned], laidTests := true, laidLooks := .later }
def BigdecExactsUptoCardSaid : Prop := Claim7.holds Tryd.pinned (.plain (OpenSpec.upto bigdecExactsSpec)) bigdecExactsUptoCard

/-- THE SECOND FORM's CARD OF 'platenlaw04.BigdecRounds'. -/
def bigdecRoundsUptoCard : Claim7 := { stood := { row := bigdecRoundsUptoRow, standIns := [], harness := (true, "7ef9089f2a0eb454aa1f34b47dc47669ad7f0411cfd23b51240b024e176e4b34"), looks := false }, kinds := [], alts := [], laidByText := true, laidKinds := [.data, .pinned], laidTests := true, laidLooks := .later }
def BigdecRoundsUptoCardSaid : Prop := Claim7.holds Tryd.pinned (.plain (OpenSpec.upto bigdecRoundsSpec)) bigdecRoundsUptoCard

/-- THE SECOND FORM's CARD OF 'platenlaw04.BigdecPlaces'. -/
def bigdecPlacesUptoCard : Claim7 := { stood := { row := bigdecPlacesUptoRow, standIns := [], harness := (true, "7ef9089f2a0eb454aa1f34b47dc47669ad7f0411cfd23b51240b024e176e4b34"), looks := false }, kinds := [], alts := [], laidByText := true, laidKinds := [.data, .pinned], laidTests := true, laidLooks := .later }
def BigdecPlacesUptoCardSaid : Prop := Claim7.holds Tryd.pinned (.plain (OpenSpec.upto bigdecPlacesSpec)) bigdecPlacesUptoCard

/-- THE SECOND FORM's CARD OF 'platenlaw04.BigdecCmps'. -/
def bigdecCmpsUptoCard : Claim7 := { stood := { row := bigdecCmpsUptoRow, standIns := [], harness := (true, "7ef9089f2a0eb454aa1f34b47dc47669ad7f0411cfd23b51240b024e176e4b34"), looks := false }, kinds := [], alts := [], laidByText := true, laidKinds := [.data, .pinned], laidTests := true, laidLooks := .later }
def BigdecCmpsUptoCardSaid : Prop := Claim7.holds Tryd.pinned (.plain (OpenSpec.upto bigdecCmpsSpec)) bigdecCmpsUptoCard

/-- THE SECOND FORM's CARD OF 'platenlaw04.BigdecAdds'. -/
def bigdecAddsUptoCard : Claim7 := { stood := { row := bigdecAddsUptoRow, standIns := [], harness := (true, "7ef9089f2a0eb454aa1f34b47dc47669ad7f0411cfd23b51240b024e176e4b34"), looks := false }, kinds := [], alts := [], laidByText := true, laidKinds := [.data, .pinned], laidTests := true, laidLooks := .later }
def BigdecAddsUptoCardSaid : Prop := Claim7.holds Tryd.pinned (.plain (OpenSpec.upto bigdecAddsSpec)) bigdecAddsUptoCard

/-- THE SECOND FORM's CARD OF 'platenlaw04.BigdecDoubles'. -/
def bigdecDoublesUptoCard : Claim7 := { stood := { row := bigdecDoublesUptoRow, standIns := [], harness := (true, "7ef9089f2a0eb454aa1f34b47dc47669ad7f0411cfd23b51240b024e176e4b34"), looks := false }, kinds := [], alts := [], laidByText := true, laidKinds := [.data, .pinned], laidTests := true, laidLooks := .later }
def BigdecDoublesUptoCardSaid : Prop := Claim7.holds Tryd.pinned (.plain (OpenSpec.upto bigdecDoublesSpec)) bigdecDoublesUptoCard

/-- THE SECOND FORM's CARD OF 'platenlaw04.BigdecOrders'. -/
def bigdecOrdersUptoCard : Claim7 := { stood := { row := bigdecOrdersUptoRow, standIns := [], harness := (true, "7ef9089f2a0eb454aa1f34b47dc47669ad7f0411cfd23b51240b024e176e4b34"), looks := false }, kinds := [], alts := [], laidByText := true, laidKinds := [.data, .pinned], laidTests := true, laidLooks := .later }
def BigdecOrdersUptoCardSaid : Prop := Claim7.holds Tryd.pinned (.plain (OpenSpec.upto bigdecOrdersSpec)) bigdecOrdersUptoCard

/-- THE SECOND FORM's CARD OF 'platenlaw04.BigdecEven'. -/
def bigdecEvenUptoCard : Claim7 := { stood := { row := bigdecEvenUptoRow, standIns := [], harness := (true, "7ef9089f2a0eb454aa1f34b47dc47669ad7f0411cfd23b51240b024e176e4b34"), looks := false }, kinds := [], alts := [], laidByText := true, laidKinds := [.data, .pinned], laidTests := true, laidLooks := .later }
def BigdecEvenUptoCardSaid : Prop := Claim7.holds Tryd.pinned (.plain (OpenSpec.upto bigdecEvenSpec)) bigdecEvenUptoCard

/-- THE SECOND FORM's CARD OF 'platenlaw04.BigdecNear'. -/
def bigdecNearUptoCard : Claim7 := { stood := { row := bigdecNearUptoRow, standIns := [], harness := (true, "7ef9089f2a0eb454aa1f34b47dc47669ad7f0411cfd23b51240b024e176e4b34"), looks := false }, kinds := [], alts := [], laidByText := true, laidKinds := [.data, .pinned], laidTests := true, laidLooks := .later }
def BigdecNearUptoCardSaid : Prop := Claim7.holds Tryd.pinned (.plain (OpenSpec.upto bigdecNearSpec)) bigdecNearUptoCard
end Rows
end Go.Proofs.YtobidkjmgkmaoaaDoor
