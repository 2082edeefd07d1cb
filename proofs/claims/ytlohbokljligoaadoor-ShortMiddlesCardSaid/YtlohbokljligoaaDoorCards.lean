/-
  DERIVED. GIVEN WITH THE SEED: THE CARDS: each row of YtlohbokljligoaaDoorRows.lean that lists a variable, with what it lists TIED to the program's text (the seventh form; the later family's looks); each row that meets fmt, with fmt's text TOLD by the authors' own Lean function (tested against real Go, not proved from fmt's source: count such statements apart). THE CARD IS WHAT COUNTS. Prove the row's statement (the work); the ties are given (YtlohbokljligoaaDoorTie.lean); close each card by the builder's one call (the guide's Derived/Test/ToyasCard.lean, 'card_holds'). Laid BY PROGRAM, IN A SANDBOX (cutbox-door.mjs). By AI agents, Wed Nov 11 2026. No macro, syntax, notation, axiom, sorry.
-/
import Derived.Test.YtlohbokljligoaaDoorRows
import GoSem.ClaimSeven
namespace Go.Proofs.YtlohbokljligoaaDoor
namespace Rows

/-- THE TIED CARD OF 'platenlaw05.ShortMiddles'. -/
def shortMiddlesCard : Claim7 := { stood := { row := shortMiddlesRow, standIns := [], harness := (true, "87fdd742996ede5b69db343515a83e87613d9e7c7bf467cf4c4e9d2226f1b265"), looks := false }, kinds := [], alts := [], laidByText := true, laidKinds := [.data, .pinned], laidTests := true, laidLooks := .later }
def ShortMiddlesCardSaid : Prop := Claim7.holds Tryd.pinned (.plain (OpenSpec.ofChange shortMiddlesSpec)) shortMiddlesCard

/-- THE SECOND FORM's CARD OF 'platenlaw05.ShortMiddles'. -/
def shortMiddlesUptoCard : Claim7 := { stood := { row := shortMiddlesUptoRow, standIns := [], harness := (true, "87fdd742996ede5b69db343515a83e87613d9e7c7bf467cf4c4e9d2226f1b265"), looks := false }, kinds := [], alts := [], laidByText := true, laidKinds := [.data, .pinned], laidTests := true, laidLooks := .later }
def ShortMiddlesUptoCardSaid : Prop := Claim7.holds Tryd.pinned (.plain (OpenSpec.upto shortMiddlesSpec)) shortMiddlesUptoCard
end Rows
end Go.Proofs.YtlohbokljligoaaDoor
