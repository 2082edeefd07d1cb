/-
  NARROWER THAN 'FOR EVERY INPUT', by the rows' own cells (each row's printed sentence says how): BigdecNorms: laid · BigdecExacts: laid · BigdecRounds: laid · BigdecPlaces: laid · BigdecCmps: laid · BigdecAdds: laid · BigdecDoubles: laid · BigdecOrders: laid · BigdecEven: laid · BigdecNear: laid.
  DERIVED. THE GIVEN ROWS OF THIS SEAT. 10 by the template 'for every input the law returns true; each argument reads behind the call as it read before'; 0 by the template 'total and deterministic' (their statements: YtobidkjmgkmaoaaDoorTotals.lean).
  GIVEN WITH THE SEED: the statements are not yours to turn. If you find one false, say at which input.
  Laid BY PROGRAM, IN A SANDBOX (cutbox-rows.mjs): the forced cells as the released guide's own fill.sh prints them over the translation 572e97b6f7ce2ea0… (all of the seat's roots in one cut). By AI agents, Wed Nov 11 2026. No macro, syntax, notation, axiom, sorry.
-/
import Derived.Test.YtobidkjmgkmaoaaDoorChecked
import GoSem.PinnedTables
import GoSem.Claim
import GoSem.ClaimJoined
import GoSem.ClaimMapViews
import Derived.JoinedTies
import Derived.KernelRfl
namespace Go.Proofs.YtobidkjmgkmaoaaDoor
/- THE CELL 'sum', in the pinned program and in every row, IS THE sha256 OF THE DUMP (.gsa) THAT YtobidkjmgkmaoaaDoorProg.lean LOADS. Nothing in Lean hashes anything: it is a label: what it is worth is what the hold of that sum in a sandbox is worth. -/
noncomputable def Tryd.pinned : Pinned := { name := "ytobidkjmgkmaoaadoor", sum := "572e97b6f7ce2ea0085f0f40d8f2ff0e283b56453ea79933d206876290a50d65", checked := Tryd.checked }
namespace Rows
def none {H : Type} : Left H := { results := [], args := [] }

/- WHAT THE LISTED PACKAGE-LEVEL VARIABLES READ AS WHEN THE CALL BEGINS. Each datum BY PROGRAM (the guide's laid-datum.mjs) off the statement by which the dump's own 'gosem.cut.vars' lays the variable. In a bare row this is a premise. The card (YtobidkjmgkmaoaaDoorCards.lean) ties it to the program's text. -/
def laid_unicode_utf8_acceptRanges {H : Type} : DataW H := .agg [.agg [.lit (.int .u8 128), .lit (.int .u8 191)], .agg [.lit (.int .u8 160), .lit (.int .u8 191)], .agg [.lit (.int .u8 128), .lit (.int .u8 159)], .agg [.lit (.int .u8 144), .lit (.int .u8 191)], .agg [.lit (.int .u8 128), .lit (.int .u8 143)], .agg [.lit (.int .u8 0), .lit (.int .u8 0)], .agg [.lit (.int .u8 0), .lit (.int .u8 0)], .agg [.lit (.int .u8 0), .lit (.int .u8 0)], .agg [.lit (.int .u8 0), .lit (.int .u8 0)], .agg [.lit (.int .u8 0), .lit (.int .u8 0)], .agg [.lit (.int .u8 0), .lit (.int .u8 0)], .agg [.lit (.int .u8 0), .lit (.int .u8 0)], .agg [.lit (.int .u8 0), .lit (.int .u8 0)], .agg [.lit (.int .u8 0), .lit (.int .u8 0)], .agg [.lit (.int .u8 0), .lit (.int .u8 0)], .agg [.lit (.int .u8 0), .lit (.int .u8 0)]]
/-- One of Go's own tables, pinned by name: the form's constant. -/
def laid_unicode_utf8_first : DataW Unit := Go.Pinned.utf8First

/-- 'platenlaw04.BigdecNorms': WHATEVER THE INPUT: true; the input reads as it did. -/
def bigdecNormsSpec : ChangeSpec := { name := "bigdecNorms", fn := fun _ => fun
  | [d] => { results := [.lit (.bool true)], args := [d] }
  | _ => none }
def bigdecNormsRow : OpenClaim := { program := "ytobidkjmgkmaoaadoor", sum := "572e97b6f7ce2ea0085f0f40d8f2ff0e283b56453ea79933d206876290a50d65", func := "platen/platenlaw04.BigdecNorms", spec := "bigdecNorms", inPlace := ["internal/bytealg.IndexByteString", "internal/bytealg.IndexString"], named := ["unicode/utf8.first", "unicode/utf8.acceptRanges", "internal/bytealg.MaxLen"], apart := false, laid := [("unicode/utf8.acceptRanges", laid_unicode_utf8_acceptRanges), ("unicode/utf8.first", laid_unicode_utf8_first)] }
def BigdecNormsSaid : Prop := bigdecNormsRow.holds Tryd.pinned (OpenSpec.ofChange bigdecNormsSpec)

/-- ITS FALSE NEIGHBOUR: 'it returns false'. Refute it at one input. -/
def bigdecNormsWrong : ChangeSpec := { name := "bigdecNorms", fn := fun _ => fun
  | [d] => { results := [.lit (.bool false)], args := [d] }
  | _ => none }
def BigdecNormsWrongFalsely : Prop := bigdecNormsRow.holds Tryd.pinned (OpenSpec.ofChange bigdecNormsWrong)

/-- 'platenlaw04.BigdecExacts': WHATEVER THE INPUT: true; the input reads as it did. -/
def bigdecExactsSpec : ChangeSpec := { name := "bigdecExacts", fn := fun _ => fun
  | [d1, d2] => { results := [.lit (.bool true)], args := [d1, d2] }
  | _ => none }
def bigdecExactsRow : OpenClaim := { program := "ytobidkjmgkmaoaadoor", sum := "572e97b6f7ce2ea0085f0f40d8f2ff0e283b56453ea79933d206876290a50d65", func := "platen/platenlaw04.BigdecExacts", spec := "bigdecExacts", inPlace := ["internal/bytealg.IndexByteString", "internal/bytealg.IndexString"], named := ["unicode/utf8.first", "unicode/utf8.acceptRanges", "internal/bytealg.MaxLen"], apart := false, laid := [("unicode/utf8.acceptRanges", laid_unicode_utf8_acceptRanges), ("unicode/utf8.first", laid_unicode_utf8_first)] }
def BigdecExactsSaid : Prop := bigdecExactsRow.holds Tryd.pinned (OpenSpec.ofChange bigdecExactsSpec)

/-- ITS FALSE NEIGHBOUR: 'it returns false'. Refute it at one input. -/
def bigdecExactsWrong : ChangeSpec := { name := "bigdecExacts", fn := fun _ => fun
  | [d1, d2] => { results := [.lit (.bool false)], args := [d1, d2] }
  | _ => none }
def BigdecExactsWrongFalsely : Prop := bigdecExactsRow.holds Tryd.pinned (OpenSpec.ofChange bigdecExactsWrong)

/-- 'platenlaw04.BigdecRounds': WHATEVER THE INPUT: true; the input reads as it did. -/
def bigdecRoundsSpec : ChangeSpec := { name := "bigdecRounds", fn := fun _ => fun
  | [d1, d2] => { results := [.lit (.bool true)], args := [d1, d2] }
  | _ => none }
def bigdecRoundsRow : OpenClaim := { program := "ytobidkjmgkmaoaadoor", sum := "572e97b6f7ce2ea0085f0f40d8f2ff0e283b56453ea79933d206876290a50d65", func := "platen/platenlaw04.BigdecRounds", spec := "bigdecRounds", inPlace := ["internal/bytealg.IndexByteString", "internal/bytealg.IndexString"], named := ["unicode/utf8.first", "unicode/utf8.acceptRanges", "internal/bytealg.MaxLen"], apart := false, laid := [("unicode/utf8.acceptRanges", laid_unicode_utf8_acceptRanges), ("unicode/utf8.first", laid_unicode_utf8_first)] }
def BigdecRoundsSaid : Prop := bigdecRoundsRow.holds Tryd.pinned (OpenSpec.ofChange bigdecRoundsSpec)

/-- ITS FALSE NEIGHBOUR: 'it returns false'. Refute it at one input. -/
def bigdecRoundsWrong : ChangeSpec := { name := "bigdecRounds", fn := fun _ => fun
  | [d1, d2] => { results := [.lit (.bool false)], args := [d1, d2] }
  | _ => none }
def BigdecRoundsWrongFalsely : Prop := bigdecRoundsRow.holds Tryd.pinned (OpenSpec.ofChange bigdecRoundsWrong)

/-- 'platenlaw04.BigdecPlaces': WHATEVER THE INPUT: true; the input reads as it did. -/
def bigdecPlacesSpec : ChangeSpec := { name := "bigdecPlaces", fn := fun _ => fun
  | [d1, d2] => { results := [.lit (.bool true)], args := [d1, d2] }
  | _ => none }
def bigdecPlacesRow : OpenClaim := { program := "ytobidkjmgkmaoaadoor", sum := "572e97b6f7ce2ea0085f0f40d8f2ff0e283b56453ea79933d206876290a50d65", func := "platen/platenlaw04.BigdecPlaces", spec := "bigdecPlaces", inPlace := ["internal/bytealg.IndexByteString", "internal/bytealg.IndexString"], named := ["unicode/utf8.first", "unicode/utf8.acceptRanges", "internal/bytealg.MaxLen"], apart := false, laid := [("unicode/utf8.acceptRanges", laid_unicode_utf8_acceptRanges), ("unicode/utf8.first", laid_unicode_utf8_first)] }
def BigdecPlacesSaid : Prop := bigdecPlacesRow.holds Tryd.pinned (OpenSpec.ofChange bigdecPlacesSpec)

/-- ITS FALSE NEIGHBOUR: 'it returns false'. Refute it at one input. -/
def bigdecPlacesWrong : ChangeSpec := { name := "bigdecPlaces", fn := fun _ => fun
  | [d1, d2] => { results := [.lit (.bool false)], args := [d1, d2] }
  | _ => none }
def BigdecPlacesWrongFalsely : Prop := bigdecPlacesRow.holds Tryd.pinned (OpenSpec.ofChange bigdecPlacesWrong)

/-- 'platenlaw04.BigdecCmps': WHATEVER THE INPUT: true; the input reads as it did. -/
def bigdecCmpsSpec : ChangeSpec := { name := "bigdecCmps", fn := fun _ => fun
  | [d1, d2] => { results := [.lit (.bool true)], args := [d1, d2] }
  | _ => none }
def bigdecCmpsRow : OpenClaim := { program := "ytobidkjmgkmaoaadoor", sum := "572e97b6f7ce2ea0085f0f40d8f2ff0e283b56453ea79933d206876290a50d65", func := "platen/platenlaw04.BigdecCmps", spec := "bigdecCmps", inPlace := ["internal/bytealg.IndexByteString", "internal/bytealg.IndexString", "internal/bytealg.abigen_runtime_cmpstring"], named := ["unicode/utf8.first", "unicode/utf8.acceptRanges", "internal/bytealg.MaxLen"], apart := false, laid := [("unicode/utf8.acceptRanges", laid_unicode_utf8_acceptRanges), ("unicode/utf8.first", laid_unicode_utf8_first)] }
def BigdecCmpsSaid : Prop := bigdecCmpsRow.holds Tryd.pinned (OpenSpec.ofChange bigdecCmpsSpec)

/-- ITS FALSE NEIGHBOUR: 'it returns false'. Refute it at one input. -/
def bigdecCmpsWrong : ChangeSpec := { name := "bigdecCmps", fn := fun _ => fun
  | [d1, d2] => { results := [.lit (.bool false)], args := [d1, d2] }
  | _ => none }
def BigdecCmpsWrongFalsely : Prop := bigdecCmpsRow.holds Tryd.pinned (OpenSpec.ofChange bigdecCmpsWrong)

/-- 'platenlaw04.BigdecAdds': WHATEVER THE INPUT: true; the input reads as it did. -/
def bigdecAddsSpec : ChangeSpec := { name := "bigdecAdds", fn := fun _ => fun
  | [d1, d2] => { results := [.lit (.bool true)], args := [d1, d2] }
  | _ => none }
def bigdecAddsRow : OpenClaim := { program := "ytobidkjmgkmaoaadoor", sum := "572e97b6f7ce2ea0085f0f40d8f2ff0e283b56453ea79933d206876290a50d65", func := "platen/platenlaw04.BigdecAdds", spec := "bigdecAdds", inPlace := ["internal/bytealg.IndexByteString", "internal/bytealg.IndexString", "internal/bytealg.abigen_runtime_cmpstring"], named := ["unicode/utf8.first", "unicode/utf8.acceptRanges", "internal/bytealg.MaxLen"], apart := false, laid := [("unicode/utf8.acceptRanges", laid_unicode_utf8_acceptRanges), ("unicode/utf8.first", laid_unicode_utf8_first)] }
def BigdecAddsSaid : Prop := bigdecAddsRow.holds Tryd.pinned (OpenSpec.ofChange bigdecAddsSpec)

/-- ITS FALSE NEIGHBOUR: 'it returns false'. Refute it at one input. -/
def bigdecAddsWrong : ChangeSpec := { name := "bigdecAdds", fn := fun _ => fun
  | [d1, d2] => { results := [.lit (.bool false)], args := [d1, d2] }
  | _ => none }
def BigdecAddsWrongFalsely : Prop := bigdecAddsRow.holds Tryd.pinned (OpenSpec.ofChange bigdecAddsWrong)

/-- 'platenlaw04.BigdecDoubles': WHATEVER THE INPUT: true; the input reads as it did. -/
def bigdecDoublesSpec : ChangeSpec := { name := "bigdecDoubles", fn := fun _ => fun
  | [d1, d2] => { results := [.lit (.bool true)], args := [d1, d2] }
  | _ => none }
def bigdecDoublesRow : OpenClaim := { program := "ytobidkjmgkmaoaadoor", sum := "572e97b6f7ce2ea0085f0f40d8f2ff0e283b56453ea79933d206876290a50d65", func := "platen/platenlaw04.BigdecDoubles", spec := "bigdecDoubles", inPlace := ["internal/bytealg.IndexByteString", "internal/bytealg.IndexString", "internal/bytealg.abigen_runtime_cmpstring"], named := ["unicode/utf8.first", "unicode/utf8.acceptRanges", "internal/bytealg.MaxLen"], apart := false, laid := [("unicode/utf8.acceptRanges", laid_unicode_utf8_acceptRanges), ("unicode/utf8.first", laid_unicode_utf8_first)] }
def BigdecDoublesSaid : Prop := bigdecDoublesRow.holds Tryd.pinned (OpenSpec.ofChange bigdecDoublesSpec)

/-- ITS FALSE NEIGHBOUR: 'it returns false'. Refute it at one input. -/
def bigdecDoublesWrong : ChangeSpec := { name := "bigdecDoubles", fn := fun _ => fun
  | [d1, d2] => { results := [.lit (.bool false)], args := [d1, d2] }
  | _ => none }
def BigdecDoublesWrongFalsely : Prop := bigdecDoublesRow.holds Tryd.pinned (OpenSpec.ofChange bigdecDoublesWrong)

/-- 'platenlaw04.BigdecOrders': WHATEVER THE INPUT: true; the input reads as it did. -/
def bigdecOrdersSpec : ChangeSpec := { name := "bigdecOrders", fn := fun _ => fun
  | [d1, d2, d3] => { results := [.lit (.bool true)], args := [d1, d2, d3] }
  | _ => none }
def bigdecOrdersRow : OpenClaim := { program := "ytobidkjmgkmaoaadoor", sum := "572e97b6f7ce2ea0085f0f40d8f2ff0e283b56453ea79933d206876290a50d65", func := "platen/platenlaw04.BigdecOrders", spec := "bigdecOrders", inPlace := ["internal/bytealg.IndexByteString", "internal/bytealg.IndexString", "internal/bytealg.abigen_runtime_cmpstring"], named := ["unicode/utf8.first", "unicode/utf8.acceptRanges", "internal/bytealg.MaxLen"], apart := false, laid := [("unicode/utf8.acceptRanges", laid_unicode_utf8_acceptRanges), ("unicode/utf8.first", laid_unicode_utf8_first)] }
def BigdecOrdersSaid : Prop := bigdecOrdersRow.holds Tryd.pinned (OpenSpec.ofChange bigdecOrdersSpec)

/-- ITS FALSE NEIGHBOUR: 'it returns false'. Refute it at one input. -/
def bigdecOrdersWrong : ChangeSpec := { name := "bigdecOrders", fn := fun _ => fun
  | [d1, d2, d3] => { results := [.lit (.bool false)], args := [d1, d2, d3] }
  | _ => none }
def BigdecOrdersWrongFalsely : Prop := bigdecOrdersRow.holds Tryd.pinned (OpenSpec.ofChange bigdecOrdersWrong)

/-- 'platenlaw04.BigdecEven': WHATEVER THE INPUT: true; the input reads as it did. -/
def bigdecEvenSpec : ChangeSpec := { name := "bigdecEven", fn := fun _ => fun
  | [d1, d2] => { results := [.lit (.bool true)], args := [d1, d2] }
  | _ => none }
def bigdecEvenRow : OpenClaim := { program := "ytobidkjmgkmaoaadoor", sum := "572e97b6f7ce2ea0085f0f40d8f2ff0e283b56453ea79933d206876290a50d65", func := "platen/platenlaw04.BigdecEven", spec := "bigdecEven", inPlace := ["internal/bytealg.IndexByteString", "internal/bytealg.IndexString", "internal/bytealg.abigen_runtime_cmpstring"], named := ["unicode/utf8.first", "unicode/utf8.acceptRanges", "internal/bytealg.MaxLen"], apart := false, laid := [("unicode/utf8.acceptRanges", laid_unicode_utf8_acceptRanges), ("unicode/utf8.first", laid_unicode_utf8_first)] }
def BigdecEvenSaid : Prop := bigdecEvenRow.holds Tryd.pinned (OpenSpec.ofChange bigdecEvenSpec)

/-- ITS FALSE NEIGHBOUR: 'it returns false'. Refute it at one input. -/
def bigdecEvenWrong : ChangeSpec := { name := "bigdecEven", fn := fun _ => fun
  | [d1, d2] => { results := [.lit (.bool false)], args := [d1, d2] }
  | _ => none }
def BigdecEvenWrongFalsely : Prop := bigdecEvenRow.holds Tryd.pinned (OpenSpec.ofChange bigdecEvenWrong)

/-- 'platenlaw04.BigdecNear': WHATEVER THE INPUT: true; the input reads as it did. -/
def bigdecNearSpec : ChangeSpec := { name := "bigdecNear", fn := fun _ => fun
  | [d1, d2] => { results := [.lit (.bool true)], args := [d1, d2] }
  | _ => none }
def bigdecNearRow : OpenClaim := { program := "ytobidkjmgkmaoaadoor", sum := "572e97b6f7ce2ea0085f0f40d8f2ff0e283b56453ea79933d206876290a50d65", func := "platen/platenlaw04.BigdecNear", spec := "bigdecNear", inPlace := ["internal/bytealg.IndexByteString", "internal/bytealg.IndexString", "internal/bytealg.abigen_runtime_cmpstring"], named := ["unicode/utf8.first", "unicode/utf8.acceptRanges", "internal/bytealg.MaxLen"], apart := false, laid := [("unicode/utf8.acceptRanges", laid_unicode_utf8_acceptRanges), ("unicode/utf8.first", laid_unicode_utf8_first)] }
def BigdecNearSaid : Prop := bigdecNearRow.holds Tryd.pinned (OpenSpec.ofChange bigdecNearSpec)

/-- ITS FALSE NEIGHBOUR: 'it returns false'. Refute it at one input. -/
def bigdecNearWrong : ChangeSpec := { name := "bigdecNear", fn := fun _ => fun
  | [d1, d2] => { results := [.lit (.bool false)], args := [d1, d2] }
  | _ => none }
def BigdecNearWrongFalsely : Prop := bigdecNearRow.holds Tryd.pinned (OpenSpec.ofChange bigdecNearWrong)

/- THE SECOND FORM. 'bulk': how many values and letters a reading holds, each counted each time it is reached (what is shared counts as often as it is met; a slice's spare places count too). A statement '..UptoSaid' is the law's where the arguments, and the package variables that the reading takes, are together of bulk at most 1048576: NARROWER than '..Said'. Prove '..Said' where nothing that the law and all that it calls make is longer than what came in: it says more and counts as full. Else prove '..UptoSaid'. A law counts once. -/
mutual
def uptoBulk {H : Type} : DataW H → Nat
  | .lit (.string bytes) => bytes.length + 1
  | .lit _ => 1
  | .nil => 1
  | .ptr d => uptoBulk d + 1
  | .slice elems spare => uptoBulkAll elems + uptoBulkAll spare + 1
  | .agg parts => uptoBulkAll parts + 1
  | .iface _ d => uptoBulk d + 1
  | .map entries => uptoBulkEntries entries + 1
  | .held _ => 1
def uptoBulkAll {H : Type} : List (DataW H) → Nat
  | [] => 0
  | d :: r => uptoBulk d + uptoBulkAll r
def uptoBulkEntries {H : Type} : List (Lit × DataW H) → Nat
  | [] => 0
  | x :: r => uptoBulkEntry x + uptoBulkEntries r
def uptoBulkEntry {H : Type} : Lit × DataW H → Nat
  | (.string bytes, d) => bytes.length + uptoBulk d + 1
  | (_, d) => uptoBulk d + 1
 end
def uptoSmall : (H : Type) → List (DataW H) → Bool := fun _ ds => decide (uptoBulkAll ds ≤ 1048576)
def OpenSpec.upto (s : _root_.Go.ChangeSpec) : _root_.Go.OpenSpec := { _root_.Go.OpenSpec.ofChange s with cond := some uptoSmall }

/-- 'platenlaw04.BigdecNorms', WHERE WHAT IT READS IS OF BULK AT MOST 1048576: true; the input reads as it did. -/
def bigdecNormsUptoRow : OpenClaim := { program := "ytobidkjmgkmaoaadoor", sum := "572e97b6f7ce2ea0085f0f40d8f2ff0e283b56453ea79933d206876290a50d65", func := "platen/platenlaw04.BigdecNorms", spec := "bigdecNorms", inPlace := ["internal/bytealg.IndexByteString", "internal/bytealg.IndexString"], named := ["unicode/utf8.first", "unicode/utf8.acceptRanges", "internal/bytealg.MaxLen"], apart := false, laid := [("unicode/utf8.acceptRanges", laid_unicode_utf8_acceptRanges), ("unicode/utf8.first", laid_unicode_utf8_first)], narrowed := true }
def BigdecNormsUptoSaid : Prop := bigdecNormsUptoRow.holds Tryd.pinned (OpenSpec.upto bigdecNormsSpec)

/-- 'platenlaw04.BigdecExacts', WHERE WHAT IT READS IS OF BULK AT MOST 1048576: true; the input reads as it did. -/
def bigdecExactsUptoRow : OpenClaim := { program := "ytobidkjmgkmaoaadoor", sum := "572e97b6f7ce2ea0085f0f40d8f2ff0e283b56453ea79933d206876290a50d65", func := "platen/platenlaw04.BigdecExacts", spec := "bigdecExacts", inPlace := ["internal/bytealg.IndexByteString", "internal/bytealg.IndexString"], named := ["unicode/utf8.first", "unicode/utf8.acceptRanges", "internal/bytealg.MaxLen"], apart := false, laid := [("unicode/utf8.acceptRanges", laid_unicode_utf8_acceptRanges), ("unicode/utf8.first", laid_unicode_utf8_first)], narrowed := true }
def BigdecExactsUptoSaid : Prop := bigdecExactsUptoRow.holds Tryd.pinned (OpenSpec.upto bigdecExactsSpec)

/-- 'platenlaw04.BigdecRounds', WHERE WHAT IT READS IS OF BULK AT MOST 1048576: true; the input reads as it did. -/
def bigdecRoundsUptoRow : OpenClaim := { program := "ytobidkjmgkmaoaadoor", sum := "572e97b6f7ce2ea0085f0f40d8f2ff0e283b56453ea79933d206876290a50d65", func := "platen/platenlaw04.BigdecRounds", spec := "bigdecRounds", inPlace := ["internal/bytealg.IndexByteString", "internal/bytealg.IndexString"], named := ["unicode/utf8.first", "unicode/utf8.acceptRanges", "internal/bytealg.MaxLen"], apart := false, laid := [("unicode/utf8.acceptRanges", laid_unicode_utf8_acceptRanges), ("unicode/utf8.first", laid_unicode_utf8_first)], narrowed := true }
def BigdecRoundsUptoSaid : Prop := bigdecRoundsUptoRow.holds Tryd.pinned (OpenSpec.upto bigdecRoundsSpec)

/-- 'platenlaw04.BigdecPlaces', WHERE WHAT IT READS IS OF BULK AT MOST 1048576: true; the input reads as it did. -/
def bigdecPlacesUptoRow : OpenClaim := { program := "ytobidkjmgkmaoaadoor", sum := "572e97b6f7ce2ea0085f0f40d8f2ff0e283b56453ea79933d206876290a50d65", func := "platen/platenlaw04.BigdecPlaces", spec := "bigdecPlaces", inPlace := ["internal/bytealg.IndexByteString", "internal/bytealg.IndexString"], named := ["unicode/utf8.first", "unicode/utf8.acceptRanges", "internal/bytealg.MaxLen"], apart := false, laid := [("unicode/utf8.acceptRanges", laid_unicode_utf8_acceptRanges), ("unicode/utf8.first", laid_unicode_utf8_first)], narrowed := true }
def BigdecPlacesUptoSaid : Prop := bigdecPlacesUptoRow.holds Tryd.pinned (OpenSpec.upto bigdecPlacesSpec)

/-- 'platenlaw04.BigdecCmps', WHERE WHAT IT READS IS OF BULK AT MOST 1048576: true; the input reads as it did. -/
def bigdecCmpsUptoRow : OpenClaim := { program := "ytobidkjmgkmaoaadoor", sum := "572e97b6f7ce2ea0085f0f40d8f2ff0e283b56453ea79933d206876290a50d65", func := "platen/platenlaw04.BigdecCmps", spec := "bigdecCmps", inPlace := ["internal/bytealg.IndexByteString", "internal/bytealg.IndexString", "internal/bytealg.abigen_runtime_cmpstring"], named := ["unicode/utf8.first", "unicode/utf8.acceptRanges", "internal/bytealg.MaxLen"], apart := false, laid := [("unicode/utf8.acceptRanges", laid_unicode_utf8_acceptRanges), ("unicode/utf8.first", laid_unicode_utf8_first)], narrowed := true }
def BigdecCmpsUptoSaid : Prop := bigdecCmpsUptoRow.holds Tryd.pinned (OpenSpec.upto bigdecCmpsSpec)

/-- 'platenlaw04.BigdecAdds', WHERE WHAT IT READS IS OF BULK AT MOST 1048576: true; the input reads as it did. -/
def bigdecAddsUptoRow : OpenClaim := { program := "ytobidkjmgkmaoaadoor", sum := "572e97b6f7ce2ea0085f0f40d8f2ff0e283b56453ea79933d206876290a50d65", func := "platen/platenlaw04.BigdecAdds", spec := "bigdecAdds", inPlace := ["internal/bytealg.IndexByteString", "internal/bytealg.IndexString", "internal/bytealg.abigen_runtime_cmpstring"], named := ["unicode/utf8.first", "unicode/utf8.acceptRanges", "internal/bytealg.MaxLen"], apart := false, laid := [("unicode/utf8.acceptRanges", laid_unicode_utf8_acceptRanges), ("unicode/utf8.first", laid_unicode_utf8_first)], narrowed := true }
def BigdecAddsUptoSaid : Prop := bigdecAddsUptoRow.holds Tryd.pinned (OpenSpec.upto bigdecAddsSpec)

/-- 'platenlaw04.BigdecDoubles', WHERE WHAT IT READS IS OF BULK AT MOST 1048576: true; the input reads as it did. -/
def bigdecDoublesUptoRow : OpenClaim := { program := "ytobidkjmgkmaoaadoor", sum := "572e97b6f7ce2ea0085f0f40d8f2ff0e283b56453ea79933d206876290a50d65", func := "platen/platenlaw04.BigdecDoubles", spec := "bigdecDoubles", inPlace := ["internal/bytealg.IndexByteString", "internal/bytealg.IndexString", "internal/bytealg.abigen_runtime_cmpstring"], named := ["unicode/utf8.first", "unicode/utf8.acceptRanges", "internal/bytealg.MaxLen"], apart := false, laid := [("unicode/utf8.acceptRanges", laid_unicode_utf8_acceptRanges), ("unicode/utf8.first", laid_unicode_utf8_first)], narrowed := true }
def BigdecDoublesUptoSaid : Prop := bigdecDoublesUptoRow.holds Tryd.pinned (OpenSpec.upto bigdecDoublesSpec)

/-- 'platenlaw04.BigdecOrders', WHERE WHAT IT READS IS OF BULK AT MOST 1048576: true; the input reads as it did. -/
def bigdecOrdersUptoRow : OpenClaim := { program := "ytobidkjmgkmaoaadoor", sum := "572e97b6f7ce2ea0085f0f40d8f2ff0e283b56453ea79933d206876290a50d65", func := "platen/platenlaw04.BigdecOrders", spec := "bigdecOrders", inPlace := ["internal/bytealg.IndexByteString", "internal/bytealg.IndexString", "internal/bytealg.abigen_runtime_cmpstring"], named := ["unicode/utf8.first", "unicode/utf8.acceptRanges", "internal/bytealg.MaxLen"], apart := false, laid := [("unicode/utf8.acceptRanges", laid_unicode_utf8_acceptRanges), ("unicode/utf8.first", laid_unicode_utf8_first)], narrowed := true }
def BigdecOrdersUptoSaid : Prop := bigdecOrdersUptoRow.holds Tryd.pinned (OpenSpec.upto bigdecOrdersSpec)

/-- 'platenlaw04.BigdecEven', WHERE WHAT IT READS IS OF BULK AT MOST 1048576: true; the input reads as it did. -/
def bigdecEvenUptoRow : OpenClaim := { program := "ytobidkjmgkmaoaadoor", sum := "572e97b6f7ce2ea0085f0f40d8f2ff0e283b56453ea79933d206876290a50d65", func := "platen/platenlaw04.BigdecEven", spec := "bigdecEven", inPlace := ["internal/bytealg.IndexByteString", "internal/bytealg.IndexString", "internal/bytealg.abigen_runtime_cmpstring"], named := ["unicode/utf8.first", "unicode/utf8.acceptRanges", "internal/bytealg.MaxLen"], apart := false, laid := [("unicode/utf8.acceptRanges", laid_unicode_utf8_acceptRanges), ("unicode/utf8.first", laid_unicode_utf8_first)], narrowed := true }
def BigdecEvenUptoSaid : Prop := bigdecEvenUptoRow.holds Tryd.pinned (OpenSpec.upto bigdecEvenSpec)

/-- 'platenlaw04.BigdecNear', WHERE WHAT IT READS IS OF BULK AT MOST 1048576: true; the input reads as it did. -/
def bigdecNearUptoRow : OpenClaim := { program := "ytobidkjmgkmaoaadoor", sum := "572e97b6f7ce2ea0085f0f40d8f2ff0e283b56453ea79933d206876290a50d65", func := "platen/platenlaw04.BigdecNear", spec := "bigdecNear", inPlace := ["internal/bytealg.IndexByteString", "internal/bytealg.IndexString", "internal/bytealg.abigen_runtime_cmpstring"], named := ["unicode/utf8.first", "unicode/utf8.acceptRanges", "internal/bytealg.MaxLen"], apart := false, laid := [("unicode/utf8.acceptRanges", laid_unicode_utf8_acceptRanges), ("unicode/utf8.first", laid_unicode_utf8_first)], narrowed := true }
def BigdecNearUptoSaid : Prop := bigdecNearUptoRow.holds Tryd.pinned (OpenSpec.upto bigdecNearSpec)

end Rows
end Go.Proofs.YtobidkjmgkmaoaaDoor
