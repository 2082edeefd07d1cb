/-
  NARROWER THAN 'FOR EVERY INPUT', by the rows' own cells (each row's printed sentence says how): FloatsFixed: laid · FloatsGeneral: laid · FloatsBits: laid · FloatsAny: laid · CplxTexts: laid · CplxSplits: laid.
  DERIVED. THE GIVEN ROWS OF THIS SEAT. 6 by the template 'for every input the law returns true; each argument reads behind the call as it read before'; 0 by the template 'total and deterministic' (their statements: YtilidabdbhaljaaGreatDoorTotals.lean).
  GIVEN WITH THE SEED: the statements are not yours to turn. If you find one false, say at which input.
  Laid BY PROGRAM, IN A SANDBOX (cutbox-rows.mjs): the forced cells as the released guide's own fill.sh prints them over the translation 1c594f925abc27f2… (all of the seat's roots in one cut). By AI agents, Wed Nov 11 2026. No macro, syntax, notation, axiom, sorry.
-/
import Derived.Test.YtilidabdbhaljaaGreatDoorChecked
import GoSem.PinnedTables
import GoSem.Claim
import GoSem.ClaimJoined
import GoSem.ClaimMapViews
import Derived.JoinedTies
import Derived.KernelRfl
namespace Go.Proofs.YtilidabdbhaljaaGreatDoor
/- THE CELL 'sum', in the pinned program and in every row, IS THE sha256 OF THE DUMP (.gsa) THAT YtilidabdbhaljaaGreatDoorProg.lean LOADS. Nothing in Lean hashes anything: it is a label: what it is worth is what the hold of that sum in a sandbox is worth. -/
noncomputable def Tryz.pinned : Pinned := { name := "ytilidabdbhaljaagreatdoor", sum := "1c594f925abc27f22c767bb195faab7d4f011d6ad76ae44ed39aa73c1754fee2", checked := Tryz.checked }
namespace Rows
def none {H : Type} : Left H := { results := [], args := [] }

/- WHAT THE LISTED PACKAGE-LEVEL VARIABLES READ AS WHEN THE CALL BEGINS. Each datum BY PROGRAM (the guide's laid-datum.mjs) off the statement by which the dump's own 'gosem.cut.vars' lays the variable. In a bare row this is a premise. The card (YtilidabdbhaljaaGreatDoorCards.lean) ties it to the program's text. -/
def laid_unicode_utf8_acceptRanges {H : Type} : DataW H := .agg [.agg [.lit (.int .u8 128), .lit (.int .u8 191)], .agg [.lit (.int .u8 160), .lit (.int .u8 191)], .agg [.lit (.int .u8 128), .lit (.int .u8 159)], .agg [.lit (.int .u8 144), .lit (.int .u8 191)], .agg [.lit (.int .u8 128), .lit (.int .u8 143)], .agg [.lit (.int .u8 0), .lit (.int .u8 0)], .agg [.lit (.int .u8 0), .lit (.int .u8 0)], .agg [.lit (.int .u8 0), .lit (.int .u8 0)], .agg [.lit (.int .u8 0), .lit (.int .u8 0)], .agg [.lit (.int .u8 0), .lit (.int .u8 0)], .agg [.lit (.int .u8 0), .lit (.int .u8 0)], .agg [.lit (.int .u8 0), .lit (.int .u8 0)], .agg [.lit (.int .u8 0), .lit (.int .u8 0)], .agg [.lit (.int .u8 0), .lit (.int .u8 0)], .agg [.lit (.int .u8 0), .lit (.int .u8 0)], .agg [.lit (.int .u8 0), .lit (.int .u8 0)]]
/-- One of Go's own tables, pinned by name: the form's constant. -/
def laid_unicode_CaseRanges : DataW Unit := Go.Pinned.caseRanges
/-- One of Go's own tables, pinned by name: the form's constant. -/
def laid_unicode_utf8_first : DataW Unit := Go.Pinned.utf8First

/-- 'platenlaw06.FloatsFixed': WHATEVER THE INPUT: true; the input reads as it did. -/
def floatsFixedSpec : ChangeSpec := { name := "floatsFixed", fn := fun _ => fun
  | [d1, d2, d3] => { results := [.lit (.bool true)], args := [d1, d2, d3] }
  | _ => none }
def floatsFixedRow : OpenClaim := { program := "ytilidabdbhaljaagreatdoor", sum := "1c594f925abc27f22c767bb195faab7d4f011d6ad76ae44ed39aa73c1754fee2", func := "platen/platenlaw06.FloatsFixed", spec := "floatsFixed", inPlace := ["internal/bytealg.IndexByteString", "internal/bytealg.IndexString", "internal/abi.NoEscape", "internal/bytealg.MakeNoZero", "internal/bytealg.abigen_runtime_cmpstring"], unfollowed := true, recurses := true, named := ["unicode/utf8.first", "unicode/utf8.acceptRanges", "unicode.CaseRanges", "internal/bytealg.MaxLen"], apart := false, laid := [("unicode/utf8.acceptRanges", laid_unicode_utf8_acceptRanges), ("unicode.CaseRanges", laid_unicode_CaseRanges), ("unicode/utf8.first", laid_unicode_utf8_first)] }
def FloatsFixedSaid : Prop := floatsFixedRow.holds Tryz.pinned (OpenSpec.ofChange floatsFixedSpec)

/-- ITS FALSE NEIGHBOUR: 'it returns false'. Refute it at one input. -/
def floatsFixedWrong : ChangeSpec := { name := "floatsFixed", fn := fun _ => fun
  | [d1, d2, d3] => { results := [.lit (.bool false)], args := [d1, d2, d3] }
  | _ => none }
def FloatsFixedWrongFalsely : Prop := floatsFixedRow.holds Tryz.pinned (OpenSpec.ofChange floatsFixedWrong)

/-- 'platenlaw06.FloatsGeneral': WHATEVER THE INPUT: true; the input reads as it did. -/
def floatsGeneralSpec : ChangeSpec := { name := "floatsGeneral", fn := fun _ => fun
  | [d1, d2, d3] => { results := [.lit (.bool true)], args := [d1, d2, d3] }
  | _ => none }
def floatsGeneralRow : OpenClaim := { program := "ytilidabdbhaljaagreatdoor", sum := "1c594f925abc27f22c767bb195faab7d4f011d6ad76ae44ed39aa73c1754fee2", func := "platen/platenlaw06.FloatsGeneral", spec := "floatsGeneral", inPlace := ["internal/bytealg.IndexByteString", "internal/bytealg.IndexString", "internal/abi.NoEscape", "internal/bytealg.MakeNoZero", "internal/bytealg.abigen_runtime_cmpstring"], unfollowed := true, recurses := true, named := ["unicode/utf8.first", "unicode/utf8.acceptRanges", "unicode.CaseRanges", "internal/bytealg.MaxLen"], apart := false, laid := [("unicode/utf8.acceptRanges", laid_unicode_utf8_acceptRanges), ("unicode.CaseRanges", laid_unicode_CaseRanges), ("unicode/utf8.first", laid_unicode_utf8_first)] }
def FloatsGeneralSaid : Prop := floatsGeneralRow.holds Tryz.pinned (OpenSpec.ofChange floatsGeneralSpec)

/-- ITS FALSE NEIGHBOUR: 'it returns false'. Refute it at one input. -/
def floatsGeneralWrong : ChangeSpec := { name := "floatsGeneral", fn := fun _ => fun
  | [d1, d2, d3] => { results := [.lit (.bool false)], args := [d1, d2, d3] }
  | _ => none }
def FloatsGeneralWrongFalsely : Prop := floatsGeneralRow.holds Tryz.pinned (OpenSpec.ofChange floatsGeneralWrong)

/-- 'platenlaw06.FloatsBits': WHATEVER THE INPUT: true; the input reads as it did. -/
def floatsBitsSpec : ChangeSpec := { name := "floatsBits", fn := fun _ => fun
  | [d1, d2, d3] => { results := [.lit (.bool true)], args := [d1, d2, d3] }
  | _ => none }
def floatsBitsRow : OpenClaim := { program := "ytilidabdbhaljaagreatdoor", sum := "1c594f925abc27f22c767bb195faab7d4f011d6ad76ae44ed39aa73c1754fee2", func := "platen/platenlaw06.FloatsBits", spec := "floatsBits", inPlace := ["internal/bytealg.IndexByteString", "internal/bytealg.IndexString", "internal/abi.NoEscape", "internal/bytealg.MakeNoZero", "internal/bytealg.abigen_runtime_cmpstring"], unfollowed := true, recurses := true, named := ["unicode/utf8.first", "unicode/utf8.acceptRanges", "unicode.CaseRanges", "internal/bytealg.MaxLen"], apart := false, laid := [("unicode/utf8.acceptRanges", laid_unicode_utf8_acceptRanges), ("unicode.CaseRanges", laid_unicode_CaseRanges), ("unicode/utf8.first", laid_unicode_utf8_first)] }
def FloatsBitsSaid : Prop := floatsBitsRow.holds Tryz.pinned (OpenSpec.ofChange floatsBitsSpec)

/-- ITS FALSE NEIGHBOUR: 'it returns false'. Refute it at one input. -/
def floatsBitsWrong : ChangeSpec := { name := "floatsBits", fn := fun _ => fun
  | [d1, d2, d3] => { results := [.lit (.bool false)], args := [d1, d2, d3] }
  | _ => none }
def FloatsBitsWrongFalsely : Prop := floatsBitsRow.holds Tryz.pinned (OpenSpec.ofChange floatsBitsWrong)

/-- 'platenlaw06.FloatsAny': WHATEVER THE INPUT: true; the input reads as it did. -/
def floatsAnySpec : ChangeSpec := { name := "floatsAny", fn := fun _ => fun
  | [d1, d2, d3] => { results := [.lit (.bool true)], args := [d1, d2, d3] }
  | _ => none }
def floatsAnyRow : OpenClaim := { program := "ytilidabdbhaljaagreatdoor", sum := "1c594f925abc27f22c767bb195faab7d4f011d6ad76ae44ed39aa73c1754fee2", func := "platen/platenlaw06.FloatsAny", spec := "floatsAny", inPlace := ["internal/bytealg.IndexByteString", "internal/bytealg.IndexString", "internal/abi.NoEscape", "internal/bytealg.MakeNoZero", "internal/bytealg.abigen_runtime_cmpstring"], unfollowed := true, recurses := true, named := ["unicode/utf8.first", "unicode/utf8.acceptRanges", "unicode.CaseRanges", "internal/bytealg.MaxLen"], apart := false, laid := [("unicode/utf8.acceptRanges", laid_unicode_utf8_acceptRanges), ("unicode.CaseRanges", laid_unicode_CaseRanges), ("unicode/utf8.first", laid_unicode_utf8_first)] }
def FloatsAnySaid : Prop := floatsAnyRow.holds Tryz.pinned (OpenSpec.ofChange floatsAnySpec)

/-- ITS FALSE NEIGHBOUR: 'it returns false'. Refute it at one input. -/
def floatsAnyWrong : ChangeSpec := { name := "floatsAny", fn := fun _ => fun
  | [d1, d2, d3] => { results := [.lit (.bool false)], args := [d1, d2, d3] }
  | _ => none }
def FloatsAnyWrongFalsely : Prop := floatsAnyRow.holds Tryz.pinned (OpenSpec.ofChange floatsAnyWrong)

/-- 'platenlaw07.CplxTexts': WHATEVER THE INPUT: true; the input reads as it did. -/
def cplxTextsSpec : ChangeSpec := { name := "cplxTexts", fn := fun _ => fun
  | [d1, d2, d3] => { results := [.lit (.bool true)], args := [d1, d2, d3] }
  | _ => none }
def cplxTextsRow : OpenClaim := { program := "ytilidabdbhaljaagreatdoor", sum := "1c594f925abc27f22c767bb195faab7d4f011d6ad76ae44ed39aa73c1754fee2", func := "platen/platenlaw07.CplxTexts", spec := "cplxTexts", inPlace := ["internal/bytealg.IndexByteString", "internal/bytealg.IndexString", "internal/abi.NoEscape", "internal/bytealg.MakeNoZero", "internal/bytealg.abigen_runtime_cmpstring"], unfollowed := true, recurses := true, named := ["unicode/utf8.first", "unicode/utf8.acceptRanges", "unicode.CaseRanges", "internal/bytealg.MaxLen"], apart := false, laid := [("unicode/utf8.acceptRanges", laid_unicode_utf8_acceptRanges), ("unicode.CaseRanges", laid_unicode_CaseRanges), ("unicode/utf8.first", laid_unicode_utf8_first)] }
def CplxTextsSaid : Prop := cplxTextsRow.holds Tryz.pinned (OpenSpec.ofChange cplxTextsSpec)

/-- ITS FALSE NEIGHBOUR: 'it returns false'. Refute it at one input. -/
def cplxTextsWrong : ChangeSpec := { name := "cplxTexts", fn := fun _ => fun
  | [d1, d2, d3] => { results := [.lit (.bool false)], args := [d1, d2, d3] }
  | _ => none }
def CplxTextsWrongFalsely : Prop := cplxTextsRow.holds Tryz.pinned (OpenSpec.ofChange cplxTextsWrong)

/-- 'platenlaw07.CplxSplits': WHATEVER THE INPUT: true; the input reads as it did. -/
def cplxSplitsSpec : ChangeSpec := { name := "cplxSplits", fn := fun _ => fun
  | [d] => { results := [.lit (.bool true)], args := [d] }
  | _ => none }
def cplxSplitsRow : OpenClaim := { program := "ytilidabdbhaljaagreatdoor", sum := "1c594f925abc27f22c767bb195faab7d4f011d6ad76ae44ed39aa73c1754fee2", func := "platen/platenlaw07.CplxSplits", spec := "cplxSplits", inPlace := ["internal/bytealg.IndexByteString", "internal/bytealg.IndexString", "internal/abi.NoEscape", "internal/bytealg.MakeNoZero", "internal/bytealg.abigen_runtime_cmpstring"], unfollowed := true, recurses := true, named := ["unicode/utf8.first", "unicode/utf8.acceptRanges", "unicode.CaseRanges", "internal/bytealg.MaxLen"], apart := false, laid := [("unicode/utf8.acceptRanges", laid_unicode_utf8_acceptRanges), ("unicode.CaseRanges", laid_unicode_CaseRanges), ("unicode/utf8.first", laid_unicode_utf8_first)] }
def CplxSplitsSaid : Prop := cplxSplitsRow.holds Tryz.pinned (OpenSpec.ofChange cplxSplitsSpec)

/-- ITS FALSE NEIGHBOUR: 'it returns false'. Refute it at one input. -/
def cplxSplitsWrong : ChangeSpec := { name := "cplxSplits", fn := fun _ => fun
  | [d] => { results := [.lit (.bool false)], args := [d] }
  | _ => none }
def CplxSplitsWrongFalsely : Prop := cplxSplitsRow.holds Tryz.pinned (OpenSpec.ofChange cplxSplitsWrong)

/- THE SECOND FORM. 'bulk': how many values and letters a reading holds, each counted each time it is reached (what is shared counts as often as it is met; a slice's spare places count too). A statement '..UptoSaid' is the law's where the arguments, and the package variables that the reading takes, are together of bulk at most 1048576: NARROWER than '..Said'. Prove '..Said' where nothing that the law and all that it calls make is longer than what came in: it says more and counts as full. Else prove '..UptoSaid'. A law counts once. -/
mutual
def uptoBulk {H : Type} : DataW H → Nat
  | .lit (.string bytes) => bytes.length + 1
  | .lit _ => 1
  | .nil => 1
  | .ptr d => uptoBulk d + 1
  | .slice elems spare => uptoBulkAll elems + uptoBulkAll spare + 1
  | .agg parts => uptoBulkAll parts + 1
  | .iface _ d => uptoBulk d + 1
  | .map entries => uptoBulkEntries entries + 1
  | .held _ => 1
def uptoBulkAll {H : Type} : List (DataW H) → Nat
  | [] => 0
  | d :: r => uptoBulk d + uptoBulkAll r
def uptoBulkEntries {H : Type} : List (Lit × DataW H) → Nat
  | [] => 0
  | x :: r => uptoBulkEntry x + uptoBulkEntries r
def uptoBulkEntry {H : Type} : Lit × DataW H → Nat
  | (.string bytes, d) => bytes.length + uptoBulk d + 1
  | (_, d) => uptoBulk d + 1
 end
def uptoSmall : (H : Type) → List (DataW H) → Bool := fun _ ds => decide (uptoBulkAll ds ≤ 1048576)
def OpenSpec.upto (s : _root_.Go.ChangeSpec) : _root_.Go.OpenSpec := { _root_.Go.OpenSpec.ofChange s with cond := some uptoSmall }

/-- 'platenlaw06.FloatsFixed', WHERE WHAT IT READS IS OF BULK AT MOST 1048576: true; the input reads as it did. -/
def floatsFixedUptoRow : OpenClaim := { program := "ytilidabdbhaljaagreatdoor", sum := "1c594f925abc27f22c767bb195faab7d4f011d6ad76ae44ed39aa73c1754fee2", func := "platen/platenlaw06.FloatsFixed", spec := "floatsFixed", inPlace := ["internal/bytealg.IndexByteString", "internal/bytealg.IndexString", "internal/abi.NoEscape", "internal/bytealg.MakeNoZero", "internal/bytealg.abigen_runtime_cmpstring"], unfollowed := true, recurses := true, named := ["unicode/utf8.first", "unicode/utf8.acceptRanges", "unicode.CaseRanges", "internal/bytealg.MaxLen"], apart := false, laid := [("unicode/utf8.acceptRanges", laid_unicode_utf8_acceptRanges), ("unicode.CaseRanges", laid_unicode_CaseRanges), ("unicode/utf8.first", laid_unicode_utf8_first)], narrowed := true }
def FloatsFixedUptoSaid : Prop := floatsFixedUptoRow.holds Tryz.pinned (OpenSpec.upto floatsFixedSpec)

/-- 'platenlaw06.FloatsGeneral', WHERE WHAT IT READS IS OF BULK AT MOST 1048576: true; the input reads as it did. -/
def floatsGeneralUptoRow : OpenClaim := { program := "ytilidabdbhaljaagreatdoor", sum := "1c594f925abc27f22c767bb195faab7d4f011d6ad76ae44ed39aa73c1754fee2", func := "platen/platenlaw06.FloatsGeneral", spec := "floatsGeneral", inPlace := ["internal/bytealg.IndexByteString", "internal/bytealg.IndexString", "internal/abi.NoEscape", "internal/bytealg.MakeNoZero", "internal/bytealg.abigen_runtime_cmpstring"], unfollowed := true, recurses := true, named := ["unicode/utf8.first", "unicode/utf8.acceptRanges", "unicode.CaseRanges", "internal/bytealg.MaxLen"], apart := false, laid := [("unicode/utf8.acceptRanges", laid_unicode_utf8_acceptRanges), ("unicode.CaseRanges", laid_unicode_CaseRanges), ("unicode/utf8.first", laid_unicode_utf8_first)], narrowed := true }
def FloatsGeneralUptoSaid : Prop := floatsGeneralUptoRow.holds Tryz.pinned (OpenSpec.upto floatsGeneralSpec)

/-- 'platenlaw06.FloatsBits', WHERE WHAT IT READS IS OF BULK AT MOST 1048576: true; the input reads as it did. -/
def floatsBitsUptoRow : OpenClaim := { program := "ytilidabdbhaljaagreatdoor", sum := "1c594f925abc27f22c767bb195faab7d4f011d6ad76ae44ed39aa73c1754fee2", func := "platen/platenlaw06.FloatsBits", spec := "floatsBits", inPlace := ["internal/bytealg.IndexByteString", "internal/bytealg.IndexString", "internal/abi.NoEscape", "internal/bytealg.MakeNoZero", "internal/bytealg.abigen_runtime_cmpstring"], unfollowed := true, recurses := true, named := ["unicode/utf8.first", "unicode/utf8.acceptRanges", "unicode.CaseRanges", "internal/bytealg.MaxLen"], apart := false, laid := [("unicode/utf8.acceptRanges", laid_unicode_utf8_acceptRanges), ("unicode.CaseRanges", laid_unicode_CaseRanges), ("unicode/utf8.first", laid_unicode_utf8_first)], narrowed := true }
def FloatsBitsUptoSaid : Prop := floatsBitsUptoRow.holds Tryz.pinned (OpenSpec.upto floatsBitsSpec)

/-- 'platenlaw06.FloatsAny', WHERE WHAT IT READS IS OF BULK AT MOST 1048576: true; the input reads as it did. -/
def floatsAnyUptoRow : OpenClaim := { program := "ytilidabdbhaljaagreatdoor", sum := "1c594f925abc27f22c767bb195faab7d4f011d6ad76ae44ed39aa73c1754fee2", func := "platen/platenlaw06.FloatsAny", spec := "floatsAny", inPlace := ["internal/bytealg.IndexByteString", "internal/bytealg.IndexString", "internal/abi.NoEscape", "internal/bytealg.MakeNoZero", "internal/bytealg.abigen_runtime_cmpstring"], unfollowed := true, recurses := true, named := ["unicode/utf8.first", "unicode/utf8.acceptRanges", "unicode.CaseRanges", "internal/bytealg.MaxLen"], apart := false, laid := [("unicode/utf8.acceptRanges", laid_unicode_utf8_acceptRanges), ("unicode.CaseRanges", laid_unicode_CaseRanges), ("unicode/utf8.first", laid_unicode_utf8_first)], narrowed := true }
def FloatsAnyUptoSaid : Prop := floatsAnyUptoRow.holds Tryz.pinned (OpenSpec.upto floatsAnySpec)

/-- 'platenlaw07.CplxTexts', WHERE WHAT IT READS IS OF BULK AT MOST 1048576: true; the input reads as it did. -/
def cplxTextsUptoRow : OpenClaim := { program := "ytilidabdbhaljaagreatdoor", sum := "1c594f925abc27f22c767bb195faab7d4f011d6ad76ae44ed39aa73c1754fee2", func := "platen/platenlaw07.CplxTexts", spec := "cplxTexts", inPlace := ["internal/bytealg.IndexByteString", "internal/bytealg.IndexString", "internal/abi.NoEscape", "internal/bytealg.MakeNoZero", "internal/bytealg.abigen_runtime_cmpstring"], unfollowed := true, recurses := true, named := ["unicode/utf8.first", "unicode/utf8.acceptRanges", "unicode.CaseRanges", "internal/bytealg.MaxLen"], apart := false, laid := [("unicode/utf8.acceptRanges", laid_unicode_utf8_acceptRanges), ("unicode.CaseRanges", laid_unicode_CaseRanges), ("unicode/utf8.first", laid_unicode_utf8_first)], narrowed := true }
def CplxTextsUptoSaid : Prop := cplxTextsUptoRow.holds Tryz.pinned (OpenSpec.upto cplxTextsSpec)

/-- 'platenlaw07.CplxSplits', WHERE WHAT IT READS IS OF BULK AT MOST 1048576: true; the input reads as it did. -/
def cplxSplitsUptoRow : OpenClaim := { program := "ytilidabdbhaljaagreatdoor", sum := "1c594f925abc27f22c767bb195faab7d4f011d6ad76ae44ed39aa73c1754fee2", func := "platen/platenlaw07.CplxSplits", spec := "cplxSplits", inPlace := ["internal/bytealg.IndexByteString", "internal/bytealg.IndexString", "internal/abi.NoEscape", "internal/bytealg.MakeNoZero", "internal/bytealg.abigen_runtime_cmpstring"], unfollowed := true, recurses := true, named := ["unicode/utf8.first", "unicode/utf8.acceptRanges", "unicode.CaseRanges", "internal/bytealg.MaxLen"], apart := false, laid := [("unicode/utf8.acceptRanges", laid_unicode_utf8_acceptRanges), ("unicode.CaseRanges", laid_unicode_CaseRanges), ("unicode/utf8.first", laid_unicode_utf8_first)], narrowed := true }
def CplxSplitsUptoSaid : Prop := cplxSplitsUptoRow.holds Tryz.pinned (OpenSpec.upto cplxSplitsSpec)

end Rows
end Go.Proofs.YtilidabdbhaljaaGreatDoor
