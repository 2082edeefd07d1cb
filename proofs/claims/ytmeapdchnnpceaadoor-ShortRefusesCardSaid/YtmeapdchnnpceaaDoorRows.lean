/-
  NARROWER THAN 'FOR EVERY INPUT', by the rows' own cells (each row's printed sentence says how): ShortParts: laid · ShortReads: laid · ShortDigits: laid · ShortBack: laid · ShortLeast: laid · ShortClosest: laid · ShortExacts: laid · ShortRises: laid · ShortMiddles: laid · ShortRefuses: laid.
  DERIVED. THE GIVEN ROWS OF THIS SEAT. 10 by the template 'for every input the law returns true; each argument reads behind the call as it read before'; 0 by the template 'total and deterministic' (their statements: YtmeapdchnnpceaaDoorTotals.lean).
  GIVEN WITH THE SEED: the statements are not yours to turn. If you find one false, say at which input.
  Laid BY PROGRAM, IN A SANDBOX (cutbox-rows.mjs): the forced cells as the released guide's own fill.sh prints them over the translation 703d050701e29bc1… (all of the seat's roots in one cut). By AI agents, Wed Nov 11 2026. No macro, syntax, notation, axiom, sorry.
-/
import Derived.Test.YtmeapdchnnpceaaDoorChecked
import GoSem.PinnedTables
import GoSem.Claim
import GoSem.ClaimJoined
import GoSem.ClaimMapViews
import Derived.JoinedTies
import Derived.KernelRfl
namespace Go.Proofs.YtmeapdchnnpceaaDoor
/- THE CELL 'sum', in the pinned program and in every row, IS THE sha256 OF THE DUMP (.gsa) THAT YtmeapdchnnpceaaDoorProg.lean LOADS. Nothing in Lean hashes anything: it is a label: what it is worth is what the hold of that sum in a sandbox is worth. -/
noncomputable def Tryd.pinned : Pinned := { name := "ytmeapdchnnpceaadoor", sum := "703d050701e29bc114bf7477a1ade910b92673f167a48e53b14d742af03fce75", checked := Tryd.checked }
namespace Rows
def none {H : Type} : Left H := { results := [], args := [] }

/- WHAT THE LISTED PACKAGE-LEVEL VARIABLES READ AS WHEN THE CALL BEGINS. Each datum BY PROGRAM (the guide's laid-datum.mjs) off the statement by which the dump's own 'gosem.cut.vars' lays the variable. In a bare row this is a premise. The card (YtmeapdchnnpceaaDoorCards.lean) ties it to the program's text. -/
def laid_unicode_utf8_acceptRanges {H : Type} : DataW H := .agg [.agg [.lit (.int .u8 128), .lit (.int .u8 191)], .agg [.lit (.int .u8 160), .lit (.int .u8 191)], .agg [.lit (.int .u8 128), .lit (.int .u8 159)], .agg [.lit (.int .u8 144), .lit (.int .u8 191)], .agg [.lit (.int .u8 128), .lit (.int .u8 143)], .agg [.lit (.int .u8 0), .lit (.int .u8 0)], .agg [.lit (.int .u8 0), .lit (.int .u8 0)], .agg [.lit (.int .u8 0), .lit (.int .u8 0)], .agg [.lit (.int .u8 0), .lit (.int .u8 0)], .agg [.lit (.int .u8 0), .lit (.int .u8 0)], .agg [.lit (.int .u8 0), .lit (.int .u8 0)], .agg [.lit (.int .u8 0), .lit (.int .u8 0)], .agg [.lit (.int .u8 0), .lit (.int .u8 0)], .agg [.lit (.int .u8 0), .lit (.int .u8 0)], .agg [.lit (.int .u8 0), .lit (.int .u8 0)], .agg [.lit (.int .u8 0), .lit (.int .u8 0)]]
/-- One of Go's own tables, pinned by name: the form's constant. -/
def laid_unicode_utf8_first : DataW Unit := Go.Pinned.utf8First

/-- 'platenlaw05.ShortParts': WHATEVER THE INPUT: true; the input reads as it did. -/
def shortPartsSpec : ChangeSpec := { name := "shortParts", fn := fun _ => fun
  | [d1, d2] => { results := [.lit (.bool true)], args := [d1, d2] }
  | _ => none }
def shortPartsRow : OpenClaim := { program := "ytmeapdchnnpceaadoor", sum := "703d050701e29bc114bf7477a1ade910b92673f167a48e53b14d742af03fce75", func := "platen/platenlaw05.ShortParts", spec := "shortParts", inPlace := ["internal/bytealg.IndexByteString", "internal/bytealg.IndexString", "internal/bytealg.abigen_runtime_cmpstring"], unfollowed := true, recurses := true, named := ["unicode/utf8.first", "unicode/utf8.acceptRanges", "internal/bytealg.MaxLen"], apart := false, laid := [("unicode/utf8.acceptRanges", laid_unicode_utf8_acceptRanges), ("unicode/utf8.first", laid_unicode_utf8_first)] }
def ShortPartsSaid : Prop := shortPartsRow.holds Tryd.pinned (OpenSpec.ofChange shortPartsSpec)

/-- ITS FALSE NEIGHBOUR: 'it returns false'. Refute it at one input. -/
def shortPartsWrong : ChangeSpec := { name := "shortParts", fn := fun _ => fun
  | [d1, d2] => { results := [.lit (.bool false)], args := [d1, d2] }
  | _ => none }
def ShortPartsWrongFalsely : Prop := shortPartsRow.holds Tryd.pinned (OpenSpec.ofChange shortPartsWrong)

/-- 'platenlaw05.ShortReads': WHATEVER THE INPUT: true; the input reads as it did. -/
def shortReadsSpec : ChangeSpec := { name := "shortReads", fn := fun _ => fun
  | [d1, d2] => { results := [.lit (.bool true)], args := [d1, d2] }
  | _ => none }
def shortReadsRow : OpenClaim := { program := "ytmeapdchnnpceaadoor", sum := "703d050701e29bc114bf7477a1ade910b92673f167a48e53b14d742af03fce75", func := "platen/platenlaw05.ShortReads", spec := "shortReads", inPlace := ["internal/bytealg.IndexByteString", "internal/bytealg.IndexString", "internal/bytealg.abigen_runtime_cmpstring"], unfollowed := true, recurses := true, named := ["unicode/utf8.first", "unicode/utf8.acceptRanges", "internal/bytealg.MaxLen"], apart := false, laid := [("unicode/utf8.acceptRanges", laid_unicode_utf8_acceptRanges), ("unicode/utf8.first", laid_unicode_utf8_first)] }
def ShortReadsSaid : Prop := shortReadsRow.holds Tryd.pinned (OpenSpec.ofChange shortReadsSpec)

/-- ITS FALSE NEIGHBOUR: 'it returns false'. Refute it at one input. -/
def shortReadsWrong : ChangeSpec := { name := "shortReads", fn := fun _ => fun
  | [d1, d2] => { results := [.lit (.bool false)], args := [d1, d2] }
  | _ => none }
def ShortReadsWrongFalsely : Prop := shortReadsRow.holds Tryd.pinned (OpenSpec.ofChange shortReadsWrong)

/-- 'platenlaw05.ShortDigits': WHATEVER THE INPUT: true; the input reads as it did. -/
def shortDigitsSpec : ChangeSpec := { name := "shortDigits", fn := fun _ => fun
  | [d1, d2] => { results := [.lit (.bool true)], args := [d1, d2] }
  | _ => none }
def shortDigitsRow : OpenClaim := { program := "ytmeapdchnnpceaadoor", sum := "703d050701e29bc114bf7477a1ade910b92673f167a48e53b14d742af03fce75", func := "platen/platenlaw05.ShortDigits", spec := "shortDigits", inPlace := ["internal/bytealg.IndexByteString", "internal/bytealg.IndexString", "internal/bytealg.abigen_runtime_cmpstring"], unfollowed := true, recurses := true, named := ["unicode/utf8.first", "unicode/utf8.acceptRanges", "internal/bytealg.MaxLen"], apart := false, laid := [("unicode/utf8.acceptRanges", laid_unicode_utf8_acceptRanges), ("unicode/utf8.first", laid_unicode_utf8_first)] }
def ShortDigitsSaid : Prop := shortDigitsRow.holds Tryd.pinned (OpenSpec.ofChange shortDigitsSpec)

/-- ITS FALSE NEIGHBOUR: 'it returns false'. Refute it at one input. -/
def shortDigitsWrong : ChangeSpec := { name := "shortDigits", fn := fun _ => fun
  | [d1, d2] => { results := [.lit (.bool false)], args := [d1, d2] }
  | _ => none }
def ShortDigitsWrongFalsely : Prop := shortDigitsRow.holds Tryd.pinned (OpenSpec.ofChange shortDigitsWrong)

/-- 'platenlaw05.ShortBack': WHATEVER THE INPUT: true; the input reads as it did. -/
def shortBackSpec : ChangeSpec := { name := "shortBack", fn := fun _ => fun
  | [d1, d2] => { results := [.lit (.bool true)], args := [d1, d2] }
  | _ => none }
def shortBackRow : OpenClaim := { program := "ytmeapdchnnpceaadoor", sum := "703d050701e29bc114bf7477a1ade910b92673f167a48e53b14d742af03fce75", func := "platen/platenlaw05.ShortBack", spec := "shortBack", inPlace := ["internal/bytealg.IndexByteString", "internal/bytealg.IndexString", "internal/bytealg.abigen_runtime_cmpstring"], unfollowed := true, recurses := true, named := ["unicode/utf8.first", "unicode/utf8.acceptRanges", "internal/bytealg.MaxLen"], apart := false, laid := [("unicode/utf8.acceptRanges", laid_unicode_utf8_acceptRanges), ("unicode/utf8.first", laid_unicode_utf8_first)] }
def ShortBackSaid : Prop := shortBackRow.holds Tryd.pinned (OpenSpec.ofChange shortBackSpec)

/-- ITS FALSE NEIGHBOUR: 'it returns false'. Refute it at one input. -/
def shortBackWrong : ChangeSpec := { name := "shortBack", fn := fun _ => fun
  | [d1, d2] => { results := [.lit (.bool false)], args := [d1, d2] }
  | _ => none }
def ShortBackWrongFalsely : Prop := shortBackRow.holds Tryd.pinned (OpenSpec.ofChange shortBackWrong)

/-- 'platenlaw05.ShortLeast': WHATEVER THE INPUT: true; the input reads as it did. -/
def shortLeastSpec : ChangeSpec := { name := "shortLeast", fn := fun _ => fun
  | [d1, d2] => { results := [.lit (.bool true)], args := [d1, d2] }
  | _ => none }
def shortLeastRow : OpenClaim := { program := "ytmeapdchnnpceaadoor", sum := "703d050701e29bc114bf7477a1ade910b92673f167a48e53b14d742af03fce75", func := "platen/platenlaw05.ShortLeast", spec := "shortLeast", inPlace := ["internal/bytealg.IndexByteString", "internal/bytealg.IndexString", "internal/bytealg.abigen_runtime_cmpstring"], unfollowed := true, recurses := true, named := ["unicode/utf8.first", "unicode/utf8.acceptRanges", "internal/bytealg.MaxLen"], apart := false, laid := [("unicode/utf8.acceptRanges", laid_unicode_utf8_acceptRanges), ("unicode/utf8.first", laid_unicode_utf8_first)] }
def ShortLeastSaid : Prop := shortLeastRow.holds Tryd.pinned (OpenSpec.ofChange shortLeastSpec)

/-- ITS FALSE NEIGHBOUR: 'it returns false'. Refute it at one input. -/
def shortLeastWrong : ChangeSpec := { name := "shortLeast", fn := fun _ => fun
  | [d1, d2] => { results := [.lit (.bool false)], args := [d1, d2] }
  | _ => none }
def ShortLeastWrongFalsely : Prop := shortLeastRow.holds Tryd.pinned (OpenSpec.ofChange shortLeastWrong)

/-- 'platenlaw05.ShortClosest': WHATEVER THE INPUT: true; the input reads as it did. -/
def shortClosestSpec : ChangeSpec := { name := "shortClosest", fn := fun _ => fun
  | [d1, d2] => { results := [.lit (.bool true)], args := [d1, d2] }
  | _ => none }
def shortClosestRow : OpenClaim := { program := "ytmeapdchnnpceaadoor", sum := "703d050701e29bc114bf7477a1ade910b92673f167a48e53b14d742af03fce75", func := "platen/platenlaw05.ShortClosest", spec := "shortClosest", inPlace := ["internal/bytealg.IndexByteString", "internal/bytealg.IndexString", "internal/bytealg.abigen_runtime_cmpstring"], unfollowed := true, recurses := true, named := ["unicode/utf8.first", "unicode/utf8.acceptRanges", "internal/bytealg.MaxLen"], apart := false, laid := [("unicode/utf8.acceptRanges", laid_unicode_utf8_acceptRanges), ("unicode/utf8.first", laid_unicode_utf8_first)] }
def ShortClosestSaid : Prop := shortClosestRow.holds Tryd.pinned (OpenSpec.ofChange shortClosestSpec)

/-- ITS FALSE NEIGHBOUR: 'it returns false'. Refute it at one input. -/
def shortClosestWrong : ChangeSpec := { name := "shortClosest", fn := fun _ => fun
  | [d1, d2] => { results := [.lit (.bool false)], args := [d1, d2] }
  | _ => none }
def ShortClosestWrongFalsely : Prop := shortClosestRow.holds Tryd.pinned (OpenSpec.ofChange shortClosestWrong)

/-- 'platenlaw05.ShortExacts': WHATEVER THE INPUT: true; the input reads as it did. -/
def shortExactsSpec : ChangeSpec := { name := "shortExacts", fn := fun _ => fun
  | [d1, d2] => { results := [.lit (.bool true)], args := [d1, d2] }
  | _ => none }
def shortExactsRow : OpenClaim := { program := "ytmeapdchnnpceaadoor", sum := "703d050701e29bc114bf7477a1ade910b92673f167a48e53b14d742af03fce75", func := "platen/platenlaw05.ShortExacts", spec := "shortExacts", inPlace := ["internal/bytealg.IndexByteString", "internal/bytealg.IndexString", "internal/bytealg.abigen_runtime_cmpstring"], unfollowed := true, recurses := true, named := ["unicode/utf8.first", "unicode/utf8.acceptRanges", "internal/bytealg.MaxLen"], apart := false, laid := [("unicode/utf8.acceptRanges", laid_unicode_utf8_acceptRanges), ("unicode/utf8.first", laid_unicode_utf8_first)] }
def ShortExactsSaid : Prop := shortExactsRow.holds Tryd.pinned (OpenSpec.ofChange shortExactsSpec)

/-- ITS FALSE NEIGHBOUR: 'it returns false'. Refute it at one input. -/
def shortExactsWrong : ChangeSpec := { name := "shortExacts", fn := fun _ => fun
  | [d1, d2] => { results := [.lit (.bool false)], args := [d1, d2] }
  | _ => none }
def ShortExactsWrongFalsely : Prop := shortExactsRow.holds Tryd.pinned (OpenSpec.ofChange shortExactsWrong)

/-- 'platenlaw05.ShortRises': WHATEVER THE INPUT: true; the input reads as it did. -/
def shortRisesSpec : ChangeSpec := { name := "shortRises", fn := fun _ => fun
  | [d1, d2, d3] => { results := [.lit (.bool true)], args := [d1, d2, d3] }
  | _ => none }
def shortRisesRow : OpenClaim := { program := "ytmeapdchnnpceaadoor", sum := "703d050701e29bc114bf7477a1ade910b92673f167a48e53b14d742af03fce75", func := "platen/platenlaw05.ShortRises", spec := "shortRises", inPlace := ["internal/bytealg.IndexByteString", "internal/bytealg.IndexString", "internal/bytealg.abigen_runtime_cmpstring"], unfollowed := true, recurses := true, named := ["unicode/utf8.first", "unicode/utf8.acceptRanges", "internal/bytealg.MaxLen"], apart := false, laid := [("unicode/utf8.acceptRanges", laid_unicode_utf8_acceptRanges), ("unicode/utf8.first", laid_unicode_utf8_first)] }
def ShortRisesSaid : Prop := shortRisesRow.holds Tryd.pinned (OpenSpec.ofChange shortRisesSpec)

/-- ITS FALSE NEIGHBOUR: 'it returns false'. Refute it at one input. -/
def shortRisesWrong : ChangeSpec := { name := "shortRises", fn := fun _ => fun
  | [d1, d2, d3] => { results := [.lit (.bool false)], args := [d1, d2, d3] }
  | _ => none }
def ShortRisesWrongFalsely : Prop := shortRisesRow.holds Tryd.pinned (OpenSpec.ofChange shortRisesWrong)

/-- 'platenlaw05.ShortMiddles': WHATEVER THE INPUT: true; the input reads as it did. -/
def shortMiddlesSpec : ChangeSpec := { name := "shortMiddles", fn := fun _ => fun
  | [d1, d2] => { results := [.lit (.bool true)], args := [d1, d2] }
  | _ => none }
def shortMiddlesRow : OpenClaim := { program := "ytmeapdchnnpceaadoor", sum := "703d050701e29bc114bf7477a1ade910b92673f167a48e53b14d742af03fce75", func := "platen/platenlaw05.ShortMiddles", spec := "shortMiddles", inPlace := ["internal/bytealg.IndexByteString", "internal/bytealg.IndexString", "internal/bytealg.abigen_runtime_cmpstring"], unfollowed := true, recurses := true, named := ["unicode/utf8.first", "unicode/utf8.acceptRanges", "internal/bytealg.MaxLen"], apart := false, laid := [("unicode/utf8.acceptRanges", laid_unicode_utf8_acceptRanges), ("unicode/utf8.first", laid_unicode_utf8_first)] }
def ShortMiddlesSaid : Prop := shortMiddlesRow.holds Tryd.pinned (OpenSpec.ofChange shortMiddlesSpec)

/-- ITS FALSE NEIGHBOUR: 'it returns false'. Refute it at one input. -/
def shortMiddlesWrong : ChangeSpec := { name := "shortMiddles", fn := fun _ => fun
  | [d1, d2] => { results := [.lit (.bool false)], args := [d1, d2] }
  | _ => none }
def ShortMiddlesWrongFalsely : Prop := shortMiddlesRow.holds Tryd.pinned (OpenSpec.ofChange shortMiddlesWrong)

/-- 'platenlaw05.ShortRefuses': WHATEVER THE INPUT: true; the input reads as it did. -/
def shortRefusesSpec : ChangeSpec := { name := "shortRefuses", fn := fun _ => fun
  | [d1, d2] => { results := [.lit (.bool true)], args := [d1, d2] }
  | _ => none }
def shortRefusesRow : OpenClaim := { program := "ytmeapdchnnpceaadoor", sum := "703d050701e29bc114bf7477a1ade910b92673f167a48e53b14d742af03fce75", func := "platen/platenlaw05.ShortRefuses", spec := "shortRefuses", inPlace := ["internal/bytealg.IndexByteString", "internal/bytealg.IndexString", "internal/bytealg.abigen_runtime_cmpstring"], unfollowed := true, recurses := true, named := ["unicode/utf8.first", "unicode/utf8.acceptRanges", "internal/bytealg.MaxLen"], apart := false, laid := [("unicode/utf8.acceptRanges", laid_unicode_utf8_acceptRanges), ("unicode/utf8.first", laid_unicode_utf8_first)] }
def ShortRefusesSaid : Prop := shortRefusesRow.holds Tryd.pinned (OpenSpec.ofChange shortRefusesSpec)

/-- ITS FALSE NEIGHBOUR: 'it returns false'. Refute it at one input. -/
def shortRefusesWrong : ChangeSpec := { name := "shortRefuses", fn := fun _ => fun
  | [d1, d2] => { results := [.lit (.bool false)], args := [d1, d2] }
  | _ => none }
def ShortRefusesWrongFalsely : Prop := shortRefusesRow.holds Tryd.pinned (OpenSpec.ofChange shortRefusesWrong)

/- THE SECOND FORM. 'bulk': how many values and letters a reading holds, each counted each time it is reached (what is shared counts as often as it is met; a slice's spare places count too). A statement '..UptoSaid' is the law's where the arguments, and the package variables that the reading takes, are together of bulk at most 1048576: NARROWER than '..Said'. Prove '..Said' where nothing that the law and all that it calls make is longer than what came in: it says more and counts as full. Else prove '..UptoSaid'. A law counts once. -/
mutual
def uptoBulk {H : Type} : DataW H → Nat
  | .lit (.string bytes) => bytes.length + 1
  | .lit _ => 1
  | .nil => 1
  | .ptr d => uptoBulk d + 1
  | .slice elems spare => uptoBulkAll elems + uptoBulkAll spare + 1
  | .agg parts => uptoBulkAll parts + 1
  | .iface _ d => uptoBulk d + 1
  | .map entries => uptoBulkEntries entries + 1
  | .held _ => 1
def uptoBulkAll {H : Type} : List (DataW H) → Nat
  | [] => 0
  | d :: r => uptoBulk d + uptoBulkAll r
def uptoBulkEntries {H : Type} : List (Lit × DataW H) → Nat
  | [] => 0
  | x :: r => uptoBulkEntry x + uptoBulkEntries r
def uptoBulkEntry {H : Type} : Lit × DataW H → Nat
  | (.string bytes, d) => bytes.length + uptoBulk d + 1
  | (_, d) => uptoBulk d + 1
 end
def uptoSmall : (H : Type) → List (DataW H) → Bool := fun _ ds => decide (uptoBulkAll ds ≤ 1048576)
def OpenSpec.upto (s : _root_.Go.ChangeSpec) : _root_.Go.OpenSpec := { _root_.Go.OpenSpec.ofChange s with cond := some uptoSmall }

/-- 'platenlaw05.ShortParts', WHERE WHAT IT READS IS OF BULK AT MOST 1048576: true; the input reads as it did. -/
def shortPartsUptoRow : OpenClaim := { program := "ytmeapdchnnpceaadoor", sum := "703d050701e29bc114bf7477a1ade910b92673f167a48e53b14d742af03fce75", func := "platen/platenlaw05.ShortParts", spec := "shortParts", inPlace := ["internal/bytealg.IndexByteString", "internal/bytealg.IndexString", "internal/bytealg.abigen_runtime_cmpstring"], unfollowed := true, recurses := true, named := ["unicode/utf8.first", "unicode/utf8.acceptRanges", "internal/bytealg.MaxLen"], apart := false, laid := [("unicode/utf8.acceptRanges", laid_unicode_utf8_acceptRanges), ("unicode/utf8.first", laid_unicode_utf8_first)], narrowed := true }
def ShortPartsUptoSaid : Prop := shortPartsUptoRow.holds Tryd.pinned (OpenSpec.upto shortPartsSpec)

/-- 'platenlaw05.ShortReads', WHERE WHAT IT READS IS OF BULK AT MOST 1048576: true; the input reads as it did. -/
def shortReadsUptoRow : OpenClaim := { program := "ytmeapdchnnpceaadoor", sum := "703d050701e29bc114bf7477a1ade910b92673f167a48e53b14d742af03fce75", func := "platen/platenlaw05.ShortReads", spec := "shortReads", inPlace := ["internal/bytealg.IndexByteString", "internal/bytealg.IndexString", "internal/bytealg.abigen_runtime_cmpstring"], unfollowed := true, recurses := true, named := ["unicode/utf8.first", "unicode/utf8.acceptRanges", "internal/bytealg.MaxLen"], apart := false, laid := [("unicode/utf8.acceptRanges", laid_unicode_utf8_acceptRanges), ("unicode/utf8.first", laid_unicode_utf8_first)], narrowed := true }
def ShortReadsUptoSaid : Prop := shortReadsUptoRow.holds Tryd.pinned (OpenSpec.upto shortReadsSpec)

/-- 'platenlaw05.ShortDigits', WHERE WHAT IT READS IS OF BULK AT MOST 1048576: true; the input reads as it did. -/
def shortDigitsUptoRow : OpenClaim := { program := "ytmeapdchnnpceaadoor", sum := "703d050701e29bc114bf7477a1ade910b92673f167a48e53b14d742af03fce75", func := "platen/platenlaw05.ShortDigits", spec := "shortDigits", inPlace := ["internal/bytealg.IndexByteString", "internal/bytealg.IndexString", "internal/bytealg.abigen_runtime_cmpstring"], unfollowed := true, recurses := true, named := ["unicode/utf8.first", "unicode/utf8.acceptRanges", "internal/bytealg.MaxLen"], apart := false, laid := [("unicode/utf8.acceptRanges", laid_unicode_utf8_acceptRanges), ("unicode/utf8.first", laid_unicode_utf8_first)], narrowed := true }
def ShortDigitsUptoSaid : Prop := shortDigitsUptoRow.holds Tryd.pinned (OpenSpec.upto shortDigitsSpec)

/-- 'platenlaw05.ShortBack', WHERE WHAT IT READS IS OF BULK AT MOST 1048576: true; the input reads as it did. -/
def shortBackUptoRow : OpenClaim := { program := "ytmeapdchnnpceaadoor", sum := "703d050701e29bc114bf7477a1ade910b92673f167a48e53b14d742af03fce75", func := "platen/platenlaw05.ShortBack", spec := "shortBack", inPlace := ["internal/bytealg.IndexByteString", "internal/bytealg.IndexString", "internal/bytealg.abigen_runtime_cmpstring"], unfollowed := true, recurses := true, named := ["unicode/utf8.first", "unicode/utf8.acceptRanges", "internal/bytealg.MaxLen"], apart := false, laid := [("unicode/utf8.acceptRanges", laid_unicode_utf8_acceptRanges), ("unicode/utf8.first", laid_unicode_utf8_first)], narrowed := true }
def ShortBackUptoSaid : Prop := shortBackUptoRow.holds Tryd.pinned (OpenSpec.upto shortBackSpec)

/-- 'platenlaw05.ShortLeast', WHERE WHAT IT READS IS OF BULK AT MOST 1048576: true; the input reads as it did. -/
def shortLeastUptoRow : OpenClaim := { program := "ytmeapdchnnpceaadoor", sum := "703d050701e29bc114bf7477a1ade910b92673f167a48e53b14d742af03fce75", func := "platen/platenlaw05.ShortLeast", spec := "shortLeast", inPlace := ["internal/bytealg.IndexByteString", "internal/bytealg.IndexString", "internal/bytealg.abigen_runtime_cmpstring"], unfollowed := true, recurses := true, named := ["unicode/utf8.first", "unicode/utf8.acceptRanges", "internal/bytealg.MaxLen"], apart := false, laid := [("unicode/utf8.acceptRanges", laid_unicode_utf8_acceptRanges), ("unicode/utf8.first", laid_unicode_utf8_first)], narrowed := true }
def ShortLeastUptoSaid : Prop := shortLeastUptoRow.holds Tryd.pinned (OpenSpec.upto shortLeastSpec)

/-- 'platenlaw05.ShortClosest', WHERE WHAT IT READS IS OF BULK AT MOST 1048576: true; the input reads as it did. -/
def shortClosestUptoRow : OpenClaim := { program := "ytmeapdchnnpceaadoor", sum := "703d050701e29bc114bf7477a1ade910b92673f167a48e53b14d742af03fce75", func := "platen/platenlaw05.ShortClosest", spec := "shortClosest", inPlace := ["internal/bytealg.IndexByteString", "internal/bytealg.IndexString", "internal/bytealg.abigen_runtime_cmpstring"], unfollowed := true, recurses := true, named := ["unicode/utf8.first", "unicode/utf8.acceptRanges", "internal/bytealg.MaxLen"], apart := false, laid := [("unicode/utf8.acceptRanges", laid_unicode_utf8_acceptRanges), ("unicode/utf8.first", laid_unicode_utf8_first)], narrowed := true }
def ShortClosestUptoSaid : Prop := shortClosestUptoRow.holds Tryd.pinned (OpenSpec.upto shortClosestSpec)

/-- 'platenlaw05.ShortExacts', WHERE WHAT IT READS IS OF BULK AT MOST 1048576: true; the input reads as it did. -/
def shortExactsUptoRow : OpenClaim := { program := "ytmeapdchnnpceaadoor", sum := "703d050701e29bc114bf7477a1ade910b92673f167a48e53b14d742af03fce75", func := "platen/platenlaw05.ShortExacts", spec := "shortExacts", inPlace := ["internal/bytealg.IndexByteString", "internal/bytealg.IndexString", "internal/bytealg.abigen_runtime_cmpstring"], unfollowed := true, recurses := true, named := ["unicode/utf8.first", "unicode/utf8.acceptRanges", "internal/bytealg.MaxLen"], apart := false, laid := [("unicode/utf8.acceptRanges", laid_unicode_utf8_acceptRanges), ("unicode/utf8.first", laid_unicode_utf8_first)], narrowed := true }
def ShortExactsUptoSaid : Prop := shortExactsUptoRow.holds Tryd.pinned (OpenSpec.upto shortExactsSpec)

/-- 'platenlaw05.ShortRises', WHERE WHAT IT READS IS OF BULK AT MOST 1048576: true; the input reads as it did. -/
def shortRisesUptoRow : OpenClaim := { program := "ytmeapdchnnpceaadoor", sum := "703d050701e29bc114bf7477a1ade910b92673f167a48e53b14d742af03fce75", func := "platen/platenlaw05.ShortRises", spec := "shortRises", inPlace := ["internal/bytealg.IndexByteString", "internal/bytealg.IndexString", "internal/bytealg.abigen_runtime_cmpstring"], unfollowed := true, recurses := true, named := ["unicode/utf8.first", "unicode/utf8.acceptRanges", "internal/bytealg.MaxLen"], apart := false, laid := [("unicode/utf8.acceptRanges", laid_unicode_utf8_acceptRanges), ("unicode/utf8.first", laid_unicode_utf8_first)], narrowed := true }
def ShortRisesUptoSaid : Prop := shortRisesUptoRow.holds Tryd.pinned (OpenSpec.upto shortRisesSpec)

/-- 'platenlaw05.ShortMiddles', WHERE WHAT IT READS IS OF BULK AT MOST 1048576: true; the input reads as it did. -/
def shortMiddlesUptoRow : OpenClaim := { program := "ytmeapdchnnpceaadoor", sum := "703d050701e29bc114bf7477a1ade910b92673f167a48e53b14d742af03fce75", func := "platen/platenlaw05.ShortMiddles", spec := "shortMiddles", inPlace := ["internal/bytealg.IndexByteString", "internal/bytealg.IndexString", "internal/bytealg.abigen_runtime_cmpstring"], unfollowed := true, recurses := true, named := ["unicode/utf8.first", "unicode/utf8.acceptRanges", "internal/bytealg.MaxLen"], apart := false, laid := [("unicode/utf8.acceptRanges", laid_unicode_utf8_acceptRanges), ("unicode/utf8.first", laid_unicode_utf8_first)], narrowed := true }
def ShortMiddlesUptoSaid : Prop := shortMiddlesUptoRow.holds Tryd.pinned (OpenSpec.upto shortMiddlesSpec)

/-- 'platenlaw05.ShortRefuses', WHERE WHAT IT READS IS OF BULK AT MOST 1048576: true; the input reads as it did. -/
def shortRefusesUptoRow : OpenClaim := { program := "ytmeapdchnnpceaadoor", sum := "703d050701e29bc114bf7477a1ade910b92673f167a48e53b14d742af03fce75", func := "platen/platenlaw05.ShortRefuses", spec := "shortRefuses", inPlace := ["internal/bytealg.IndexByteString", "internal/bytealg.IndexString", "internal/bytealg.abigen_runtime_cmpstring"], unfollowed := true, recurses := true, named := ["unicode/utf8.first", "unicode/utf8.acceptRanges", "internal/bytealg.MaxLen"], apart := false, laid := [("unicode/utf8.acceptRanges", laid_unicode_utf8_acceptRanges), ("unicode/utf8.first", laid_unicode_utf8_first)], narrowed := true }
def ShortRefusesUptoSaid : Prop := shortRefusesUptoRow.holds Tryd.pinned (OpenSpec.upto shortRefusesSpec)

end Rows
end Go.Proofs.YtmeapdchnnpceaaDoor
