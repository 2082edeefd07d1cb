/-
  NARROWER THAN 'FOR EVERY INPUT', by the rows' own cells (each row's printed sentence says how): FloatsFixed: laid · FloatsGeneral: laid · FloatsBits: laid · FloatsAny: laid · FloatsOdd: laid · FloatsSigns: laid · FloatsWide: laid · FloatsExact: laid · FloatsHexBack: laid · FloatsRefuses: laid · FloatsBack: laid · CplxTexts: laid · CplxSplits: laid · CplxBack: laid · CplxHalves: laid · CplxRefuses: laid · CplxPlus: laid.
  DERIVED. THE GIVEN ROWS OF THIS SEAT. 17 by the template 'for every input the law returns true; each argument reads behind the call as it read before'; 0 by the template 'total and deterministic' (their statements: YtecpgdfnamkfdaaGreatDoorTotals.lean).
  GIVEN WITH THE SEED: the statements are not yours to turn. If you find one false, say at which input.
  Laid BY PROGRAM, IN A SANDBOX (cutbox-rows.mjs): the forced cells as the released guide's own fill.sh prints them over the translation 41d2535648435196… (all of the seat's roots in one cut). By AI agents, Wed Nov 11 2026. No macro, syntax, notation, axiom, sorry.
-/
import Derived.Test.YtecpgdfnamkfdaaGreatDoorChecked
import GoSem.PinnedTables
import GoSem.Claim
import GoSem.ClaimJoined
import GoSem.ClaimMapViews
import Derived.JoinedTies
import Derived.KernelRfl
namespace Go.Proofs.YtecpgdfnamkfdaaGreatDoor
/- THE CELL 'sum', in the pinned program and in every row, IS THE sha256 OF THE DUMP (.gsa) THAT YtecpgdfnamkfdaaGreatDoorProg.lean LOADS. Nothing in Lean hashes anything: it is a label: what it is worth is what the hold of that sum in a sandbox is worth. -/
noncomputable def Tryz.pinned : Pinned := { name := "ytecpgdfnamkfdaagreatdoor", sum := "41d253564843519696527d4bbf3397bef6c83ff0476abb4477fddf1d144ef6aa", checked := Tryz.checked }
namespace Rows
def none {H : Type} : Left H := { results := [], args := [] }

/- WHAT THE LISTED PACKAGE-LEVEL VARIABLES READ AS WHEN THE CALL BEGINS. Each datum BY PROGRAM (the guide's laid-datum.mjs) off the statement by which the dump's own 'gosem.cut.vars' lays the variable. In a bare row this is a premise. The card (YtecpgdfnamkfdaaGreatDoorCards.lean) ties it to the program's text. -/
def laid_unicode_utf8_acceptRanges {H : Type} : DataW H := .agg [.agg [.lit (.int .u8 128), .lit (.int .u8 191)], .agg [.lit (.int .u8 160), .lit (.int .u8 191)], .agg [.lit (.int .u8 128), .lit (.int .u8 159)], .agg [.lit (.int .u8 144), .lit (.int .u8 191)], .agg [.lit (.int .u8 128), .lit (.int .u8 143)], .agg [.lit (.int .u8 0), .lit (.int .u8 0)], .agg [.lit (.int .u8 0), .lit (.int .u8 0)], .agg [.lit (.int .u8 0), .lit (.int .u8 0)], .agg [.lit (.int .u8 0), .lit (.int .u8 0)], .agg [.lit (.int .u8 0), .lit (.int .u8 0)], .agg [.lit (.int .u8 0), .lit (.int .u8 0)], .agg [.lit (.int .u8 0), .lit (.int .u8 0)], .agg [.lit (.int .u8 0), .lit (.int .u8 0)], .agg [.lit (.int .u8 0), .lit (.int .u8 0)], .agg [.lit (.int .u8 0), .lit (.int .u8 0)], .agg [.lit (.int .u8 0), .lit (.int .u8 0)]]
/-- One of Go's own tables, pinned by name: the form's constant. -/
def laid_unicode_CaseRanges : DataW Unit := Go.Pinned.caseRanges
/-- One of Go's own tables, pinned by name: the form's constant. -/
def laid_unicode_utf8_first : DataW Unit := Go.Pinned.utf8First

/-- 'platenlaw06.FloatsFixed': WHATEVER THE INPUT: true; the input reads as it did. -/
def floatsFixedSpec : ChangeSpec := { name := "floatsFixed", fn := fun _ => fun
  | [d1, d2, d3] => { results := [.lit (.bool true)], args := [d1, d2, d3] }
  | _ => none }
def floatsFixedRow : OpenClaim := { program := "ytecpgdfnamkfdaagreatdoor", sum := "41d253564843519696527d4bbf3397bef6c83ff0476abb4477fddf1d144ef6aa", func := "platen/platenlaw06.FloatsFixed", spec := "floatsFixed", inPlace := ["internal/bytealg.IndexByteString", "internal/bytealg.IndexString", "internal/abi.NoEscape", "internal/bytealg.MakeNoZero", "internal/bytealg.abigen_runtime_cmpstring"], unfollowed := true, recurses := true, named := ["unicode/utf8.first", "unicode/utf8.acceptRanges", "unicode.CaseRanges", "internal/bytealg.MaxLen"], apart := false, laid := [("unicode/utf8.acceptRanges", laid_unicode_utf8_acceptRanges), ("unicode.CaseRanges", laid_unicode_CaseRanges), ("unicode/utf8.first", laid_unicode_utf8_first)] }
def FloatsFixedSaid : Prop := floatsFixedRow.holds Tryz.pinned (OpenSpec.ofChange floatsFixedSpec)

/-- ITS FALSE NEIGHBOUR: 'it returns false'. Refute it at one input. -/
def floatsFixedWrong : ChangeSpec := { name := "floatsFixed", fn := fun _ => fun
  | [d1, d2, d3] => { results := [.lit (.bool false)], args := [d1, d2, d3] }
  | _ => none }
def FloatsFixedWrongFalsely : Prop := floatsFixedRow.holds Tryz.pinned (OpenSpec.ofChange floatsFixedWrong)

/-- 'platenlaw06.FloatsGeneral': WHATEVER THE INPUT: true; the input reads as it did. -/
def floatsGeneralSpec : ChangeSpec := { name := "floatsGeneral", fn := fun _ => fun
  | [d1, d2, d3] => { results := [.lit (.bool true)], args := [d1, d2, d3] }
  | _ => none }
def floatsGeneralRow : OpenClaim := { program := "ytecpgdfnamkfdaagreatdoor", sum := "41d253564843519696527d4bbf3397bef6c83ff0476abb4477fddf1d144ef6aa", func := "platen/platenlaw06.FloatsGeneral", spec := "floatsGeneral", inPlace := ["internal/bytealg.IndexByteString", "internal/bytealg.IndexString", "internal/abi.NoEscape", "internal/bytealg.MakeNoZero", "internal/bytealg.abigen_runtime_cmpstring"], unfollowed := true, recurses := true, named := ["unicode/utf8.first", "unicode/utf8.acceptRanges", "unicode.CaseRanges", "internal/bytealg.MaxLen"], apart := false, laid := [("unicode/utf8.acceptRanges", laid_unicode_utf8_acceptRanges), ("unicode.CaseRanges", laid_unicode_CaseRanges), ("unicode/utf8.first", laid_unicode_utf8_first)] }
def FloatsGeneralSaid : Prop := floatsGeneralRow.holds Tryz.pinned (OpenSpec.ofChange floatsGeneralSpec)

/-- ITS FALSE NEIGHBOUR: 'it returns false'. Refute it at one input. -/
def floatsGeneralWrong : ChangeSpec := { name := "floatsGeneral", fn := fun _ => fun
  | [d1, d2, d3] => { results := [.lit (.bool false)], args := [d1, d2, d3] }
  | _ => none }
def FloatsGeneralWrongFalsely : Prop := floatsGeneralRow.holds Tryz.pinned (OpenSpec.ofChange floatsGeneralWrong)

/-- 'platenlaw06.FloatsBits': WHATEVER THE INPUT: true; the input reads as it did. -/
def floatsBitsSpec : ChangeSpec := { name := "floatsBits", fn := fun _ => fun
  | [d1, d2, d3] => { results := [.lit (.bool true)], args := [d1, d2, d3] }
  | _ => none }
def floatsBitsRow : OpenClaim := { program := "ytecpgdfnamkfdaagreatdoor", sum := "41d253564843519696527d4bbf3397bef6c83ff0476abb4477fddf1d144ef6aa", func := "platen/platenlaw06.FloatsBits", spec := "floatsBits", inPlace := ["internal/bytealg.IndexByteString", "internal/bytealg.IndexString", "internal/abi.NoEscape", "internal/bytealg.MakeNoZero", "internal/bytealg.abigen_runtime_cmpstring"], unfollowed := true, recurses := true, named := ["unicode/utf8.first", "unicode/utf8.acceptRanges", "unicode.CaseRanges", "internal/bytealg.MaxLen"], apart := false, laid := [("unicode/utf8.acceptRanges", laid_unicode_utf8_acceptRanges), ("unicode.CaseRanges", laid_unicode_CaseRanges), ("unicode/utf8.first", laid_unicode_utf8_first)] }
def FloatsBitsSaid : Prop := floatsBitsRow.holds Tryz.pinned (OpenSpec.ofChange floatsBitsSpec)

/-- ITS FALSE NEIGHBOUR: 'it returns false'. Refute it at one input. -/
def floatsBitsWrong : ChangeSpec := { name := "floatsBits", fn := fun _ => fun
  | [d1, d2, d3] => { results := [.lit (.bool false)], args := [d1, d2, d3] }
  | _ => none }
def FloatsBitsWrongFalsely : Prop := floatsBitsRow.holds Tryz.pinned (OpenSpec.ofChange floatsBitsWrong)

/-- 'platenlaw06.FloatsAny': WHATEVER THE INPUT: true; the input reads as it did. -/
def floatsAnySpec : ChangeSpec := { name := "floatsAny", fn := fun _ => fun
  | [d1, d2, d3] => { results := [.lit (.bool true)], args := [d1, d2, d3] }
  | _ => none }
def floatsAnyRow : OpenClaim := { program := "ytecpgdfnamkfdaagreatdoor", sum := "41d253564843519696527d4bbf3397bef6c83ff0476abb4477fddf1d144ef6aa", func := "platen/platenlaw06.FloatsAny", spec := "floatsAny", inPlace := ["internal/bytealg.IndexByteString", "internal/bytealg.IndexString", "internal/abi.NoEscape", "internal/bytealg.MakeNoZero", "internal/bytealg.abigen_runtime_cmpstring"], unfollowed := true, recurses := true, named := ["unicode/utf8.first", "unicode/utf8.acceptRanges", "unicode.CaseRanges", "internal/bytealg.MaxLen"], apart := false, laid := [("unicode/utf8.acceptRanges", laid_unicode_utf8_acceptRanges), ("unicode.CaseRanges", laid_unicode_CaseRanges), ("unicode/utf8.first", laid_unicode_utf8_first)] }
def FloatsAnySaid : Prop := floatsAnyRow.holds Tryz.pinned (OpenSpec.ofChange floatsAnySpec)

/-- ITS FALSE NEIGHBOUR: 'it returns false'. Refute it at one input. -/
def floatsAnyWrong : ChangeSpec := { name := "floatsAny", fn := fun _ => fun
  | [d1, d2, d3] => { results := [.lit (.bool false)], args := [d1, d2, d3] }
  | _ => none }
def FloatsAnyWrongFalsely : Prop := floatsAnyRow.holds Tryz.pinned (OpenSpec.ofChange floatsAnyWrong)

/-- 'platenlaw06.FloatsOdd': WHATEVER THE INPUT: true; the input reads as it did. -/
def floatsOddSpec : ChangeSpec := { name := "floatsOdd", fn := fun _ => fun
  | [d1, d2, d3] => { results := [.lit (.bool true)], args := [d1, d2, d3] }
  | _ => none }
def floatsOddRow : OpenClaim := { program := "ytecpgdfnamkfdaagreatdoor", sum := "41d253564843519696527d4bbf3397bef6c83ff0476abb4477fddf1d144ef6aa", func := "platen/platenlaw06.FloatsOdd", spec := "floatsOdd", inPlace := ["internal/bytealg.IndexByteString", "internal/bytealg.IndexString", "internal/abi.NoEscape", "internal/bytealg.MakeNoZero", "internal/bytealg.abigen_runtime_cmpstring"], unfollowed := true, recurses := true, named := ["unicode/utf8.first", "unicode/utf8.acceptRanges", "unicode.CaseRanges", "internal/bytealg.MaxLen"], apart := false, laid := [("unicode/utf8.acceptRanges", laid_unicode_utf8_acceptRanges), ("unicode.CaseRanges", laid_unicode_CaseRanges), ("unicode/utf8.first", laid_unicode_utf8_first)] }
def FloatsOddSaid : Prop := floatsOddRow.holds Tryz.pinned (OpenSpec.ofChange floatsOddSpec)

/-- ITS FALSE NEIGHBOUR: 'it returns false'. Refute it at one input. -/
def floatsOddWrong : ChangeSpec := { name := "floatsOdd", fn := fun _ => fun
  | [d1, d2, d3] => { results := [.lit (.bool false)], args := [d1, d2, d3] }
  | _ => none }
def FloatsOddWrongFalsely : Prop := floatsOddRow.holds Tryz.pinned (OpenSpec.ofChange floatsOddWrong)

/-- 'platenlaw06.FloatsSigns': WHATEVER THE INPUT: true; the input reads as it did. -/
def floatsSignsSpec : ChangeSpec := { name := "floatsSigns", fn := fun _ => fun
  | [d1, d2, d3] => { results := [.lit (.bool true)], args := [d1, d2, d3] }
  | _ => none }
def floatsSignsRow : OpenClaim := { program := "ytecpgdfnamkfdaagreatdoor", sum := "41d253564843519696527d4bbf3397bef6c83ff0476abb4477fddf1d144ef6aa", func := "platen/platenlaw06.FloatsSigns", spec := "floatsSigns", inPlace := ["internal/bytealg.IndexByteString", "internal/bytealg.IndexString", "internal/abi.NoEscape", "internal/bytealg.MakeNoZero", "internal/bytealg.abigen_runtime_cmpstring"], unfollowed := true, recurses := true, named := ["unicode/utf8.first", "unicode/utf8.acceptRanges", "unicode.CaseRanges", "internal/bytealg.MaxLen"], apart := false, laid := [("unicode/utf8.acceptRanges", laid_unicode_utf8_acceptRanges), ("unicode.CaseRanges", laid_unicode_CaseRanges), ("unicode/utf8.first", laid_unicode_utf8_first)] }
def FloatsSignsSaid : Prop := floatsSignsRow.holds Tryz.pinned (OpenSpec.ofChange floatsSignsSpec)

/-- ITS FALSE NEIGHBOUR: 'it returns false'. Refute it at one input. -/
def floatsSignsWrong : ChangeSpec := { name := "floatsSigns", fn := fun _ => fun
  | [d1, d2, d3] => { results := [.lit (.bool false)], args := [d1, d2, d3] }
  | _ => none }
def FloatsSignsWrongFalsely : Prop := floatsSignsRow.holds Tryz.pinned (OpenSpec.ofChange floatsSignsWrong)

/-- 'platenlaw06.FloatsWide': WHATEVER THE INPUT: true; the input reads as it did. -/
def floatsWideSpec : ChangeSpec := { name := "floatsWide", fn := fun _ => fun
  | [d1, d2, d3] => { results := [.lit (.bool true)], args := [d1, d2, d3] }
  | _ => none }
def floatsWideRow : OpenClaim := { program := "ytecpgdfnamkfdaagreatdoor", sum := "41d253564843519696527d4bbf3397bef6c83ff0476abb4477fddf1d144ef6aa", func := "platen/platenlaw06.FloatsWide", spec := "floatsWide", inPlace := ["internal/bytealg.IndexByteString", "internal/bytealg.IndexString", "internal/abi.NoEscape", "internal/bytealg.MakeNoZero", "internal/bytealg.abigen_runtime_cmpstring"], unfollowed := true, recurses := true, named := ["unicode/utf8.first", "unicode/utf8.acceptRanges", "unicode.CaseRanges", "internal/bytealg.MaxLen"], apart := false, laid := [("unicode/utf8.acceptRanges", laid_unicode_utf8_acceptRanges), ("unicode.CaseRanges", laid_unicode_CaseRanges), ("unicode/utf8.first", laid_unicode_utf8_first)] }
def FloatsWideSaid : Prop := floatsWideRow.holds Tryz.pinned (OpenSpec.ofChange floatsWideSpec)

/-- ITS FALSE NEIGHBOUR: 'it returns false'. Refute it at one input. -/
def floatsWideWrong : ChangeSpec := { name := "floatsWide", fn := fun _ => fun
  | [d1, d2, d3] => { results := [.lit (.bool false)], args := [d1, d2, d3] }
  | _ => none }
def FloatsWideWrongFalsely : Prop := floatsWideRow.holds Tryz.pinned (OpenSpec.ofChange floatsWideWrong)

/-- 'platenlaw06.FloatsExact': WHATEVER THE INPUT: true; the input reads as it did. -/
def floatsExactSpec : ChangeSpec := { name := "floatsExact", fn := fun _ => fun
  | [d1, d2, d3] => { results := [.lit (.bool true)], args := [d1, d2, d3] }
  | _ => none }
def floatsExactRow : OpenClaim := { program := "ytecpgdfnamkfdaagreatdoor", sum := "41d253564843519696527d4bbf3397bef6c83ff0476abb4477fddf1d144ef6aa", func := "platen/platenlaw06.FloatsExact", spec := "floatsExact", inPlace := ["internal/bytealg.IndexByteString", "internal/bytealg.IndexString", "internal/abi.NoEscape", "internal/bytealg.MakeNoZero", "internal/bytealg.abigen_runtime_cmpstring"], unfollowed := true, recurses := true, named := ["unicode/utf8.first", "unicode/utf8.acceptRanges", "unicode.CaseRanges", "internal/bytealg.MaxLen"], apart := false, laid := [("unicode/utf8.acceptRanges", laid_unicode_utf8_acceptRanges), ("unicode.CaseRanges", laid_unicode_CaseRanges), ("unicode/utf8.first", laid_unicode_utf8_first)] }
def FloatsExactSaid : Prop := floatsExactRow.holds Tryz.pinned (OpenSpec.ofChange floatsExactSpec)

/-- ITS FALSE NEIGHBOUR: 'it returns false'. Refute it at one input. -/
def floatsExactWrong : ChangeSpec := { name := "floatsExact", fn := fun _ => fun
  | [d1, d2, d3] => { results := [.lit (.bool false)], args := [d1, d2, d3] }
  | _ => none }
def FloatsExactWrongFalsely : Prop := floatsExactRow.holds Tryz.pinned (OpenSpec.ofChange floatsExactWrong)

/-- 'platenlaw06.FloatsHexBack': WHATEVER THE INPUT: true; the input reads as it did. -/
def floatsHexBackSpec : ChangeSpec := { name := "floatsHexBack", fn := fun _ => fun
  | [d] => { results := [.lit (.bool true)], args := [d] }
  | _ => none }
def floatsHexBackRow : OpenClaim := { program := "ytecpgdfnamkfdaagreatdoor", sum := "41d253564843519696527d4bbf3397bef6c83ff0476abb4477fddf1d144ef6aa", func := "platen/platenlaw06.FloatsHexBack", spec := "floatsHexBack", inPlace := ["internal/bytealg.IndexByteString", "internal/bytealg.IndexString", "internal/abi.NoEscape", "internal/bytealg.MakeNoZero", "internal/bytealg.abigen_runtime_cmpstring"], unfollowed := true, recurses := true, named := ["unicode/utf8.first", "unicode/utf8.acceptRanges", "unicode.CaseRanges", "internal/bytealg.MaxLen"], apart := false, laid := [("unicode/utf8.acceptRanges", laid_unicode_utf8_acceptRanges), ("unicode.CaseRanges", laid_unicode_CaseRanges), ("unicode/utf8.first", laid_unicode_utf8_first)] }
def FloatsHexBackSaid : Prop := floatsHexBackRow.holds Tryz.pinned (OpenSpec.ofChange floatsHexBackSpec)

/-- ITS FALSE NEIGHBOUR: 'it returns false'. Refute it at one input. -/
def floatsHexBackWrong : ChangeSpec := { name := "floatsHexBack", fn := fun _ => fun
  | [d] => { results := [.lit (.bool false)], args := [d] }
  | _ => none }
def FloatsHexBackWrongFalsely : Prop := floatsHexBackRow.holds Tryz.pinned (OpenSpec.ofChange floatsHexBackWrong)

/-- 'platenlaw06.FloatsRefuses': WHATEVER THE INPUT: true; the input reads as it did. -/
def floatsRefusesSpec : ChangeSpec := { name := "floatsRefuses", fn := fun _ => fun
  | [d1, d2, d3] => { results := [.lit (.bool true)], args := [d1, d2, d3] }
  | _ => none }
def floatsRefusesRow : OpenClaim := { program := "ytecpgdfnamkfdaagreatdoor", sum := "41d253564843519696527d4bbf3397bef6c83ff0476abb4477fddf1d144ef6aa", func := "platen/platenlaw06.FloatsRefuses", spec := "floatsRefuses", inPlace := ["internal/bytealg.IndexByteString", "internal/bytealg.IndexString", "internal/abi.NoEscape", "internal/bytealg.MakeNoZero", "internal/bytealg.abigen_runtime_cmpstring"], unfollowed := true, recurses := true, named := ["unicode/utf8.first", "unicode/utf8.acceptRanges", "unicode.CaseRanges", "internal/bytealg.MaxLen"], apart := false, laid := [("unicode/utf8.acceptRanges", laid_unicode_utf8_acceptRanges), ("unicode.CaseRanges", laid_unicode_CaseRanges), ("unicode/utf8.first", laid_unicode_utf8_first)] }
def FloatsRefusesSaid : Prop := floatsRefusesRow.holds Tryz.pinned (OpenSpec.ofChange floatsRefusesSpec)

/-- ITS FALSE NEIGHBOUR: 'it returns false'. Refute it at one input. -/
def floatsRefusesWrong : ChangeSpec := { name := "floatsRefuses", fn := fun _ => fun
  | [d1, d2, d3] => { results := [.lit (.bool false)], args := [d1, d2, d3] }
  | _ => none }
def FloatsRefusesWrongFalsely : Prop := floatsRefusesRow.holds Tryz.pinned (OpenSpec.ofChange floatsRefusesWrong)

/-- 'platenlaw06.FloatsBack': WHATEVER THE INPUT: true; the input reads as it did. -/
def floatsBackSpec : ChangeSpec := { name := "floatsBack", fn := fun _ => fun
  | [d1, d2] => { results := [.lit (.bool true)], args := [d1, d2] }
  | _ => none }
def floatsBackRow : OpenClaim := { program := "ytecpgdfnamkfdaagreatdoor", sum := "41d253564843519696527d4bbf3397bef6c83ff0476abb4477fddf1d144ef6aa", func := "platen/platenlaw06.FloatsBack", spec := "floatsBack", inPlace := ["internal/bytealg.IndexByteString", "internal/bytealg.IndexString", "internal/abi.NoEscape", "internal/bytealg.MakeNoZero", "internal/bytealg.abigen_runtime_cmpstring"], unfollowed := true, recurses := true, named := ["unicode/utf8.first", "unicode/utf8.acceptRanges", "unicode.CaseRanges", "internal/bytealg.MaxLen"], apart := false, laid := [("unicode/utf8.acceptRanges", laid_unicode_utf8_acceptRanges), ("unicode.CaseRanges", laid_unicode_CaseRanges), ("unicode/utf8.first", laid_unicode_utf8_first)] }
def FloatsBackSaid : Prop := floatsBackRow.holds Tryz.pinned (OpenSpec.ofChange floatsBackSpec)

/-- ITS FALSE NEIGHBOUR: 'it returns false'. Refute it at one input. -/
def floatsBackWrong : ChangeSpec := { name := "floatsBack", fn := fun _ => fun
  | [d1, d2] => { results := [.lit (.bool false)], args := [d1, d2] }
  | _ => none }
def FloatsBackWrongFalsely : Prop := floatsBackRow.holds Tryz.pinned (OpenSpec.ofChange floatsBackWrong)

/-- 'platenlaw07.CplxTexts': WHATEVER THE INPUT: true; the input reads as it did. -/
def cplxTextsSpec : ChangeSpec := { name := "cplxTexts", fn := fun _ => fun
  | [d1, d2, d3] => { results := [.lit (.bool true)], args := [d1, d2, d3] }
  | _ => none }
def cplxTextsRow : OpenClaim := { program := "ytecpgdfnamkfdaagreatdoor", sum := "41d253564843519696527d4bbf3397bef6c83ff0476abb4477fddf1d144ef6aa", func := "platen/platenlaw07.CplxTexts", spec := "cplxTexts", inPlace := ["internal/bytealg.IndexByteString", "internal/bytealg.IndexString", "internal/abi.NoEscape", "internal/bytealg.MakeNoZero", "internal/bytealg.abigen_runtime_cmpstring"], unfollowed := true, recurses := true, named := ["unicode/utf8.first", "unicode/utf8.acceptRanges", "unicode.CaseRanges", "internal/bytealg.MaxLen"], apart := false, laid := [("unicode/utf8.acceptRanges", laid_unicode_utf8_acceptRanges), ("unicode.CaseRanges", laid_unicode_CaseRanges), ("unicode/utf8.first", laid_unicode_utf8_first)] }
def CplxTextsSaid : Prop := cplxTextsRow.holds Tryz.pinned (OpenSpec.ofChange cplxTextsSpec)

/-- ITS FALSE NEIGHBOUR: 'it returns false'. Refute it at one input. -/
def cplxTextsWrong : ChangeSpec := { name := "cplxTexts", fn := fun _ => fun
  | [d1, d2, d3] => { results := [.lit (.bool false)], args := [d1, d2, d3] }
  | _ => none }
def CplxTextsWrongFalsely : Prop := cplxTextsRow.holds Tryz.pinned (OpenSpec.ofChange cplxTextsWrong)

/-- 'platenlaw07.CplxSplits': WHATEVER THE INPUT: true; the input reads as it did. -/
def cplxSplitsSpec : ChangeSpec := { name := "cplxSplits", fn := fun _ => fun
  | [d] => { results := [.lit (.bool true)], args := [d] }
  | _ => none }
def cplxSplitsRow : OpenClaim := { program := "ytecpgdfnamkfdaagreatdoor", sum := "41d253564843519696527d4bbf3397bef6c83ff0476abb4477fddf1d144ef6aa", func := "platen/platenlaw07.CplxSplits", spec := "cplxSplits", inPlace := ["internal/bytealg.IndexByteString", "internal/bytealg.IndexString", "internal/abi.NoEscape", "internal/bytealg.MakeNoZero", "internal/bytealg.abigen_runtime_cmpstring"], unfollowed := true, recurses := true, named := ["unicode/utf8.first", "unicode/utf8.acceptRanges", "unicode.CaseRanges", "internal/bytealg.MaxLen"], apart := false, laid := [("unicode/utf8.acceptRanges", laid_unicode_utf8_acceptRanges), ("unicode.CaseRanges", laid_unicode_CaseRanges), ("unicode/utf8.first", laid_unicode_utf8_first)] }
def CplxSplitsSaid : Prop := cplxSplitsRow.holds Tryz.pinned (OpenSpec.ofChange cplxSplitsSpec)

/-- ITS FALSE NEIGHBOUR: 'it returns false'. Refute it at one input. -/
def cplxSplitsWrong : ChangeSpec := { name := "cplxSplits", fn := fun _ => fun
  | [d] => { results := [.lit (.bool false)], args := [d] }
  | _ => none }
def CplxSplitsWrongFalsely : Prop := cplxSplitsRow.holds Tryz.pinned (OpenSpec.ofChange cplxSplitsWrong)

/-- 'platenlaw07.CplxBack': WHATEVER THE INPUT: true; the input reads as it did. -/
def cplxBackSpec : ChangeSpec := { name := "cplxBack", fn := fun _ => fun
  | [d1, d2, d3] => { results := [.lit (.bool true)], args := [d1, d2, d3] }
  | _ => none }
def cplxBackRow : OpenClaim := { program := "ytecpgdfnamkfdaagreatdoor", sum := "41d253564843519696527d4bbf3397bef6c83ff0476abb4477fddf1d144ef6aa", func := "platen/platenlaw07.CplxBack", spec := "cplxBack", inPlace := ["internal/bytealg.IndexByteString", "internal/bytealg.IndexString", "internal/abi.NoEscape", "internal/bytealg.MakeNoZero", "internal/bytealg.abigen_runtime_cmpstring"], unfollowed := true, recurses := true, named := ["unicode/utf8.first", "unicode/utf8.acceptRanges", "unicode.CaseRanges", "internal/bytealg.MaxLen"], apart := false, laid := [("unicode/utf8.acceptRanges", laid_unicode_utf8_acceptRanges), ("unicode.CaseRanges", laid_unicode_CaseRanges), ("unicode/utf8.first", laid_unicode_utf8_first)] }
def CplxBackSaid : Prop := cplxBackRow.holds Tryz.pinned (OpenSpec.ofChange cplxBackSpec)

/-- ITS FALSE NEIGHBOUR: 'it returns false'. Refute it at one input. -/
def cplxBackWrong : ChangeSpec := { name := "cplxBack", fn := fun _ => fun
  | [d1, d2, d3] => { results := [.lit (.bool false)], args := [d1, d2, d3] }
  | _ => none }
def CplxBackWrongFalsely : Prop := cplxBackRow.holds Tryz.pinned (OpenSpec.ofChange cplxBackWrong)

/-- 'platenlaw07.CplxHalves': WHATEVER THE INPUT: true; the input reads as it did. -/
def cplxHalvesSpec : ChangeSpec := { name := "cplxHalves", fn := fun _ => fun
  | [d1, d2] => { results := [.lit (.bool true)], args := [d1, d2] }
  | _ => none }
def cplxHalvesRow : OpenClaim := { program := "ytecpgdfnamkfdaagreatdoor", sum := "41d253564843519696527d4bbf3397bef6c83ff0476abb4477fddf1d144ef6aa", func := "platen/platenlaw07.CplxHalves", spec := "cplxHalves", inPlace := ["internal/bytealg.IndexByteString", "internal/bytealg.IndexString", "internal/abi.NoEscape", "internal/bytealg.MakeNoZero", "internal/bytealg.abigen_runtime_cmpstring"], unfollowed := true, recurses := true, named := ["unicode/utf8.first", "unicode/utf8.acceptRanges", "unicode.CaseRanges", "internal/bytealg.MaxLen"], apart := false, laid := [("unicode/utf8.acceptRanges", laid_unicode_utf8_acceptRanges), ("unicode.CaseRanges", laid_unicode_CaseRanges), ("unicode/utf8.first", laid_unicode_utf8_first)] }
def CplxHalvesSaid : Prop := cplxHalvesRow.holds Tryz.pinned (OpenSpec.ofChange cplxHalvesSpec)

/-- ITS FALSE NEIGHBOUR: 'it returns false'. Refute it at one input. -/
def cplxHalvesWrong : ChangeSpec := { name := "cplxHalves", fn := fun _ => fun
  | [d1, d2] => { results := [.lit (.bool false)], args := [d1, d2] }
  | _ => none }
def CplxHalvesWrongFalsely : Prop := cplxHalvesRow.holds Tryz.pinned (OpenSpec.ofChange cplxHalvesWrong)

/-- 'platenlaw07.CplxRefuses': WHATEVER THE INPUT: true; the input reads as it did. -/
def cplxRefusesSpec : ChangeSpec := { name := "cplxRefuses", fn := fun _ => fun
  | [d1, d2, d3] => { results := [.lit (.bool true)], args := [d1, d2, d3] }
  | _ => none }
def cplxRefusesRow : OpenClaim := { program := "ytecpgdfnamkfdaagreatdoor", sum := "41d253564843519696527d4bbf3397bef6c83ff0476abb4477fddf1d144ef6aa", func := "platen/platenlaw07.CplxRefuses", spec := "cplxRefuses", inPlace := ["internal/bytealg.IndexByteString", "internal/bytealg.IndexString", "internal/abi.NoEscape", "internal/bytealg.MakeNoZero", "internal/bytealg.abigen_runtime_cmpstring"], unfollowed := true, recurses := true, named := ["unicode/utf8.first", "unicode/utf8.acceptRanges", "unicode.CaseRanges", "internal/bytealg.MaxLen"], apart := false, laid := [("unicode/utf8.acceptRanges", laid_unicode_utf8_acceptRanges), ("unicode.CaseRanges", laid_unicode_CaseRanges), ("unicode/utf8.first", laid_unicode_utf8_first)] }
def CplxRefusesSaid : Prop := cplxRefusesRow.holds Tryz.pinned (OpenSpec.ofChange cplxRefusesSpec)

/-- ITS FALSE NEIGHBOUR: 'it returns false'. Refute it at one input. -/
def cplxRefusesWrong : ChangeSpec := { name := "cplxRefuses", fn := fun _ => fun
  | [d1, d2, d3] => { results := [.lit (.bool false)], args := [d1, d2, d3] }
  | _ => none }
def CplxRefusesWrongFalsely : Prop := cplxRefusesRow.holds Tryz.pinned (OpenSpec.ofChange cplxRefusesWrong)

/-- 'platenlaw07.CplxPlus': WHATEVER THE INPUT: true; the input reads as it did. -/
def cplxPlusSpec : ChangeSpec := { name := "cplxPlus", fn := fun _ => fun
  | [d1, d2, d3] => { results := [.lit (.bool true)], args := [d1, d2, d3] }
  | _ => none }
def cplxPlusRow : OpenClaim := { program := "ytecpgdfnamkfdaagreatdoor", sum := "41d253564843519696527d4bbf3397bef6c83ff0476abb4477fddf1d144ef6aa", func := "platen/platenlaw07.CplxPlus", spec := "cplxPlus", inPlace := ["internal/bytealg.IndexByteString", "internal/bytealg.IndexString", "internal/abi.NoEscape", "internal/bytealg.MakeNoZero", "internal/bytealg.abigen_runtime_cmpstring"], unfollowed := true, recurses := true, named := ["unicode/utf8.first", "unicode/utf8.acceptRanges", "unicode.CaseRanges", "internal/bytealg.MaxLen"], apart := false, laid := [("unicode/utf8.acceptRanges", laid_unicode_utf8_acceptRanges), ("unicode.CaseRanges", laid_unicode_CaseRanges), ("unicode/utf8.first", laid_unicode_utf8_first)] }
def CplxPlusSaid : Prop := cplxPlusRow.holds Tryz.pinned (OpenSpec.ofChange cplxPlusSpec)

/-- ITS FALSE NEIGHBOUR: 'it returns false'. Refute it at one input. -/
def cplxPlusWrong : ChangeSpec := { name := "cplxPlus", fn := fun _ => fun
  | [d1, d2, d3] => { results := [.lit (.bool false)], args := [d1, d2, d3] }
  | _ => none }
def CplxPlusWrongFalsely : Prop := cplxPlusRow.holds Tryz.pinned (OpenSpec.ofChange cplxPlusWrong)

/- THE SECOND FORM. 'bulk': how many values and letters a reading holds, each counted each time it is reached (what is shared counts as often as it is met; a slice's spare places count too). A statement '..UptoSaid' is the law's where the arguments, and the package variables that the reading takes, are together of bulk at most 1048576: NARROWER than '..Said'. Prove '..Said' where nothing that the law and all that it calls make is longer than what came in: it says more and counts as full. Else prove '..UptoSaid'. A law counts once. -/
mutual
def uptoBulk {H : Type} : DataW H → Nat
  | .lit (.string bytes) => bytes.length + 1
  | .lit _ => 1
  | .nil => 1
  | .ptr d => uptoBulk d + 1
  | .slice elems spare => uptoBulkAll elems + uptoBulkAll spare + 1
  | .agg parts => uptoBulkAll parts + 1
  | .iface _ d => uptoBulk d + 1
  | .map entries => uptoBulkEntries entries + 1
  | .held _ => 1
def uptoBulkAll {H : Type} : List (DataW H) → Nat
  | [] => 0
  | d :: r => uptoBulk d + uptoBulkAll r
def uptoBulkEntries {H : Type} : List (Lit × DataW H) → Nat
  | [] => 0
  | x :: r => uptoBulkEntry x + uptoBulkEntries r
def uptoBulkEntry {H : Type} : Lit × DataW H → Nat
  | (.string bytes, d) => bytes.length + uptoBulk d + 1
  | (_, d) => uptoBulk d + 1
 end
def uptoSmall : (H : Type) → List (DataW H) → Bool := fun _ ds => decide (uptoBulkAll ds ≤ 1048576)
def OpenSpec.upto (s : _root_.Go.ChangeSpec) : _root_.Go.OpenSpec := { _root_.Go.OpenSpec.ofChange s with cond := some uptoSmall }

/-- 'platenlaw06.FloatsFixed', WHERE WHAT IT READS IS OF BULK AT MOST 1048576: true; the input reads as it did. -/
def floatsFixedUptoRow : OpenClaim := { program := "ytecpgdfnamkfdaagreatdoor", sum := "41d253564843519696527d4bbf3397bef6c83ff0476abb4477fddf1d144ef6aa", func := "platen/platenlaw06.FloatsFixed", spec := "floatsFixed", inPlace := ["internal/bytealg.IndexByteString", "internal/bytealg.IndexString", "internal/abi.NoEscape", "internal/bytealg.MakeNoZero", "internal/bytealg.abigen_runtime_cmpstring"], unfollowed := true, recurses := true, named := ["unicode/utf8.first", "unicode/utf8.acceptRanges", "unicode.CaseRanges", "internal/bytealg.MaxLen"], apart := false, laid := [("unicode/utf8.acceptRanges", laid_unicode_utf8_acceptRanges), ("unicode.CaseRanges", laid_unicode_CaseRanges), ("unicode/utf8.first", laid_unicode_utf8_first)], narrowed := true }
def FloatsFixedUptoSaid : Prop := floatsFixedUptoRow.holds Tryz.pinned (OpenSpec.upto floatsFixedSpec)

/-- 'platenlaw06.FloatsGeneral', WHERE WHAT IT READS IS OF BULK AT MOST 1048576: true; the input reads as it did. -/
def floatsGeneralUptoRow : OpenClaim := { program := "ytecpgdfnamkfdaagreatdoor", sum := "41d253564843519696527d4bbf3397bef6c83ff0476abb4477fddf1d144ef6aa", func := "platen/platenlaw06.FloatsGeneral", spec := "floatsGeneral", inPlace := ["internal/bytealg.IndexByteString", "internal/bytealg.IndexString", "internal/abi.NoEscape", "internal/bytealg.MakeNoZero", "internal/bytealg.abigen_runtime_cmpstring"], unfollowed := true, recurses := true, named := ["unicode/utf8.first", "unicode/utf8.acceptRanges", "unicode.CaseRanges", "internal/bytealg.MaxLen"], apart := false, laid := [("unicode/utf8.acceptRanges", laid_unicode_utf8_acceptRanges), ("unicode.CaseRanges", laid_unicode_CaseRanges), ("unicode/utf8.first", laid_unicode_utf8_first)], narrowed := true }
def FloatsGeneralUptoSaid : Prop := floatsGeneralUptoRow.holds Tryz.pinned (OpenSpec.upto floatsGeneralSpec)

/-- 'platenlaw06.FloatsBits', WHERE WHAT IT READS IS OF BULK AT MOST 1048576: true; the input reads as it did. -/
def floatsBitsUptoRow : OpenClaim := { program := "ytecpgdfnamkfdaagreatdoor", sum := "41d253564843519696527d4bbf3397bef6c83ff0476abb4477fddf1d144ef6aa", func := "platen/platenlaw06.FloatsBits", spec := "floatsBits", inPlace := ["internal/bytealg.IndexByteString", "internal/bytealg.IndexString", "internal/abi.NoEscape", "internal/bytealg.MakeNoZero", "internal/bytealg.abigen_runtime_cmpstring"], unfollowed := true, recurses := true, named := ["unicode/utf8.first", "unicode/utf8.acceptRanges", "unicode.CaseRanges", "internal/bytealg.MaxLen"], apart := false, laid := [("unicode/utf8.acceptRanges", laid_unicode_utf8_acceptRanges), ("unicode.CaseRanges", laid_unicode_CaseRanges), ("unicode/utf8.first", laid_unicode_utf8_first)], narrowed := true }
def FloatsBitsUptoSaid : Prop := floatsBitsUptoRow.holds Tryz.pinned (OpenSpec.upto floatsBitsSpec)

/-- 'platenlaw06.FloatsAny', WHERE WHAT IT READS IS OF BULK AT MOST 1048576: true; the input reads as it did. -/
def floatsAnyUptoRow : OpenClaim := { program := "ytecpgdfnamkfdaagreatdoor", sum := "41d253564843519696527d4bbf3397bef6c83ff0476abb4477fddf1d144ef6aa", func := "platen/platenlaw06.FloatsAny", spec := "floatsAny", inPlace := ["internal/bytealg.IndexByteString", "internal/bytealg.IndexString", "internal/abi.NoEscape", "internal/bytealg.MakeNoZero", "internal/bytealg.abigen_runtime_cmpstring"], unfollowed := true, recurses := true, named := ["unicode/utf8.first", "unicode/utf8.acceptRanges", "unicode.CaseRanges", "internal/bytealg.MaxLen"], apart := false, laid := [("unicode/utf8.acceptRanges", laid_unicode_utf8_acceptRanges), ("unicode.CaseRanges", laid_unicode_CaseRanges), ("unicode/utf8.first", laid_unicode_utf8_first)], narrowed := true }
def FloatsAnyUptoSaid : Prop := floatsAnyUptoRow.holds Tryz.pinned (OpenSpec.upto floatsAnySpec)

/-- 'platenlaw06.FloatsOdd', WHERE WHAT IT READS IS OF BULK AT MOST 1048576: true; the input reads as it did. -/
def floatsOddUptoRow : OpenClaim := { program := "ytecpgdfnamkfdaagreatdoor", sum := "41d253564843519696527d4bbf3397bef6c83ff0476abb4477fddf1d144ef6aa", func := "platen/platenlaw06.FloatsOdd", spec := "floatsOdd", inPlace := ["internal/bytealg.IndexByteString", "internal/bytealg.IndexString", "internal/abi.NoEscape", "internal/bytealg.MakeNoZero", "internal/bytealg.abigen_runtime_cmpstring"], unfollowed := true, recurses := true, named := ["unicode/utf8.first", "unicode/utf8.acceptRanges", "unicode.CaseRanges", "internal/bytealg.MaxLen"], apart := false, laid := [("unicode/utf8.acceptRanges", laid_unicode_utf8_acceptRanges), ("unicode.CaseRanges", laid_unicode_CaseRanges), ("unicode/utf8.first", laid_unicode_utf8_first)], narrowed := true }
def FloatsOddUptoSaid : Prop := floatsOddUptoRow.holds Tryz.pinned (OpenSpec.upto floatsOddSpec)

/-- 'platenlaw06.FloatsSigns', WHERE WHAT IT READS IS OF BULK AT MOST 1048576: true; the input reads as it did. -/
def floatsSignsUptoRow : OpenClaim := { program := "ytecpgdfnamkfdaagreatdoor", sum := "41d253564843519696527d4bbf3397bef6c83ff0476abb4477fddf1d144ef6aa", func := "platen/platenlaw06.FloatsSigns", spec := "floatsSigns", inPlace := ["internal/bytealg.IndexByteString", "internal/bytealg.IndexString", "internal/abi.NoEscape", "internal/bytealg.MakeNoZero", "internal/bytealg.abigen_runtime_cmpstring"], unfollowed := true, recurses := true, named := ["unicode/utf8.first", "unicode/utf8.acceptRanges", "unicode.CaseRanges", "internal/bytealg.MaxLen"], apart := false, laid := [("unicode/utf8.acceptRanges", laid_unicode_utf8_acceptRanges), ("unicode.CaseRanges", laid_unicode_CaseRanges), ("unicode/utf8.first", laid_unicode_utf8_first)], narrowed := true }
def FloatsSignsUptoSaid : Prop := floatsSignsUptoRow.holds Tryz.pinned (OpenSpec.upto floatsSignsSpec)

/-- 'platenlaw06.FloatsWide', WHERE WHAT IT READS IS OF BULK AT MOST 1048576: true; the input reads as it did. -/
def floatsWideUptoRow : OpenClaim := { program := "ytecpgdfnamkfdaagreatdoor", sum := "41d253564843519696527d4bbf3397bef6c83ff0476abb4477fddf1d144ef6aa", func := "platen/platenlaw06.FloatsWide", spec := "floatsWide", inPlace := ["internal/bytealg.IndexByteString", "internal/bytealg.IndexString", "internal/abi.NoEscape", "internal/bytealg.MakeNoZero", "internal/bytealg.abigen_runtime_cmpstring"], unfollowed := true, recurses := true, named := ["unicode/utf8.first", "unicode/utf8.acceptRanges", "unicode.CaseRanges", "internal/bytealg.MaxLen"], apart := false, laid := [("unicode/utf8.acceptRanges", laid_unicode_utf8_acceptRanges), ("unicode.CaseRanges", laid_unicode_CaseRanges), ("unicode/utf8.first", laid_unicode_utf8_first)], narrowed := true }
def FloatsWideUptoSaid : Prop := floatsWideUptoRow.holds Tryz.pinned (OpenSpec.upto floatsWideSpec)

/-- 'platenlaw06.FloatsExact', WHERE WHAT IT READS IS OF BULK AT MOST 1048576: true; the input reads as it did. -/
def floatsExactUptoRow : OpenClaim := { program := "ytecpgdfnamkfdaagreatdoor", sum := "41d253564843519696527d4bbf3397bef6c83ff0476abb4477fddf1d144ef6aa", func := "platen/platenlaw06.FloatsExact", spec := "floatsExact", inPlace := ["internal/bytealg.IndexByteString", "internal/bytealg.IndexString", "internal/abi.NoEscape", "internal/bytealg.MakeNoZero", "internal/bytealg.abigen_runtime_cmpstring"], unfollowed := true, recurses := true, named := ["unicode/utf8.first", "unicode/utf8.acceptRanges", "unicode.CaseRanges", "internal/bytealg.MaxLen"], apart := false, laid := [("unicode/utf8.acceptRanges", laid_unicode_utf8_acceptRanges), ("unicode.CaseRanges", laid_unicode_CaseRanges), ("unicode/utf8.first", laid_unicode_utf8_first)], narrowed := true }
def FloatsExactUptoSaid : Prop := floatsExactUptoRow.holds Tryz.pinned (OpenSpec.upto floatsExactSpec)

/-- 'platenlaw06.FloatsHexBack', WHERE WHAT IT READS IS OF BULK AT MOST 1048576: true; the input reads as it did. -/
def floatsHexBackUptoRow : OpenClaim := { program := "ytecpgdfnamkfdaagreatdoor", sum := "41d253564843519696527d4bbf3397bef6c83ff0476abb4477fddf1d144ef6aa", func := "platen/platenlaw06.FloatsHexBack", spec := "floatsHexBack", inPlace := ["internal/bytealg.IndexByteString", "internal/bytealg.IndexString", "internal/abi.NoEscape", "internal/bytealg.MakeNoZero", "internal/bytealg.abigen_runtime_cmpstring"], unfollowed := true, recurses := true, named := ["unicode/utf8.first", "unicode/utf8.acceptRanges", "unicode.CaseRanges", "internal/bytealg.MaxLen"], apart := false, laid := [("unicode/utf8.acceptRanges", laid_unicode_utf8_acceptRanges), ("unicode.CaseRanges", laid_unicode_CaseRanges), ("unicode/utf8.first", laid_unicode_utf8_first)], narrowed := true }
def FloatsHexBackUptoSaid : Prop := floatsHexBackUptoRow.holds Tryz.pinned (OpenSpec.upto floatsHexBackSpec)

/-- 'platenlaw06.FloatsRefuses', WHERE WHAT IT READS IS OF BULK AT MOST 1048576: true; the input reads as it did. -/
def floatsRefusesUptoRow : OpenClaim := { program := "ytecpgdfnamkfdaagreatdoor", sum := "41d253564843519696527d4bbf3397bef6c83ff0476abb4477fddf1d144ef6aa", func := "platen/platenlaw06.FloatsRefuses", spec := "floatsRefuses", inPlace := ["internal/bytealg.IndexByteString", "internal/bytealg.IndexString", "internal/abi.NoEscape", "internal/bytealg.MakeNoZero", "internal/bytealg.abigen_runtime_cmpstring"], unfollowed := true, recurses := true, named := ["unicode/utf8.first", "unicode/utf8.acceptRanges", "unicode.CaseRanges", "internal/bytealg.MaxLen"], apart := false, laid := [("unicode/utf8.acceptRanges", laid_unicode_utf8_acceptRanges), ("unicode.CaseRanges", laid_unicode_CaseRanges), ("unicode/utf8.first", laid_unicode_utf8_first)], narrowed := true }
def FloatsRefusesUptoSaid : Prop := floatsRefusesUptoRow.holds Tryz.pinned (OpenSpec.upto floatsRefusesSpec)

/-- 'platenlaw06.FloatsBack', WHERE WHAT IT READS IS OF BULK AT MOST 1048576: true; the input reads as it did. -/
def floatsBackUptoRow : OpenClaim := { program := "ytecpgdfnamkfdaagreatdoor", sum := "41d253564843519696527d4bbf3397bef6c83ff0476abb4477fddf1d144ef6aa", func := "platen/platenlaw06.FloatsBack", spec := "floatsBack", inPlace := ["internal/bytealg.IndexByteString", "internal/bytealg.IndexString", "internal/abi.NoEscape", "internal/bytealg.MakeNoZero", "internal/bytealg.abigen_runtime_cmpstring"], unfollowed := true, recurses := true, named := ["unicode/utf8.first", "unicode/utf8.acceptRanges", "unicode.CaseRanges", "internal/bytealg.MaxLen"], apart := false, laid := [("unicode/utf8.acceptRanges", laid_unicode_utf8_acceptRanges), ("unicode.CaseRanges", laid_unicode_CaseRanges), ("unicode/utf8.first", laid_unicode_utf8_first)], narrowed := true }
def FloatsBackUptoSaid : Prop := floatsBackUptoRow.holds Tryz.pinned (OpenSpec.upto floatsBackSpec)

/-- 'platenlaw07.CplxTexts', WHERE WHAT IT READS IS OF BULK AT MOST 1048576: true; the input reads as it did. -/
def cplxTextsUptoRow : OpenClaim := { program := "ytecpgdfnamkfdaagreatdoor", sum := "41d253564843519696527d4bbf3397bef6c83ff0476abb4477fddf1d144ef6aa", func := "platen/platenlaw07.CplxTexts", spec := "cplxTexts", inPlace := ["internal/bytealg.IndexByteString", "internal/bytealg.IndexString", "internal/abi.NoEscape", "internal/bytealg.MakeNoZero", "internal/bytealg.abigen_runtime_cmpstring"], unfollowed := true, recurses := true, named := ["unicode/utf8.first", "unicode/utf8.acceptRanges", "unicode.CaseRanges", "internal/bytealg.MaxLen"], apart := false, laid := [("unicode/utf8.acceptRanges", laid_unicode_utf8_acceptRanges), ("unicode.CaseRanges", laid_unicode_CaseRanges), ("unicode/utf8.first", laid_unicode_utf8_first)], narrowed := true }
def CplxTextsUptoSaid : Prop := cplxTextsUptoRow.holds Tryz.pinned (OpenSpec.upto cplxTextsSpec)

/-- 'platenlaw07.CplxSplits', WHERE WHAT IT READS IS OF BULK AT MOST 1048576: true; the input reads as it did. -/
def cplxSplitsUptoRow : OpenClaim := { program := "ytecpgdfnamkfdaagreatdoor", sum := "41d253564843519696527d4bbf3397bef6c83ff0476abb4477fddf1d144ef6aa", func := "platen/platenlaw07.CplxSplits", spec := "cplxSplits", inPlace := ["internal/bytealg.IndexByteString", "internal/bytealg.IndexString", "internal/abi.NoEscape", "internal/bytealg.MakeNoZero", "internal/bytealg.abigen_runtime_cmpstring"], unfollowed := true, recurses := true, named := ["unicode/utf8.first", "unicode/utf8.acceptRanges", "unicode.CaseRanges", "internal/bytealg.MaxLen"], apart := false, laid := [("unicode/utf8.acceptRanges", laid_unicode_utf8_acceptRanges), ("unicode.CaseRanges", laid_unicode_CaseRanges), ("unicode/utf8.first", laid_unicode_utf8_first)], narrowed := true }
def CplxSplitsUptoSaid : Prop := cplxSplitsUptoRow.holds Tryz.pinned (OpenSpec.upto cplxSplitsSpec)

/-- 'platenlaw07.CplxBack', WHERE WHAT IT READS IS OF BULK AT MOST 1048576: true; the input reads as it did. -/
def cplxBackUptoRow : OpenClaim := { program := "ytecpgdfnamkfdaagreatdoor", sum := "41d253564843519696527d4bbf3397bef6c83ff0476abb4477fddf1d144ef6aa", func := "platen/platenlaw07.CplxBack", spec := "cplxBack", inPlace := ["internal/bytealg.IndexByteString", "internal/bytealg.IndexString", "internal/abi.NoEscape", "internal/bytealg.MakeNoZero", "internal/bytealg.abigen_runtime_cmpstring"], unfollowed := true, recurses := true, named := ["unicode/utf8.first", "unicode/utf8.acceptRanges", "unicode.CaseRanges", "internal/bytealg.MaxLen"], apart := false, laid := [("unicode/utf8.acceptRanges", laid_unicode_utf8_acceptRanges), ("unicode.CaseRanges", laid_unicode_CaseRanges), ("unicode/utf8.first", laid_unicode_utf8_first)], narrowed := true }
def CplxBackUptoSaid : Prop := cplxBackUptoRow.holds Tryz.pinned (OpenSpec.upto cplxBackSpec)

/-- 'platenlaw07.CplxHalves', WHERE WHAT IT READS IS OF BULK AT MOST 1048576: true; the input reads as it did. -/
def cplxHalvesUptoRow : OpenClaim := { program := "ytecpgdfnamkfdaagreatdoor", sum := "41d253564843519696527d4bbf3397bef6c83ff0476abb4477fddf1d144ef6aa", func := "platen/platenlaw07.CplxHalves", spec := "cplxHalves", inPlace := ["internal/bytealg.IndexByteString", "internal/bytealg.IndexString", "internal/abi.NoEscape", "internal/bytealg.MakeNoZero", "internal/bytealg.abigen_runtime_cmpstring"], unfollowed := true, recurses := true, named := ["unicode/utf8.first", "unicode/utf8.acceptRanges", "unicode.CaseRanges", "internal/bytealg.MaxLen"], apart := false, laid := [("unicode/utf8.acceptRanges", laid_unicode_utf8_acceptRanges), ("unicode.CaseRanges", laid_unicode_CaseRanges), ("unicode/utf8.first", laid_unicode_utf8_first)], narrowed := true }
def CplxHalvesUptoSaid : Prop := cplxHalvesUptoRow.holds Tryz.pinned (OpenSpec.upto cplxHalvesSpec)

/-- 'platenlaw07.CplxRefuses', WHERE WHAT IT READS IS OF BULK AT MOST 1048576: true; the input reads as it did. -/
def cplxRefusesUptoRow : OpenClaim := { program := "ytecpgdfnamkfdaagreatdoor", sum := "41d253564843519696527d4bbf3397bef6c83ff0476abb4477fddf1d144ef6aa", func := "platen/platenlaw07.CplxRefuses", spec := "cplxRefuses", inPlace := ["internal/bytealg.IndexByteString", "internal/bytealg.IndexString", "internal/abi.NoEscape", "internal/bytealg.MakeNoZero", "internal/bytealg.abigen_runtime_cmpstring"], unfollowed := true, recurses := true, named := ["unicode/utf8.first", "unicode/utf8.acceptRanges", "unicode.CaseRanges", "internal/bytealg.MaxLen"], apart := false, laid := [("unicode/utf8.acceptRanges", laid_unicode_utf8_acceptRanges), ("unicode.CaseRanges", laid_unicode_CaseRanges), ("unicode/utf8.first", laid_unicode_utf8_first)], narrowed := true }
def CplxRefusesUptoSaid : Prop := cplxRefusesUptoRow.holds Tryz.pinned (OpenSpec.upto cplxRefusesSpec)

/-- 'platenlaw07.CplxPlus', WHERE WHAT IT READS IS OF BULK AT MOST 1048576: true; the input reads as it did. -/
def cplxPlusUptoRow : OpenClaim := { program := "ytecpgdfnamkfdaagreatdoor", sum := "41d253564843519696527d4bbf3397bef6c83ff0476abb4477fddf1d144ef6aa", func := "platen/platenlaw07.CplxPlus", spec := "cplxPlus", inPlace := ["internal/bytealg.IndexByteString", "internal/bytealg.IndexString", "internal/abi.NoEscape", "internal/bytealg.MakeNoZero", "internal/bytealg.abigen_runtime_cmpstring"], unfollowed := true, recurses := true, named := ["unicode/utf8.first", "unicode/utf8.acceptRanges", "unicode.CaseRanges", "internal/bytealg.MaxLen"], apart := false, laid := [("unicode/utf8.acceptRanges", laid_unicode_utf8_acceptRanges), ("unicode.CaseRanges", laid_unicode_CaseRanges), ("unicode/utf8.first", laid_unicode_utf8_first)], narrowed := true }
def CplxPlusUptoSaid : Prop := cplxPlusUptoRow.holds Tryz.pinned (OpenSpec.upto cplxPlusSpec)

end Rows
end Go.Proofs.YtecpgdfnamkfdaaGreatDoor
