/-
  NARROWER THAN 'FOR EVERY INPUT', by the rows' own cells (each row's printed sentence says how): PatClasses: loops, laid · BackMatches: loops, laid · BackSearches: loops, laid · BackPossessive: loops, laid · BackCodes: loops, laid · BackLeftmost: loops, laid · BackWays: loops, laid · BackAlls: loops, laid · BackWholes: loops, laid · BackTexts: laid · BackTurned: loops, laid · BackEnds: loops, laid.
  DERIVED. THE GIVEN ROWS OF THIS SEAT. 12 by the template 'for every input the law returns true; each argument reads behind the call as it read before'; 0 by the template 'total and deterministic' (their statements: YtpopmiodjibljaaGreatDoorTotals.lean).
  GIVEN WITH THE SEED: the statements are not yours to turn. If you find one false, say at which input.
  Laid BY PROGRAM, IN A SANDBOX (cutbox-rows.mjs): the forced cells as the released guide's own fill.sh prints them over the translation acdb125a9ffab47c… (all of the seat's roots in one cut). By AI agents, Wed Nov 11 2026. No macro, syntax, notation, axiom, sorry.
-/
import Derived.Test.YtpopmiodjibljaaGreatDoorChecked
import GoSem.PinnedTables
import GoSem.Claim
import GoSem.ClaimJoined
import GoSem.ClaimMapViews
import Derived.JoinedTies
import Derived.KernelRfl
namespace Go.Proofs.YtpopmiodjibljaaGreatDoor
/- THE CELL 'sum', in the pinned program and in every row, IS THE sha256 OF THE DUMP (.gsa) THAT YtpopmiodjibljaaGreatDoorProg.lean LOADS. Nothing in Lean hashes anything: it is a label: what it is worth is what the hold of that sum in a sandbox is worth. -/
noncomputable def Tryz.pinned : Pinned := { name := "ytpopmiodjibljaagreatdoor", sum := "acdb125a9ffab47c92a619c0d5ed6397f271a876b7cfb85564fc55b66ba12c0d", checked := Tryz.checked }
namespace Rows
def none {H : Type} : Left H := { results := [], args := [] }

/- WHAT THE LISTED PACKAGE-LEVEL VARIABLES READ AS WHEN THE CALL BEGINS. Each datum BY PROGRAM (the guide's laid-datum.mjs) off the statement by which the dump's own 'gosem.cut.vars' lays the variable. In a bare row this is a premise. The card (YtpopmiodjibljaaGreatDoorCards.lean) ties it to the program's text. -/
def laid_math_bits_deBruijn32tab {H : Type} : DataW H := .agg [.lit (.int .u8 0), .lit (.int .u8 1), .lit (.int .u8 28), .lit (.int .u8 2), .lit (.int .u8 29), .lit (.int .u8 14), .lit (.int .u8 24), .lit (.int .u8 3), .lit (.int .u8 30), .lit (.int .u8 22), .lit (.int .u8 20), .lit (.int .u8 15), .lit (.int .u8 25), .lit (.int .u8 17), .lit (.int .u8 4), .lit (.int .u8 8), .lit (.int .u8 31), .lit (.int .u8 27), .lit (.int .u8 13), .lit (.int .u8 23), .lit (.int .u8 21), .lit (.int .u8 19), .lit (.int .u8 16), .lit (.int .u8 7), .lit (.int .u8 26), .lit (.int .u8 12), .lit (.int .u8 18), .lit (.int .u8 6), .lit (.int .u8 11), .lit (.int .u8 5), .lit (.int .u8 10), .lit (.int .u8 9)]
def laid_math_bits_deBruijn64tab {H : Type} : DataW H := .agg [.lit (.int .u8 0), .lit (.int .u8 1), .lit (.int .u8 56), .lit (.int .u8 2), .lit (.int .u8 57), .lit (.int .u8 49), .lit (.int .u8 28), .lit (.int .u8 3), .lit (.int .u8 61), .lit (.int .u8 58), .lit (.int .u8 42), .lit (.int .u8 50), .lit (.int .u8 38), .lit (.int .u8 29), .lit (.int .u8 17), .lit (.int .u8 4), .lit (.int .u8 62), .lit (.int .u8 47), .lit (.int .u8 59), .lit (.int .u8 36), .lit (.int .u8 45), .lit (.int .u8 43), .lit (.int .u8 51), .lit (.int .u8 22), .lit (.int .u8 53), .lit (.int .u8 39), .lit (.int .u8 33), .lit (.int .u8 30), .lit (.int .u8 24), .lit (.int .u8 18), .lit (.int .u8 12), .lit (.int .u8 5), .lit (.int .u8 63), .lit (.int .u8 55), .lit (.int .u8 48), .lit (.int .u8 27), .lit (.int .u8 60), .lit (.int .u8 41), .lit (.int .u8 37), .lit (.int .u8 16), .lit (.int .u8 46), .lit (.int .u8 35), .lit (.int .u8 44), .lit (.int .u8 21), .lit (.int .u8 52), .lit (.int .u8 32), .lit (.int .u8 23), .lit (.int .u8 11), .lit (.int .u8 54), .lit (.int .u8 26), .lit (.int .u8 40), .lit (.int .u8 15), .lit (.int .u8 34), .lit (.int .u8 20), .lit (.int .u8 31), .lit (.int .u8 10), .lit (.int .u8 25), .lit (.int .u8 14), .lit (.int .u8 19), .lit (.int .u8 9), .lit (.int .u8 13), .lit (.int .u8 8), .lit (.int .u8 7), .lit (.int .u8 6)]
def laid_internal_strconv_uint64pow10 {H : Type} : DataW H := .agg [.lit (.int .u64 1), .lit (.int .u64 10), .lit (.int .u64 100), .lit (.int .u64 1000), .lit (.int .u64 10000), .lit (.int .u64 100000), .lit (.int .u64 1000000), .lit (.int .u64 10000000), .lit (.int .u64 100000000), .lit (.int .u64 1000000000), .lit (.int .u64 10000000000), .lit (.int .u64 100000000000), .lit (.int .u64 1000000000000), .lit (.int .u64 10000000000000), .lit (.int .u64 100000000000000), .lit (.int .u64 1000000000000000), .lit (.int .u64 10000000000000000), .lit (.int .u64 100000000000000000), .lit (.int .u64 1000000000000000000), .lit (.int .u64 10000000000000000000)]
def laid_unicode_utf8_acceptRanges {H : Type} : DataW H := .agg [.agg [.lit (.int .u8 128), .lit (.int .u8 191)], .agg [.lit (.int .u8 160), .lit (.int .u8 191)], .agg [.lit (.int .u8 128), .lit (.int .u8 159)], .agg [.lit (.int .u8 144), .lit (.int .u8 191)], .agg [.lit (.int .u8 128), .lit (.int .u8 143)], .agg [.lit (.int .u8 0), .lit (.int .u8 0)], .agg [.lit (.int .u8 0), .lit (.int .u8 0)], .agg [.lit (.int .u8 0), .lit (.int .u8 0)], .agg [.lit (.int .u8 0), .lit (.int .u8 0)], .agg [.lit (.int .u8 0), .lit (.int .u8 0)], .agg [.lit (.int .u8 0), .lit (.int .u8 0)], .agg [.lit (.int .u8 0), .lit (.int .u8 0)], .agg [.lit (.int .u8 0), .lit (.int .u8 0)], .agg [.lit (.int .u8 0), .lit (.int .u8 0)], .agg [.lit (.int .u8 0), .lit (.int .u8 0)], .agg [.lit (.int .u8 0), .lit (.int .u8 0)]]
/-- One of Go's own tables, pinned by name: the form's constant. -/
def laid_unicode_CaseRanges : DataW Unit := Go.Pinned.caseRanges
/-- One of Go's own tables, pinned by name: the form's constant. -/
def laid_unicode_utf8_first : DataW Unit := Go.Pinned.utf8First

/-- 'motleylaw12.PatClasses': WHATEVER THE INPUT: true; the input reads as it did. -/
def patClassesSpec : ChangeSpec := { name := "patClasses", fn := fun _ => fun
  | [d1, d2, d3] => { results := [.lit (.bool true)], args := [d1, d2, d3] }
  | _ => none }
def patClassesRow : OpenClaim := { program := "ytpopmiodjibljaagreatdoor", sum := "acdb125a9ffab47c92a619c0d5ed6397f271a876b7cfb85564fc55b66ba12c0d", func := "motley/motleylaw12.PatClasses", spec := "patClasses", inPlace := ["internal/bytealg.IndexByteString", "internal/bytealg.IndexString", "internal/abi.NoEscape", "internal/bytealg.MakeNoZero", "internal/reflectlite.ValueOf", "internal/reflectlite.Swapper", "(internal/reflectlite.Value).Len"], unfollowed := true, recurses := true, named := ["internal/bytealg.MaxLen", "unicode/utf8.first", "unicode/utf8.acceptRanges", "unicode.CaseRanges", "internal/strconv.uint64pow10", "math/bits.deBruijn32tab", "math/bits.deBruijn64tab"], loops := true, apart := false, laid := [("math/bits.deBruijn32tab", laid_math_bits_deBruijn32tab), ("math/bits.deBruijn64tab", laid_math_bits_deBruijn64tab), ("internal/strconv.uint64pow10", laid_internal_strconv_uint64pow10), ("unicode/utf8.acceptRanges", laid_unicode_utf8_acceptRanges), ("unicode.CaseRanges", laid_unicode_CaseRanges), ("unicode/utf8.first", laid_unicode_utf8_first)] }
def PatClassesSaid : Prop := patClassesRow.holds Tryz.pinned (OpenSpec.ofChange patClassesSpec)

/-- ITS FALSE NEIGHBOUR: 'it returns false'. Refute it at one input. -/
def patClassesWrong : ChangeSpec := { name := "patClasses", fn := fun _ => fun
  | [d1, d2, d3] => { results := [.lit (.bool false)], args := [d1, d2, d3] }
  | _ => none }
def PatClassesWrongFalsely : Prop := patClassesRow.holds Tryz.pinned (OpenSpec.ofChange patClassesWrong)

/-- 'motleylaw13.BackMatches': WHATEVER THE INPUT: true; the input reads as it did. -/
def backMatchesSpec : ChangeSpec := { name := "backMatches", fn := fun _ => fun
  | [d1, d2] => { results := [.lit (.bool true)], args := [d1, d2] }
  | _ => none }
def backMatchesRow : OpenClaim := { program := "ytpopmiodjibljaagreatdoor", sum := "acdb125a9ffab47c92a619c0d5ed6397f271a876b7cfb85564fc55b66ba12c0d", func := "motley/motleylaw13.BackMatches", spec := "backMatches", inPlace := ["internal/bytealg.IndexByteString", "internal/bytealg.IndexString", "internal/abi.NoEscape", "internal/bytealg.MakeNoZero", "internal/reflectlite.ValueOf", "internal/reflectlite.Swapper", "(internal/reflectlite.Value).Len"], unfollowed := true, recurses := true, named := ["internal/bytealg.MaxLen", "unicode/utf8.first", "unicode/utf8.acceptRanges", "unicode.CaseRanges"], loops := true, apart := false, laid := [("unicode/utf8.acceptRanges", laid_unicode_utf8_acceptRanges), ("unicode.CaseRanges", laid_unicode_CaseRanges), ("unicode/utf8.first", laid_unicode_utf8_first)] }
def BackMatchesSaid : Prop := backMatchesRow.holds Tryz.pinned (OpenSpec.ofChange backMatchesSpec)

/-- ITS FALSE NEIGHBOUR: 'it returns false'. Refute it at one input. -/
def backMatchesWrong : ChangeSpec := { name := "backMatches", fn := fun _ => fun
  | [d1, d2] => { results := [.lit (.bool false)], args := [d1, d2] }
  | _ => none }
def BackMatchesWrongFalsely : Prop := backMatchesRow.holds Tryz.pinned (OpenSpec.ofChange backMatchesWrong)

/-- 'motleylaw13.BackSearches': WHATEVER THE INPUT: true; the input reads as it did. -/
def backSearchesSpec : ChangeSpec := { name := "backSearches", fn := fun _ => fun
  | [d1, d2] => { results := [.lit (.bool true)], args := [d1, d2] }
  | _ => none }
def backSearchesRow : OpenClaim := { program := "ytpopmiodjibljaagreatdoor", sum := "acdb125a9ffab47c92a619c0d5ed6397f271a876b7cfb85564fc55b66ba12c0d", func := "motley/motleylaw13.BackSearches", spec := "backSearches", inPlace := ["internal/bytealg.IndexByteString", "internal/bytealg.IndexString", "internal/abi.NoEscape", "internal/bytealg.MakeNoZero", "internal/reflectlite.ValueOf", "internal/reflectlite.Swapper", "(internal/reflectlite.Value).Len"], unfollowed := true, recurses := true, named := ["internal/bytealg.MaxLen", "unicode/utf8.first", "unicode/utf8.acceptRanges", "unicode.CaseRanges"], loops := true, apart := false, laid := [("unicode/utf8.acceptRanges", laid_unicode_utf8_acceptRanges), ("unicode.CaseRanges", laid_unicode_CaseRanges), ("unicode/utf8.first", laid_unicode_utf8_first)] }
def BackSearchesSaid : Prop := backSearchesRow.holds Tryz.pinned (OpenSpec.ofChange backSearchesSpec)

/-- ITS FALSE NEIGHBOUR: 'it returns false'. Refute it at one input. -/
def backSearchesWrong : ChangeSpec := { name := "backSearches", fn := fun _ => fun
  | [d1, d2] => { results := [.lit (.bool false)], args := [d1, d2] }
  | _ => none }
def BackSearchesWrongFalsely : Prop := backSearchesRow.holds Tryz.pinned (OpenSpec.ofChange backSearchesWrong)

/-- 'motleylaw13.BackPossessive': WHATEVER THE INPUT: true; the input reads as it did. -/
def backPossessiveSpec : ChangeSpec := { name := "backPossessive", fn := fun _ => fun
  | [d1, d2] => { results := [.lit (.bool true)], args := [d1, d2] }
  | _ => none }
def backPossessiveRow : OpenClaim := { program := "ytpopmiodjibljaagreatdoor", sum := "acdb125a9ffab47c92a619c0d5ed6397f271a876b7cfb85564fc55b66ba12c0d", func := "motley/motleylaw13.BackPossessive", spec := "backPossessive", inPlace := ["internal/bytealg.IndexByteString", "internal/bytealg.IndexString", "internal/abi.NoEscape", "internal/bytealg.MakeNoZero", "internal/reflectlite.ValueOf", "internal/reflectlite.Swapper", "(internal/reflectlite.Value).Len"], unfollowed := true, recurses := true, named := ["internal/bytealg.MaxLen", "unicode/utf8.first", "unicode/utf8.acceptRanges", "unicode.CaseRanges"], loops := true, apart := false, laid := [("unicode/utf8.acceptRanges", laid_unicode_utf8_acceptRanges), ("unicode.CaseRanges", laid_unicode_CaseRanges), ("unicode/utf8.first", laid_unicode_utf8_first)] }
def BackPossessiveSaid : Prop := backPossessiveRow.holds Tryz.pinned (OpenSpec.ofChange backPossessiveSpec)

/-- ITS FALSE NEIGHBOUR: 'it returns false'. Refute it at one input. -/
def backPossessiveWrong : ChangeSpec := { name := "backPossessive", fn := fun _ => fun
  | [d1, d2] => { results := [.lit (.bool false)], args := [d1, d2] }
  | _ => none }
def BackPossessiveWrongFalsely : Prop := backPossessiveRow.holds Tryz.pinned (OpenSpec.ofChange backPossessiveWrong)

/-- 'motleylaw13.BackCodes': WHATEVER THE INPUT: true; the input reads as it did. -/
def backCodesSpec : ChangeSpec := { name := "backCodes", fn := fun _ => fun
  | [d1, d2, d3] => { results := [.lit (.bool true)], args := [d1, d2, d3] }
  | _ => none }
def backCodesRow : OpenClaim := { program := "ytpopmiodjibljaagreatdoor", sum := "acdb125a9ffab47c92a619c0d5ed6397f271a876b7cfb85564fc55b66ba12c0d", func := "motley/motleylaw13.BackCodes", spec := "backCodes", inPlace := ["internal/bytealg.IndexByteString", "internal/bytealg.IndexString", "internal/abi.NoEscape", "internal/bytealg.MakeNoZero", "internal/reflectlite.ValueOf", "internal/reflectlite.Swapper", "(internal/reflectlite.Value).Len"], unfollowed := true, recurses := true, named := ["internal/bytealg.MaxLen", "unicode/utf8.first", "unicode/utf8.acceptRanges", "unicode.CaseRanges"], loops := true, apart := false, laid := [("unicode/utf8.acceptRanges", laid_unicode_utf8_acceptRanges), ("unicode.CaseRanges", laid_unicode_CaseRanges), ("unicode/utf8.first", laid_unicode_utf8_first)] }
def BackCodesSaid : Prop := backCodesRow.holds Tryz.pinned (OpenSpec.ofChange backCodesSpec)

/-- ITS FALSE NEIGHBOUR: 'it returns false'. Refute it at one input. -/
def backCodesWrong : ChangeSpec := { name := "backCodes", fn := fun _ => fun
  | [d1, d2, d3] => { results := [.lit (.bool false)], args := [d1, d2, d3] }
  | _ => none }
def BackCodesWrongFalsely : Prop := backCodesRow.holds Tryz.pinned (OpenSpec.ofChange backCodesWrong)

/-- 'motleylaw13.BackLeftmost': WHATEVER THE INPUT: true; the input reads as it did. -/
def backLeftmostSpec : ChangeSpec := { name := "backLeftmost", fn := fun _ => fun
  | [d1, d2] => { results := [.lit (.bool true)], args := [d1, d2] }
  | _ => none }
def backLeftmostRow : OpenClaim := { program := "ytpopmiodjibljaagreatdoor", sum := "acdb125a9ffab47c92a619c0d5ed6397f271a876b7cfb85564fc55b66ba12c0d", func := "motley/motleylaw13.BackLeftmost", spec := "backLeftmost", inPlace := ["internal/bytealg.IndexByteString", "internal/bytealg.IndexString", "internal/abi.NoEscape", "internal/bytealg.MakeNoZero", "internal/reflectlite.ValueOf", "internal/reflectlite.Swapper", "(internal/reflectlite.Value).Len"], unfollowed := true, recurses := true, named := ["unicode/utf8.first", "unicode/utf8.acceptRanges", "internal/bytealg.MaxLen", "unicode.CaseRanges"], loops := true, apart := false, laid := [("unicode/utf8.acceptRanges", laid_unicode_utf8_acceptRanges), ("unicode.CaseRanges", laid_unicode_CaseRanges), ("unicode/utf8.first", laid_unicode_utf8_first)] }
def BackLeftmostSaid : Prop := backLeftmostRow.holds Tryz.pinned (OpenSpec.ofChange backLeftmostSpec)

/-- ITS FALSE NEIGHBOUR: 'it returns false'. Refute it at one input. -/
def backLeftmostWrong : ChangeSpec := { name := "backLeftmost", fn := fun _ => fun
  | [d1, d2] => { results := [.lit (.bool false)], args := [d1, d2] }
  | _ => none }
def BackLeftmostWrongFalsely : Prop := backLeftmostRow.holds Tryz.pinned (OpenSpec.ofChange backLeftmostWrong)

/-- 'motleylaw13.BackWays': WHATEVER THE INPUT: true; the input reads as it did. -/
def backWaysSpec : ChangeSpec := { name := "backWays", fn := fun _ => fun
  | [d1, d2] => { results := [.lit (.bool true)], args := [d1, d2] }
  | _ => none }
def backWaysRow : OpenClaim := { program := "ytpopmiodjibljaagreatdoor", sum := "acdb125a9ffab47c92a619c0d5ed6397f271a876b7cfb85564fc55b66ba12c0d", func := "motley/motleylaw13.BackWays", spec := "backWays", inPlace := ["internal/bytealg.IndexByteString", "internal/bytealg.IndexString", "internal/abi.NoEscape", "internal/bytealg.MakeNoZero", "internal/reflectlite.ValueOf", "internal/reflectlite.Swapper", "(internal/reflectlite.Value).Len"], unfollowed := true, recurses := true, named := ["internal/bytealg.MaxLen", "unicode/utf8.first", "unicode/utf8.acceptRanges", "unicode.CaseRanges"], loops := true, apart := false, laid := [("unicode/utf8.acceptRanges", laid_unicode_utf8_acceptRanges), ("unicode.CaseRanges", laid_unicode_CaseRanges), ("unicode/utf8.first", laid_unicode_utf8_first)] }
def BackWaysSaid : Prop := backWaysRow.holds Tryz.pinned (OpenSpec.ofChange backWaysSpec)

/-- ITS FALSE NEIGHBOUR: 'it returns false'. Refute it at one input. -/
def backWaysWrong : ChangeSpec := { name := "backWays", fn := fun _ => fun
  | [d1, d2] => { results := [.lit (.bool false)], args := [d1, d2] }
  | _ => none }
def BackWaysWrongFalsely : Prop := backWaysRow.holds Tryz.pinned (OpenSpec.ofChange backWaysWrong)

/-- 'motleylaw13.BackAlls': WHATEVER THE INPUT: true; the input reads as it did. -/
def backAllsSpec : ChangeSpec := { name := "backAlls", fn := fun _ => fun
  | [d1, d2] => { results := [.lit (.bool true)], args := [d1, d2] }
  | _ => none }
def backAllsRow : OpenClaim := { program := "ytpopmiodjibljaagreatdoor", sum := "acdb125a9ffab47c92a619c0d5ed6397f271a876b7cfb85564fc55b66ba12c0d", func := "motley/motleylaw13.BackAlls", spec := "backAlls", inPlace := ["internal/bytealg.IndexByteString", "internal/bytealg.IndexString", "internal/abi.NoEscape", "internal/bytealg.MakeNoZero", "internal/reflectlite.ValueOf", "internal/reflectlite.Swapper", "(internal/reflectlite.Value).Len"], unfollowed := true, recurses := true, named := ["internal/bytealg.MaxLen", "unicode/utf8.first", "unicode/utf8.acceptRanges", "unicode.CaseRanges"], loops := true, apart := false, laid := [("unicode/utf8.acceptRanges", laid_unicode_utf8_acceptRanges), ("unicode.CaseRanges", laid_unicode_CaseRanges), ("unicode/utf8.first", laid_unicode_utf8_first)] }
def BackAllsSaid : Prop := backAllsRow.holds Tryz.pinned (OpenSpec.ofChange backAllsSpec)

/-- ITS FALSE NEIGHBOUR: 'it returns false'. Refute it at one input. -/
def backAllsWrong : ChangeSpec := { name := "backAlls", fn := fun _ => fun
  | [d1, d2] => { results := [.lit (.bool false)], args := [d1, d2] }
  | _ => none }
def BackAllsWrongFalsely : Prop := backAllsRow.holds Tryz.pinned (OpenSpec.ofChange backAllsWrong)

/-- 'motleylaw13.BackWholes': WHATEVER THE INPUT: true; the input reads as it did. -/
def backWholesSpec : ChangeSpec := { name := "backWholes", fn := fun _ => fun
  | [d1, d2] => { results := [.lit (.bool true)], args := [d1, d2] }
  | _ => none }
def backWholesRow : OpenClaim := { program := "ytpopmiodjibljaagreatdoor", sum := "acdb125a9ffab47c92a619c0d5ed6397f271a876b7cfb85564fc55b66ba12c0d", func := "motley/motleylaw13.BackWholes", spec := "backWholes", inPlace := ["internal/bytealg.IndexByteString", "internal/bytealg.IndexString", "internal/abi.NoEscape", "internal/bytealg.MakeNoZero", "internal/reflectlite.ValueOf", "internal/reflectlite.Swapper", "(internal/reflectlite.Value).Len"], unfollowed := true, recurses := true, named := ["internal/bytealg.MaxLen", "unicode/utf8.first", "unicode/utf8.acceptRanges", "unicode.CaseRanges"], loops := true, apart := false, laid := [("unicode/utf8.acceptRanges", laid_unicode_utf8_acceptRanges), ("unicode.CaseRanges", laid_unicode_CaseRanges), ("unicode/utf8.first", laid_unicode_utf8_first)] }
def BackWholesSaid : Prop := backWholesRow.holds Tryz.pinned (OpenSpec.ofChange backWholesSpec)

/-- ITS FALSE NEIGHBOUR: 'it returns false'. Refute it at one input. -/
def backWholesWrong : ChangeSpec := { name := "backWholes", fn := fun _ => fun
  | [d1, d2] => { results := [.lit (.bool false)], args := [d1, d2] }
  | _ => none }
def BackWholesWrongFalsely : Prop := backWholesRow.holds Tryz.pinned (OpenSpec.ofChange backWholesWrong)

/-- 'motleylaw13.BackTexts': WHATEVER THE INPUT: true; the input reads as it did. -/
def backTextsSpec : ChangeSpec := { name := "backTexts", fn := fun _ => fun
  | [d1, d2] => { results := [.lit (.bool true)], args := [d1, d2] }
  | _ => none }
def backTextsRow : OpenClaim := { program := "ytpopmiodjibljaagreatdoor", sum := "acdb125a9ffab47c92a619c0d5ed6397f271a876b7cfb85564fc55b66ba12c0d", func := "motley/motleylaw13.BackTexts", spec := "backTexts", inPlace := ["internal/bytealg.IndexByteString", "internal/bytealg.IndexString", "internal/abi.NoEscape", "internal/bytealg.MakeNoZero", "internal/reflectlite.ValueOf", "internal/reflectlite.Swapper", "(internal/reflectlite.Value).Len"], unfollowed := true, recurses := true, named := ["internal/bytealg.MaxLen", "unicode/utf8.first", "unicode/utf8.acceptRanges", "unicode.CaseRanges"], apart := false, laid := [("unicode/utf8.acceptRanges", laid_unicode_utf8_acceptRanges), ("unicode.CaseRanges", laid_unicode_CaseRanges), ("unicode/utf8.first", laid_unicode_utf8_first)] }
def BackTextsSaid : Prop := backTextsRow.holds Tryz.pinned (OpenSpec.ofChange backTextsSpec)

/-- ITS FALSE NEIGHBOUR: 'it returns false'. Refute it at one input. -/
def backTextsWrong : ChangeSpec := { name := "backTexts", fn := fun _ => fun
  | [d1, d2] => { results := [.lit (.bool false)], args := [d1, d2] }
  | _ => none }
def BackTextsWrongFalsely : Prop := backTextsRow.holds Tryz.pinned (OpenSpec.ofChange backTextsWrong)

/-- 'motleylaw13.BackTurned': WHATEVER THE INPUT: true; the input reads as it did. -/
def backTurnedSpec : ChangeSpec := { name := "backTurned", fn := fun _ => fun
  | [d1, d2] => { results := [.lit (.bool true)], args := [d1, d2] }
  | _ => none }
def backTurnedRow : OpenClaim := { program := "ytpopmiodjibljaagreatdoor", sum := "acdb125a9ffab47c92a619c0d5ed6397f271a876b7cfb85564fc55b66ba12c0d", func := "motley/motleylaw13.BackTurned", spec := "backTurned", inPlace := ["internal/bytealg.IndexByteString", "internal/bytealg.IndexString", "internal/abi.NoEscape", "internal/bytealg.MakeNoZero", "internal/reflectlite.ValueOf", "internal/reflectlite.Swapper", "(internal/reflectlite.Value).Len"], unfollowed := true, recurses := true, named := ["internal/bytealg.MaxLen", "unicode/utf8.first", "unicode/utf8.acceptRanges", "unicode.CaseRanges"], loops := true, apart := false, laid := [("unicode/utf8.acceptRanges", laid_unicode_utf8_acceptRanges), ("unicode.CaseRanges", laid_unicode_CaseRanges), ("unicode/utf8.first", laid_unicode_utf8_first)] }
def BackTurnedSaid : Prop := backTurnedRow.holds Tryz.pinned (OpenSpec.ofChange backTurnedSpec)

/-- ITS FALSE NEIGHBOUR: 'it returns false'. Refute it at one input. -/
def backTurnedWrong : ChangeSpec := { name := "backTurned", fn := fun _ => fun
  | [d1, d2] => { results := [.lit (.bool false)], args := [d1, d2] }
  | _ => none }
def BackTurnedWrongFalsely : Prop := backTurnedRow.holds Tryz.pinned (OpenSpec.ofChange backTurnedWrong)

/-- 'motleylaw13.BackEnds': WHATEVER THE INPUT: true; the input reads as it did. -/
def backEndsSpec : ChangeSpec := { name := "backEnds", fn := fun _ => fun
  | [d1, d2] => { results := [.lit (.bool true)], args := [d1, d2] }
  | _ => none }
def backEndsRow : OpenClaim := { program := "ytpopmiodjibljaagreatdoor", sum := "acdb125a9ffab47c92a619c0d5ed6397f271a876b7cfb85564fc55b66ba12c0d", func := "motley/motleylaw13.BackEnds", spec := "backEnds", inPlace := ["internal/bytealg.IndexByteString", "internal/bytealg.IndexString", "internal/abi.NoEscape", "internal/bytealg.MakeNoZero", "internal/reflectlite.ValueOf", "internal/reflectlite.Swapper", "(internal/reflectlite.Value).Len"], unfollowed := true, recurses := true, named := ["internal/bytealg.MaxLen", "unicode/utf8.first", "unicode/utf8.acceptRanges", "unicode.CaseRanges"], loops := true, apart := false, laid := [("unicode/utf8.acceptRanges", laid_unicode_utf8_acceptRanges), ("unicode.CaseRanges", laid_unicode_CaseRanges), ("unicode/utf8.first", laid_unicode_utf8_first)] }
def BackEndsSaid : Prop := backEndsRow.holds Tryz.pinned (OpenSpec.ofChange backEndsSpec)

/-- ITS FALSE NEIGHBOUR: 'it returns false'. Refute it at one input. -/
def backEndsWrong : ChangeSpec := { name := "backEnds", fn := fun _ => fun
  | [d1, d2] => { results := [.lit (.bool false)], args := [d1, d2] }
  | _ => none }
def BackEndsWrongFalsely : Prop := backEndsRow.holds Tryz.pinned (OpenSpec.ofChange backEndsWrong)

/- THE SECOND FORM. 'bulk': how many values and letters a reading holds, each counted each time it is reached (what is shared counts as often as it is met; a slice's spare places count too). A statement '..UptoSaid' is the law's where the arguments, and the package variables that the reading takes, are together of bulk at most 1048576: NARROWER than '..Said'. Prove '..Said' where nothing that the law and all that it calls make is longer than what came in: it says more and counts as full. Else prove '..UptoSaid'. A law counts once. -/
mutual
def uptoBulk {H : Type} : DataW H → Nat
  | .lit (.string bytes) => bytes.length + 1
  | .lit _ => 1
  | .nil => 1
  | .ptr d => uptoBulk d + 1
  | .slice elems spare => uptoBulkAll elems + uptoBulkAll spare + 1
  | .agg parts => uptoBulkAll parts + 1
  | .iface _ d => uptoBulk d + 1
  | .map entries => uptoBulkEntries entries + 1
  | .held _ => 1
def uptoBulkAll {H : Type} : List (DataW H) → Nat
  | [] => 0
  | d :: r => uptoBulk d + uptoBulkAll r
def uptoBulkEntries {H : Type} : List (Lit × DataW H) → Nat
  | [] => 0
  | x :: r => uptoBulkEntry x + uptoBulkEntries r
def uptoBulkEntry {H : Type} : Lit × DataW H → Nat
  | (.string bytes, d) => bytes.length + uptoBulk d + 1
  | (_, d) => uptoBulk d + 1
 end
def uptoSmall : (H : Type) → List (DataW H) → Bool := fun _ ds => decide (uptoBulkAll ds ≤ 1048576)
def OpenSpec.upto (s : _root_.Go.ChangeSpec) : _root_.Go.OpenSpec := { _root_.Go.OpenSpec.ofChange s with cond := some uptoSmall }

/-- 'motleylaw12.PatClasses', WHERE WHAT IT READS IS OF BULK AT MOST 1048576: true; the input reads as it did. -/
def patClassesUptoRow : OpenClaim := { program := "ytpopmiodjibljaagreatdoor", sum := "acdb125a9ffab47c92a619c0d5ed6397f271a876b7cfb85564fc55b66ba12c0d", func := "motley/motleylaw12.PatClasses", spec := "patClasses", inPlace := ["internal/bytealg.IndexByteString", "internal/bytealg.IndexString", "internal/abi.NoEscape", "internal/bytealg.MakeNoZero", "internal/reflectlite.ValueOf", "internal/reflectlite.Swapper", "(internal/reflectlite.Value).Len"], unfollowed := true, recurses := true, named := ["internal/bytealg.MaxLen", "unicode/utf8.first", "unicode/utf8.acceptRanges", "unicode.CaseRanges", "internal/strconv.uint64pow10", "math/bits.deBruijn32tab", "math/bits.deBruijn64tab"], loops := true, apart := false, laid := [("math/bits.deBruijn32tab", laid_math_bits_deBruijn32tab), ("math/bits.deBruijn64tab", laid_math_bits_deBruijn64tab), ("internal/strconv.uint64pow10", laid_internal_strconv_uint64pow10), ("unicode/utf8.acceptRanges", laid_unicode_utf8_acceptRanges), ("unicode.CaseRanges", laid_unicode_CaseRanges), ("unicode/utf8.first", laid_unicode_utf8_first)], narrowed := true }
def PatClassesUptoSaid : Prop := patClassesUptoRow.holds Tryz.pinned (OpenSpec.upto patClassesSpec)

/-- 'motleylaw13.BackMatches', WHERE WHAT IT READS IS OF BULK AT MOST 1048576: true; the input reads as it did. -/
def backMatchesUptoRow : OpenClaim := { program := "ytpopmiodjibljaagreatdoor", sum := "acdb125a9ffab47c92a619c0d5ed6397f271a876b7cfb85564fc55b66ba12c0d", func := "motley/motleylaw13.BackMatches", spec := "backMatches", inPlace := ["internal/bytealg.IndexByteString", "internal/bytealg.IndexString", "internal/abi.NoEscape", "internal/bytealg.MakeNoZero", "internal/reflectlite.ValueOf", "internal/reflectlite.Swapper", "(internal/reflectlite.Value).Len"], unfollowed := true, recurses := true, named := ["internal/bytealg.MaxLen", "unicode/utf8.first", "unicode/utf8.acceptRanges", "unicode.CaseRanges"], loops := true, apart := false, laid := [("unicode/utf8.acceptRanges", laid_unicode_utf8_acceptRanges), ("unicode.CaseRanges", laid_unicode_CaseRanges), ("unicode/utf8.first", laid_unicode_utf8_first)], narrowed := true }
def BackMatchesUptoSaid : Prop := backMatchesUptoRow.holds Tryz.pinned (OpenSpec.upto backMatchesSpec)

/-- 'motleylaw13.BackSearches', WHERE WHAT IT READS IS OF BULK AT MOST 1048576: true; the input reads as it did. -/
def backSearchesUptoRow : OpenClaim := { program := "ytpopmiodjibljaagreatdoor", sum := "acdb125a9ffab47c92a619c0d5ed6397f271a876b7cfb85564fc55b66ba12c0d", func := "motley/motleylaw13.BackSearches", spec := "backSearches", inPlace := ["internal/bytealg.IndexByteString", "internal/bytealg.IndexString", "internal/abi.NoEscape", "internal/bytealg.MakeNoZero", "internal/reflectlite.ValueOf", "internal/reflectlite.Swapper", "(internal/reflectlite.Value).Len"], unfollowed := true, recurses := true, named := ["internal/bytealg.MaxLen", "unicode/utf8.first", "unicode/utf8.acceptRanges", "unicode.CaseRanges"], loops := true, apart := false, laid := [("unicode/utf8.acceptRanges", laid_unicode_utf8_acceptRanges), ("unicode.CaseRanges", laid_unicode_CaseRanges), ("unicode/utf8.first", laid_unicode_utf8_first)], narrowed := true }
def BackSearchesUptoSaid : Prop := backSearchesUptoRow.holds Tryz.pinned (OpenSpec.upto backSearchesSpec)

/-- 'motleylaw13.BackPossessive', WHERE WHAT IT READS IS OF BULK AT MOST 1048576: true; the input reads as it did. -/
def backPossessiveUptoRow : OpenClaim := { program := "ytpopmiodjibljaagreatdoor", sum := "acdb125a9ffab47c92a619c0d5ed6397f271a876b7cfb85564fc55b66ba12c0d", func := "motley/motleylaw13.BackPossessive", spec := "backPossessive", inPlace := ["internal/bytealg.IndexByteString", "internal/bytealg.IndexString", "internal/abi.NoEscape", "internal/bytealg.MakeNoZero", "internal/reflectlite.ValueOf", "internal/reflectlite.Swapper", "(internal/reflectlite.Value).Len"], unfollowed := true, recurses := true, named := ["internal/bytealg.MaxLen", "unicode/utf8.first", "unicode/utf8.acceptRanges", "unicode.CaseRanges"], loops := true, apart := false, laid := [("unicode/utf8.acceptRanges", laid_unicode_utf8_acceptRanges), ("unicode.CaseRanges", laid_unicode_CaseRanges), ("unicode/utf8.first", laid_unicode_utf8_first)], narrowed := true }
def BackPossessiveUptoSaid : Prop := backPossessiveUptoRow.holds Tryz.pinned (OpenSpec.upto backPossessiveSpec)

/-- 'motleylaw13.BackCodes', WHERE WHAT IT READS IS OF BULK AT MOST 1048576: true; the input reads as it did. -/
def backCodesUptoRow : OpenClaim := { program := "ytpopmiodjibljaagreatdoor", sum := "acdb125a9ffab47c92a619c0d5ed6397f271a876b7cfb85564fc55b66ba12c0d", func := "motley/motleylaw13.BackCodes", spec := "backCodes", inPlace := ["internal/bytealg.IndexByteString", "internal/bytealg.IndexString", "internal/abi.NoEscape", "internal/bytealg.MakeNoZero", "internal/reflectlite.ValueOf", "internal/reflectlite.Swapper", "(internal/reflectlite.Value).Len"], unfollowed := true, recurses := true, named := ["internal/bytealg.MaxLen", "unicode/utf8.first", "unicode/utf8.acceptRanges", "unicode.CaseRanges"], loops := true, apart := false, laid := [("unicode/utf8.acceptRanges", laid_unicode_utf8_acceptRanges), ("unicode.CaseRanges", laid_unicode_CaseRanges), ("unicode/utf8.first", laid_unicode_utf8_first)], narrowed := true }
def BackCodesUptoSaid : Prop := backCodesUptoRow.holds Tryz.pinned (OpenSpec.upto backCodesSpec)

/-- 'motleylaw13.BackLeftmost', WHERE WHAT IT READS IS OF BULK AT MOST 1048576: true; the input reads as it did. -/
def backLeftmostUptoRow : OpenClaim := { program := "ytpopmiodjibljaagreatdoor", sum := "acdb125a9ffab47c92a619c0d5ed6397f271a876b7cfb85564fc55b66ba12c0d", func := "motley/motleylaw13.BackLeftmost", spec := "backLeftmost", inPlace := ["internal/bytealg.IndexByteString", "internal/bytealg.IndexString", "internal/abi.NoEscape", "internal/bytealg.MakeNoZero", "internal/reflectlite.ValueOf", "internal/reflectlite.Swapper", "(internal/reflectlite.Value).Len"], unfollowed := true, recurses := true, named := ["unicode/utf8.first", "unicode/utf8.acceptRanges", "internal/bytealg.MaxLen", "unicode.CaseRanges"], loops := true, apart := false, laid := [("unicode/utf8.acceptRanges", laid_unicode_utf8_acceptRanges), ("unicode.CaseRanges", laid_unicode_CaseRanges), ("unicode/utf8.first", laid_unicode_utf8_first)], narrowed := true }
def BackLeftmostUptoSaid : Prop := backLeftmostUptoRow.holds Tryz.pinned (OpenSpec.upto backLeftmostSpec)

/-- 'motleylaw13.BackWays', WHERE WHAT IT READS IS OF BULK AT MOST 1048576: true; the input reads as it did. -/
def backWaysUptoRow : OpenClaim := { program := "ytpopmiodjibljaagreatdoor", sum := "acdb125a9ffab47c92a619c0d5ed6397f271a876b7cfb85564fc55b66ba12c0d", func := "motley/motleylaw13.BackWays", spec := "backWays", inPlace := ["internal/bytealg.IndexByteString", "internal/bytealg.IndexString", "internal/abi.NoEscape", "internal/bytealg.MakeNoZero", "internal/reflectlite.ValueOf", "internal/reflectlite.Swapper", "(internal/reflectlite.Value).Len"], unfollowed := true, recurses := true, named := ["internal/bytealg.MaxLen", "unicode/utf8.first", "unicode/utf8.acceptRanges", "unicode.CaseRanges"], loops := true, apart := false, laid := [("unicode/utf8.acceptRanges", laid_unicode_utf8_acceptRanges), ("unicode.CaseRanges", laid_unicode_CaseRanges), ("unicode/utf8.first", laid_unicode_utf8_first)], narrowed := true }
def BackWaysUptoSaid : Prop := backWaysUptoRow.holds Tryz.pinned (OpenSpec.upto backWaysSpec)

/-- 'motleylaw13.BackAlls', WHERE WHAT IT READS IS OF BULK AT MOST 1048576: true; the input reads as it did. -/
def backAllsUptoRow : OpenClaim := { program := "ytpopmiodjibljaagreatdoor", sum := "acdb125a9ffab47c92a619c0d5ed6397f271a876b7cfb85564fc55b66ba12c0d", func := "motley/motleylaw13.BackAlls", spec := "backAlls", inPlace := ["internal/bytealg.IndexByteString", "internal/bytealg.IndexString", "internal/abi.NoEscape", "internal/bytealg.MakeNoZero", "internal/reflectlite.ValueOf", "internal/reflectlite.Swapper", "(internal/reflectlite.Value).Len"], unfollowed := true, recurses := true, named := ["internal/bytealg.MaxLen", "unicode/utf8.first", "unicode/utf8.acceptRanges", "unicode.CaseRanges"], loops := true, apart := false, laid := [("unicode/utf8.acceptRanges", laid_unicode_utf8_acceptRanges), ("unicode.CaseRanges", laid_unicode_CaseRanges), ("unicode/utf8.first", laid_unicode_utf8_first)], narrowed := true }
def BackAllsUptoSaid : Prop := backAllsUptoRow.holds Tryz.pinned (OpenSpec.upto backAllsSpec)

/-- 'motleylaw13.BackWholes', WHERE WHAT IT READS IS OF BULK AT MOST 1048576: true; the input reads as it did. -/
def backWholesUptoRow : OpenClaim := { program := "ytpopmiodjibljaagreatdoor", sum := "acdb125a9ffab47c92a619c0d5ed6397f271a876b7cfb85564fc55b66ba12c0d", func := "motley/motleylaw13.BackWholes", spec := "backWholes", inPlace := ["internal/bytealg.IndexByteString", "internal/bytealg.IndexString", "internal/abi.NoEscape", "internal/bytealg.MakeNoZero", "internal/reflectlite.ValueOf", "internal/reflectlite.Swapper", "(internal/reflectlite.Value).Len"], unfollowed := true, recurses := true, named := ["internal/bytealg.MaxLen", "unicode/utf8.first", "unicode/utf8.acceptRanges", "unicode.CaseRanges"], loops := true, apart := false, laid := [("unicode/utf8.acceptRanges", laid_unicode_utf8_acceptRanges), ("unicode.CaseRanges", laid_unicode_CaseRanges), ("unicode/utf8.first", laid_unicode_utf8_first)], narrowed := true }
def BackWholesUptoSaid : Prop := backWholesUptoRow.holds Tryz.pinned (OpenSpec.upto backWholesSpec)

/-- 'motleylaw13.BackTexts', WHERE WHAT IT READS IS OF BULK AT MOST 1048576: true; the input reads as it did. -/
def backTextsUptoRow : OpenClaim := { program := "ytpopmiodjibljaagreatdoor", sum := "acdb125a9ffab47c92a619c0d5ed6397f271a876b7cfb85564fc55b66ba12c0d", func := "motley/motleylaw13.BackTexts", spec := "backTexts", inPlace := ["internal/bytealg.IndexByteString", "internal/bytealg.IndexString", "internal/abi.NoEscape", "internal/bytealg.MakeNoZero", "internal/reflectlite.ValueOf", "internal/reflectlite.Swapper", "(internal/reflectlite.Value).Len"], unfollowed := true, recurses := true, named := ["internal/bytealg.MaxLen", "unicode/utf8.first", "unicode/utf8.acceptRanges", "unicode.CaseRanges"], apart := false, laid := [("unicode/utf8.acceptRanges", laid_unicode_utf8_acceptRanges), ("unicode.CaseRanges", laid_unicode_CaseRanges), ("unicode/utf8.first", laid_unicode_utf8_first)], narrowed := true }
def BackTextsUptoSaid : Prop := backTextsUptoRow.holds Tryz.pinned (OpenSpec.upto backTextsSpec)

/-- 'motleylaw13.BackTurned', WHERE WHAT IT READS IS OF BULK AT MOST 1048576: true; the input reads as it did. -/
def backTurnedUptoRow : OpenClaim := { program := "ytpopmiodjibljaagreatdoor", sum := "acdb125a9ffab47c92a619c0d5ed6397f271a876b7cfb85564fc55b66ba12c0d", func := "motley/motleylaw13.BackTurned", spec := "backTurned", inPlace := ["internal/bytealg.IndexByteString", "internal/bytealg.IndexString", "internal/abi.NoEscape", "internal/bytealg.MakeNoZero", "internal/reflectlite.ValueOf", "internal/reflectlite.Swapper", "(internal/reflectlite.Value).Len"], unfollowed := true, recurses := true, named := ["internal/bytealg.MaxLen", "unicode/utf8.first", "unicode/utf8.acceptRanges", "unicode.CaseRanges"], loops := true, apart := false, laid := [("unicode/utf8.acceptRanges", laid_unicode_utf8_acceptRanges), ("unicode.CaseRanges", laid_unicode_CaseRanges), ("unicode/utf8.first", laid_unicode_utf8_first)], narrowed := true }
def BackTurnedUptoSaid : Prop := backTurnedUptoRow.holds Tryz.pinned (OpenSpec.upto backTurnedSpec)

/-- 'motleylaw13.BackEnds', WHERE WHAT IT READS IS OF BULK AT MOST 1048576: true; the input reads as it did. -/
def backEndsUptoRow : OpenClaim := { program := "ytpopmiodjibljaagreatdoor", sum := "acdb125a9ffab47c92a619c0d5ed6397f271a876b7cfb85564fc55b66ba12c0d", func := "motley/motleylaw13.BackEnds", spec := "backEnds", inPlace := ["internal/bytealg.IndexByteString", "internal/bytealg.IndexString", "internal/abi.NoEscape", "internal/bytealg.MakeNoZero", "internal/reflectlite.ValueOf", "internal/reflectlite.Swapper", "(internal/reflectlite.Value).Len"], unfollowed := true, recurses := true, named := ["internal/bytealg.MaxLen", "unicode/utf8.first", "unicode/utf8.acceptRanges", "unicode.CaseRanges"], loops := true, apart := false, laid := [("unicode/utf8.acceptRanges", laid_unicode_utf8_acceptRanges), ("unicode.CaseRanges", laid_unicode_CaseRanges), ("unicode/utf8.first", laid_unicode_utf8_first)], narrowed := true }
def BackEndsUptoSaid : Prop := backEndsUptoRow.holds Tryz.pinned (OpenSpec.upto backEndsSpec)

end Rows
end Go.Proofs.YtpopmiodjibljaaGreatDoor
