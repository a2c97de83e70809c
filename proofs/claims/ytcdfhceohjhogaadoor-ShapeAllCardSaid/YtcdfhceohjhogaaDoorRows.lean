/-
  NARROWER THAN 'FOR EVERY INPUT', by the rows' own cells (each row's printed sentence says how): HeadMake: laid · HeadOf: laid · HeadSizes: laid · HeadTexts: laid · HeadUnlike: laid · HeadMarks: laid · ShapeKinds: laid · ShapeAll: laid · ShapeTexts: laid · ShapeReads: laid · ShapeSizes: laid · ShapeMost: laid.
  DERIVED. THE GIVEN ROWS OF THIS SEAT. 12 by the template 'for every input the law returns true; each argument reads behind the call as it read before'; 0 by the template 'total and deterministic' (their statements: YtcdfhceohjhogaaDoorTotals.lean).
  GIVEN WITH THE SEED: the statements are not yours to turn. If you find one false, say at which input.
  Laid BY PROGRAM, IN A SANDBOX (cutbox-rows.mjs): the forced cells as the released guide's own fill.sh prints them over the translation d5430f2d41597968… (all of the seat's roots in one cut). By AI agents, Wed Nov 11 2026. No macro, syntax, notation, axiom, sorry.
-/
import Derived.Test.YtcdfhceohjhogaaDoorChecked
import GoSem.PinnedTables
import GoSem.Claim
import GoSem.ClaimJoined
import GoSem.ClaimMapViews
import Derived.JoinedTies
import Derived.KernelRfl
namespace Go.Proofs.YtcdfhceohjhogaaDoor
/- THE CELL 'sum', in the pinned program and in every row, IS THE sha256 OF THE DUMP (.gsa) THAT YtcdfhceohjhogaaDoorProg.lean LOADS. Nothing in Lean hashes anything: it is a label: what it is worth is what the hold of that sum in a sandbox is worth. -/
noncomputable def Tryd.pinned : Pinned := { name := "ytcdfhceohjhogaadoor", sum := "d5430f2d415979686ec2af769d8508eac6fbb28b532c7afbbeb6358d1a804f4b", checked := Tryd.checked }
namespace Rows
def none {H : Type} : Left H := { results := [], args := [] }

/- WHAT THE LISTED PACKAGE-LEVEL VARIABLES READ AS WHEN THE CALL BEGINS. Each datum BY PROGRAM (the guide's laid-datum.mjs) off the statement by which the dump's own 'gosem.cut.vars' lays the variable. In a bare row this is a premise. The card (YtcdfhceohjhogaaDoorCards.lean) ties it to the program's text. -/
def laid_math_bits_deBruijn32tab {H : Type} : DataW H := .agg [.lit (.int .u8 0), .lit (.int .u8 1), .lit (.int .u8 28), .lit (.int .u8 2), .lit (.int .u8 29), .lit (.int .u8 14), .lit (.int .u8 24), .lit (.int .u8 3), .lit (.int .u8 30), .lit (.int .u8 22), .lit (.int .u8 20), .lit (.int .u8 15), .lit (.int .u8 25), .lit (.int .u8 17), .lit (.int .u8 4), .lit (.int .u8 8), .lit (.int .u8 31), .lit (.int .u8 27), .lit (.int .u8 13), .lit (.int .u8 23), .lit (.int .u8 21), .lit (.int .u8 19), .lit (.int .u8 16), .lit (.int .u8 7), .lit (.int .u8 26), .lit (.int .u8 12), .lit (.int .u8 18), .lit (.int .u8 6), .lit (.int .u8 11), .lit (.int .u8 5), .lit (.int .u8 10), .lit (.int .u8 9)]
def laid_math_bits_deBruijn64tab {H : Type} : DataW H := .agg [.lit (.int .u8 0), .lit (.int .u8 1), .lit (.int .u8 56), .lit (.int .u8 2), .lit (.int .u8 57), .lit (.int .u8 49), .lit (.int .u8 28), .lit (.int .u8 3), .lit (.int .u8 61), .lit (.int .u8 58), .lit (.int .u8 42), .lit (.int .u8 50), .lit (.int .u8 38), .lit (.int .u8 29), .lit (.int .u8 17), .lit (.int .u8 4), .lit (.int .u8 62), .lit (.int .u8 47), .lit (.int .u8 59), .lit (.int .u8 36), .lit (.int .u8 45), .lit (.int .u8 43), .lit (.int .u8 51), .lit (.int .u8 22), .lit (.int .u8 53), .lit (.int .u8 39), .lit (.int .u8 33), .lit (.int .u8 30), .lit (.int .u8 24), .lit (.int .u8 18), .lit (.int .u8 12), .lit (.int .u8 5), .lit (.int .u8 63), .lit (.int .u8 55), .lit (.int .u8 48), .lit (.int .u8 27), .lit (.int .u8 60), .lit (.int .u8 41), .lit (.int .u8 37), .lit (.int .u8 16), .lit (.int .u8 46), .lit (.int .u8 35), .lit (.int .u8 44), .lit (.int .u8 21), .lit (.int .u8 52), .lit (.int .u8 32), .lit (.int .u8 23), .lit (.int .u8 11), .lit (.int .u8 54), .lit (.int .u8 26), .lit (.int .u8 40), .lit (.int .u8 15), .lit (.int .u8 34), .lit (.int .u8 20), .lit (.int .u8 31), .lit (.int .u8 10), .lit (.int .u8 25), .lit (.int .u8 14), .lit (.int .u8 19), .lit (.int .u8 9), .lit (.int .u8 13), .lit (.int .u8 8), .lit (.int .u8 7), .lit (.int .u8 6)]
def laid_internal_strconv_uint64pow10 {H : Type} : DataW H := .agg [.lit (.int .u64 1), .lit (.int .u64 10), .lit (.int .u64 100), .lit (.int .u64 1000), .lit (.int .u64 10000), .lit (.int .u64 100000), .lit (.int .u64 1000000), .lit (.int .u64 10000000), .lit (.int .u64 100000000), .lit (.int .u64 1000000000), .lit (.int .u64 10000000000), .lit (.int .u64 100000000000), .lit (.int .u64 1000000000000), .lit (.int .u64 10000000000000), .lit (.int .u64 100000000000000), .lit (.int .u64 1000000000000000), .lit (.int .u64 10000000000000000), .lit (.int .u64 100000000000000000), .lit (.int .u64 1000000000000000000), .lit (.int .u64 10000000000000000000)]
def laid_unicode_utf8_acceptRanges {H : Type} : DataW H := .agg [.agg [.lit (.int .u8 128), .lit (.int .u8 191)], .agg [.lit (.int .u8 160), .lit (.int .u8 191)], .agg [.lit (.int .u8 128), .lit (.int .u8 159)], .agg [.lit (.int .u8 144), .lit (.int .u8 191)], .agg [.lit (.int .u8 128), .lit (.int .u8 143)], .agg [.lit (.int .u8 0), .lit (.int .u8 0)], .agg [.lit (.int .u8 0), .lit (.int .u8 0)], .agg [.lit (.int .u8 0), .lit (.int .u8 0)], .agg [.lit (.int .u8 0), .lit (.int .u8 0)], .agg [.lit (.int .u8 0), .lit (.int .u8 0)], .agg [.lit (.int .u8 0), .lit (.int .u8 0)], .agg [.lit (.int .u8 0), .lit (.int .u8 0)], .agg [.lit (.int .u8 0), .lit (.int .u8 0)], .agg [.lit (.int .u8 0), .lit (.int .u8 0)], .agg [.lit (.int .u8 0), .lit (.int .u8 0)], .agg [.lit (.int .u8 0), .lit (.int .u8 0)]]
/-- One of Go's own tables, pinned by name: the form's constant. -/
def laid_unicode_utf8_first : DataW Unit := Go.Pinned.utf8First

/-- 'lapidarylaw04.HeadMake': WHATEVER THE INPUT: true; the input reads as it did. -/
def headMakeSpec : ChangeSpec := { name := "headMake", fn := fun _ => fun
  | [d] => { results := [.lit (.bool true)], args := [d] }
  | _ => none }
def headMakeRow : OpenClaim := { program := "ytcdfhceohjhogaadoor", sum := "d5430f2d415979686ec2af769d8508eac6fbb28b532c7afbbeb6358d1a804f4b", func := "lapidary/lapidarylaw04.HeadMake", spec := "headMake", unfollowed := true, recurses := true, named := ["internal/strconv.uint64pow10", "math/bits.deBruijn32tab", "math/bits.deBruijn64tab"], apart := false, laid := [("math/bits.deBruijn32tab", laid_math_bits_deBruijn32tab), ("math/bits.deBruijn64tab", laid_math_bits_deBruijn64tab), ("internal/strconv.uint64pow10", laid_internal_strconv_uint64pow10)] }
def HeadMakeSaid : Prop := headMakeRow.holds Tryd.pinned (OpenSpec.ofChange headMakeSpec)

/-- ITS FALSE NEIGHBOUR: 'it returns false'. Refute it at one input. -/
def headMakeWrong : ChangeSpec := { name := "headMake", fn := fun _ => fun
  | [d] => { results := [.lit (.bool false)], args := [d] }
  | _ => none }
def HeadMakeWrongFalsely : Prop := headMakeRow.holds Tryd.pinned (OpenSpec.ofChange headMakeWrong)

/-- 'lapidarylaw04.HeadOf': WHATEVER THE INPUT: true; the input reads as it did. -/
def headOfSpec : ChangeSpec := { name := "headOf", fn := fun _ => fun
  | [d1, d2] => { results := [.lit (.bool true)], args := [d1, d2] }
  | _ => none }
def headOfRow : OpenClaim := { program := "ytcdfhceohjhogaadoor", sum := "d5430f2d415979686ec2af769d8508eac6fbb28b532c7afbbeb6358d1a804f4b", func := "lapidary/lapidarylaw04.HeadOf", spec := "headOf", unfollowed := true, recurses := true, named := ["internal/strconv.uint64pow10", "math/bits.deBruijn32tab", "math/bits.deBruijn64tab"], apart := false, laid := [("math/bits.deBruijn32tab", laid_math_bits_deBruijn32tab), ("math/bits.deBruijn64tab", laid_math_bits_deBruijn64tab), ("internal/strconv.uint64pow10", laid_internal_strconv_uint64pow10)] }
def HeadOfSaid : Prop := headOfRow.holds Tryd.pinned (OpenSpec.ofChange headOfSpec)

/-- ITS FALSE NEIGHBOUR: 'it returns false'. Refute it at one input. -/
def headOfWrong : ChangeSpec := { name := "headOf", fn := fun _ => fun
  | [d1, d2] => { results := [.lit (.bool false)], args := [d1, d2] }
  | _ => none }
def HeadOfWrongFalsely : Prop := headOfRow.holds Tryd.pinned (OpenSpec.ofChange headOfWrong)

/-- 'lapidarylaw04.HeadSizes': WHATEVER THE INPUT: true; the input reads as it did. -/
def headSizesSpec : ChangeSpec := { name := "headSizes", fn := fun _ => fun
  | [d1, d2] => { results := [.lit (.bool true)], args := [d1, d2] }
  | _ => none }
def headSizesRow : OpenClaim := { program := "ytcdfhceohjhogaadoor", sum := "d5430f2d415979686ec2af769d8508eac6fbb28b532c7afbbeb6358d1a804f4b", func := "lapidary/lapidarylaw04.HeadSizes", spec := "headSizes", unfollowed := true, recurses := true, named := ["internal/strconv.uint64pow10", "math/bits.deBruijn32tab", "math/bits.deBruijn64tab"], apart := false, laid := [("math/bits.deBruijn32tab", laid_math_bits_deBruijn32tab), ("math/bits.deBruijn64tab", laid_math_bits_deBruijn64tab), ("internal/strconv.uint64pow10", laid_internal_strconv_uint64pow10)] }
def HeadSizesSaid : Prop := headSizesRow.holds Tryd.pinned (OpenSpec.ofChange headSizesSpec)

/-- ITS FALSE NEIGHBOUR: 'it returns false'. Refute it at one input. -/
def headSizesWrong : ChangeSpec := { name := "headSizes", fn := fun _ => fun
  | [d1, d2] => { results := [.lit (.bool false)], args := [d1, d2] }
  | _ => none }
def HeadSizesWrongFalsely : Prop := headSizesRow.holds Tryd.pinned (OpenSpec.ofChange headSizesWrong)

/-- 'lapidarylaw04.HeadTexts': WHATEVER THE INPUT: true; the input reads as it did. -/
def headTextsSpec : ChangeSpec := { name := "headTexts", fn := fun _ => fun
  | [d1, d2] => { results := [.lit (.bool true)], args := [d1, d2] }
  | _ => none }
def headTextsRow : OpenClaim := { program := "ytcdfhceohjhogaadoor", sum := "d5430f2d415979686ec2af769d8508eac6fbb28b532c7afbbeb6358d1a804f4b", func := "lapidary/lapidarylaw04.HeadTexts", spec := "headTexts", unfollowed := true, recurses := true, named := ["internal/strconv.uint64pow10", "math/bits.deBruijn32tab", "math/bits.deBruijn64tab"], apart := false, laid := [("math/bits.deBruijn32tab", laid_math_bits_deBruijn32tab), ("math/bits.deBruijn64tab", laid_math_bits_deBruijn64tab), ("internal/strconv.uint64pow10", laid_internal_strconv_uint64pow10)] }
def HeadTextsSaid : Prop := headTextsRow.holds Tryd.pinned (OpenSpec.ofChange headTextsSpec)

/-- ITS FALSE NEIGHBOUR: 'it returns false'. Refute it at one input. -/
def headTextsWrong : ChangeSpec := { name := "headTexts", fn := fun _ => fun
  | [d1, d2] => { results := [.lit (.bool false)], args := [d1, d2] }
  | _ => none }
def HeadTextsWrongFalsely : Prop := headTextsRow.holds Tryd.pinned (OpenSpec.ofChange headTextsWrong)

/-- 'lapidarylaw04.HeadUnlike': WHATEVER THE INPUT: true; the input reads as it did. -/
def headUnlikeSpec : ChangeSpec := { name := "headUnlike", fn := fun _ => fun
  | [d1, d2] => { results := [.lit (.bool true)], args := [d1, d2] }
  | _ => none }
def headUnlikeRow : OpenClaim := { program := "ytcdfhceohjhogaadoor", sum := "d5430f2d415979686ec2af769d8508eac6fbb28b532c7afbbeb6358d1a804f4b", func := "lapidary/lapidarylaw04.HeadUnlike", spec := "headUnlike", unfollowed := true, recurses := true, named := ["internal/strconv.uint64pow10", "math/bits.deBruijn32tab", "math/bits.deBruijn64tab"], apart := false, laid := [("math/bits.deBruijn32tab", laid_math_bits_deBruijn32tab), ("math/bits.deBruijn64tab", laid_math_bits_deBruijn64tab), ("internal/strconv.uint64pow10", laid_internal_strconv_uint64pow10)] }
def HeadUnlikeSaid : Prop := headUnlikeRow.holds Tryd.pinned (OpenSpec.ofChange headUnlikeSpec)

/-- ITS FALSE NEIGHBOUR: 'it returns false'. Refute it at one input. -/
def headUnlikeWrong : ChangeSpec := { name := "headUnlike", fn := fun _ => fun
  | [d1, d2] => { results := [.lit (.bool false)], args := [d1, d2] }
  | _ => none }
def HeadUnlikeWrongFalsely : Prop := headUnlikeRow.holds Tryd.pinned (OpenSpec.ofChange headUnlikeWrong)

/-- 'lapidarylaw04.HeadMarks': WHATEVER THE INPUT: true; the input reads as it did. -/
def headMarksSpec : ChangeSpec := { name := "headMarks", fn := fun _ => fun
  | [d1, d2, d3] => { results := [.lit (.bool true)], args := [d1, d2, d3] }
  | _ => none }
def headMarksRow : OpenClaim := { program := "ytcdfhceohjhogaadoor", sum := "d5430f2d415979686ec2af769d8508eac6fbb28b532c7afbbeb6358d1a804f4b", func := "lapidary/lapidarylaw04.HeadMarks", spec := "headMarks", unfollowed := true, recurses := true, named := ["internal/strconv.uint64pow10", "math/bits.deBruijn32tab", "math/bits.deBruijn64tab"], apart := false, laid := [("math/bits.deBruijn32tab", laid_math_bits_deBruijn32tab), ("math/bits.deBruijn64tab", laid_math_bits_deBruijn64tab), ("internal/strconv.uint64pow10", laid_internal_strconv_uint64pow10)] }
def HeadMarksSaid : Prop := headMarksRow.holds Tryd.pinned (OpenSpec.ofChange headMarksSpec)

/-- ITS FALSE NEIGHBOUR: 'it returns false'. Refute it at one input. -/
def headMarksWrong : ChangeSpec := { name := "headMarks", fn := fun _ => fun
  | [d1, d2, d3] => { results := [.lit (.bool false)], args := [d1, d2, d3] }
  | _ => none }
def HeadMarksWrongFalsely : Prop := headMarksRow.holds Tryd.pinned (OpenSpec.ofChange headMarksWrong)

/-- 'lapidarylaw03.ShapeKinds': WHATEVER THE INPUT: true; the input reads as it did. -/
def shapeKindsSpec : ChangeSpec := { name := "shapeKinds", fn := fun _ => fun
  | [d1, d2, d3, d4] => { results := [.lit (.bool true)], args := [d1, d2, d3, d4] }
  | _ => none }
def shapeKindsRow : OpenClaim := { program := "ytcdfhceohjhogaadoor", sum := "d5430f2d415979686ec2af769d8508eac6fbb28b532c7afbbeb6358d1a804f4b", func := "lapidary/lapidarylaw03.ShapeKinds", spec := "shapeKinds", inPlace := ["internal/abi.NoEscape", "internal/bytealg.MakeNoZero", "internal/bytealg.IndexByteString", "internal/bytealg.IndexString"], unfollowed := true, recurses := true, named := ["unicode/utf8.first", "unicode/utf8.acceptRanges", "internal/bytealg.MaxLen"], apart := false, laid := [("unicode/utf8.acceptRanges", laid_unicode_utf8_acceptRanges), ("unicode/utf8.first", laid_unicode_utf8_first)] }
def ShapeKindsSaid : Prop := shapeKindsRow.holds Tryd.pinned (OpenSpec.ofChange shapeKindsSpec)

/-- ITS FALSE NEIGHBOUR: 'it returns false'. Refute it at one input. -/
def shapeKindsWrong : ChangeSpec := { name := "shapeKinds", fn := fun _ => fun
  | [d1, d2, d3, d4] => { results := [.lit (.bool false)], args := [d1, d2, d3, d4] }
  | _ => none }
def ShapeKindsWrongFalsely : Prop := shapeKindsRow.holds Tryd.pinned (OpenSpec.ofChange shapeKindsWrong)

/-- 'lapidarylaw03.ShapeAll': WHATEVER THE INPUT: true; the input reads as it did. -/
def shapeAllSpec : ChangeSpec := { name := "shapeAll", fn := fun _ => fun
  | [d1, d2] => { results := [.lit (.bool true)], args := [d1, d2] }
  | _ => none }
def shapeAllRow : OpenClaim := { program := "ytcdfhceohjhogaadoor", sum := "d5430f2d415979686ec2af769d8508eac6fbb28b532c7afbbeb6358d1a804f4b", func := "lapidary/lapidarylaw03.ShapeAll", spec := "shapeAll", inPlace := ["internal/abi.NoEscape", "internal/bytealg.MakeNoZero", "internal/bytealg.IndexByteString", "internal/bytealg.IndexString"], unfollowed := true, recurses := true, named := ["unicode/utf8.first", "unicode/utf8.acceptRanges", "internal/bytealg.MaxLen"], apart := false, laid := [("unicode/utf8.acceptRanges", laid_unicode_utf8_acceptRanges), ("unicode/utf8.first", laid_unicode_utf8_first)] }
def ShapeAllSaid : Prop := shapeAllRow.holds Tryd.pinned (OpenSpec.ofChange shapeAllSpec)

/-- ITS FALSE NEIGHBOUR: 'it returns false'. Refute it at one input. -/
def shapeAllWrong : ChangeSpec := { name := "shapeAll", fn := fun _ => fun
  | [d1, d2] => { results := [.lit (.bool false)], args := [d1, d2] }
  | _ => none }
def ShapeAllWrongFalsely : Prop := shapeAllRow.holds Tryd.pinned (OpenSpec.ofChange shapeAllWrong)

/-- 'lapidarylaw03.ShapeTexts': WHATEVER THE INPUT: true; the input reads as it did. -/
def shapeTextsSpec : ChangeSpec := { name := "shapeTexts", fn := fun _ => fun
  | [d] => { results := [.lit (.bool true)], args := [d] }
  | _ => none }
def shapeTextsRow : OpenClaim := { program := "ytcdfhceohjhogaadoor", sum := "d5430f2d415979686ec2af769d8508eac6fbb28b532c7afbbeb6358d1a804f4b", func := "lapidary/lapidarylaw03.ShapeTexts", spec := "shapeTexts", inPlace := ["internal/abi.NoEscape", "internal/bytealg.MakeNoZero", "internal/bytealg.IndexByteString", "internal/bytealg.IndexString"], unfollowed := true, recurses := true, named := ["unicode/utf8.first", "unicode/utf8.acceptRanges", "internal/bytealg.MaxLen"], apart := false, laid := [("unicode/utf8.acceptRanges", laid_unicode_utf8_acceptRanges), ("unicode/utf8.first", laid_unicode_utf8_first)] }
def ShapeTextsSaid : Prop := shapeTextsRow.holds Tryd.pinned (OpenSpec.ofChange shapeTextsSpec)

/-- ITS FALSE NEIGHBOUR: 'it returns false'. Refute it at one input. -/
def shapeTextsWrong : ChangeSpec := { name := "shapeTexts", fn := fun _ => fun
  | [d] => { results := [.lit (.bool false)], args := [d] }
  | _ => none }
def ShapeTextsWrongFalsely : Prop := shapeTextsRow.holds Tryd.pinned (OpenSpec.ofChange shapeTextsWrong)

/-- 'lapidarylaw03.ShapeReads': WHATEVER THE INPUT: true; the input reads as it did. -/
def shapeReadsSpec : ChangeSpec := { name := "shapeReads", fn := fun _ => fun
  | [d] => { results := [.lit (.bool true)], args := [d] }
  | _ => none }
def shapeReadsRow : OpenClaim := { program := "ytcdfhceohjhogaadoor", sum := "d5430f2d415979686ec2af769d8508eac6fbb28b532c7afbbeb6358d1a804f4b", func := "lapidary/lapidarylaw03.ShapeReads", spec := "shapeReads", inPlace := ["internal/abi.NoEscape", "internal/bytealg.MakeNoZero", "internal/bytealg.IndexByteString", "internal/bytealg.IndexString"], unfollowed := true, recurses := true, named := ["unicode/utf8.first", "unicode/utf8.acceptRanges", "internal/bytealg.MaxLen"], apart := false, laid := [("unicode/utf8.acceptRanges", laid_unicode_utf8_acceptRanges), ("unicode/utf8.first", laid_unicode_utf8_first)] }
def ShapeReadsSaid : Prop := shapeReadsRow.holds Tryd.pinned (OpenSpec.ofChange shapeReadsSpec)

/-- ITS FALSE NEIGHBOUR: 'it returns false'. Refute it at one input. -/
def shapeReadsWrong : ChangeSpec := { name := "shapeReads", fn := fun _ => fun
  | [d] => { results := [.lit (.bool false)], args := [d] }
  | _ => none }
def ShapeReadsWrongFalsely : Prop := shapeReadsRow.holds Tryd.pinned (OpenSpec.ofChange shapeReadsWrong)

/-- 'lapidarylaw03.ShapeSizes': WHATEVER THE INPUT: true; the input reads as it did. -/
def shapeSizesSpec : ChangeSpec := { name := "shapeSizes", fn := fun _ => fun
  | [d1, d2] => { results := [.lit (.bool true)], args := [d1, d2] }
  | _ => none }
def shapeSizesRow : OpenClaim := { program := "ytcdfhceohjhogaadoor", sum := "d5430f2d415979686ec2af769d8508eac6fbb28b532c7afbbeb6358d1a804f4b", func := "lapidary/lapidarylaw03.ShapeSizes", spec := "shapeSizes", inPlace := ["internal/abi.NoEscape", "internal/bytealg.MakeNoZero", "internal/bytealg.IndexByteString", "internal/bytealg.IndexString"], unfollowed := true, recurses := true, named := ["unicode/utf8.first", "unicode/utf8.acceptRanges", "internal/bytealg.MaxLen"], apart := false, laid := [("unicode/utf8.acceptRanges", laid_unicode_utf8_acceptRanges), ("unicode/utf8.first", laid_unicode_utf8_first)] }
def ShapeSizesSaid : Prop := shapeSizesRow.holds Tryd.pinned (OpenSpec.ofChange shapeSizesSpec)

/-- ITS FALSE NEIGHBOUR: 'it returns false'. Refute it at one input. -/
def shapeSizesWrong : ChangeSpec := { name := "shapeSizes", fn := fun _ => fun
  | [d1, d2] => { results := [.lit (.bool false)], args := [d1, d2] }
  | _ => none }
def ShapeSizesWrongFalsely : Prop := shapeSizesRow.holds Tryd.pinned (OpenSpec.ofChange shapeSizesWrong)

/-- 'lapidarylaw03.ShapeMost': WHATEVER THE INPUT: true; the input reads as it did. -/
def shapeMostSpec : ChangeSpec := { name := "shapeMost", fn := fun _ => fun
  | [d] => { results := [.lit (.bool true)], args := [d] }
  | _ => none }
def shapeMostRow : OpenClaim := { program := "ytcdfhceohjhogaadoor", sum := "d5430f2d415979686ec2af769d8508eac6fbb28b532c7afbbeb6358d1a804f4b", func := "lapidary/lapidarylaw03.ShapeMost", spec := "shapeMost", inPlace := ["internal/abi.NoEscape", "internal/bytealg.MakeNoZero", "internal/bytealg.IndexByteString", "internal/bytealg.IndexString"], unfollowed := true, recurses := true, named := ["unicode/utf8.first", "unicode/utf8.acceptRanges", "internal/bytealg.MaxLen"], apart := false, laid := [("unicode/utf8.acceptRanges", laid_unicode_utf8_acceptRanges), ("unicode/utf8.first", laid_unicode_utf8_first)] }
def ShapeMostSaid : Prop := shapeMostRow.holds Tryd.pinned (OpenSpec.ofChange shapeMostSpec)

/-- ITS FALSE NEIGHBOUR: 'it returns false'. Refute it at one input. -/
def shapeMostWrong : ChangeSpec := { name := "shapeMost", fn := fun _ => fun
  | [d] => { results := [.lit (.bool false)], args := [d] }
  | _ => none }
def ShapeMostWrongFalsely : Prop := shapeMostRow.holds Tryd.pinned (OpenSpec.ofChange shapeMostWrong)

/- THE SECOND FORM. 'bulk': how many values and letters a reading holds, each counted each time it is reached (what is shared counts as often as it is met; a slice's spare places count too). A statement '..UptoSaid' is the law's where the arguments, and the package variables that the reading takes, are together of bulk at most 1048576: NARROWER than '..Said'. Prove '..Said' where nothing that the law and all that it calls make is longer than what came in: it says more and counts as full. Else prove '..UptoSaid'. A law counts once. -/
mutual
def uptoBulk {H : Type} : DataW H → Nat
  | .lit (.string bytes) => bytes.length + 1
  | .lit _ => 1
  | .nil => 1
  | .ptr d => uptoBulk d + 1
  | .slice elems spare => uptoBulkAll elems + uptoBulkAll spare + 1
  | .agg parts => uptoBulkAll parts + 1
  | .iface _ d => uptoBulk d + 1
  | .map entries => uptoBulkEntries entries + 1
  | .held _ => 1
def uptoBulkAll {H : Type} : List (DataW H) → Nat
  | [] => 0
  | d :: r => uptoBulk d + uptoBulkAll r
def uptoBulkEntries {H : Type} : List (Lit × DataW H) → Nat
  | [] => 0
  | x :: r => uptoBulkEntry x + uptoBulkEntries r
def uptoBulkEntry {H : Type} : Lit × DataW H → Nat
  | (.string bytes, d) => bytes.length + uptoBulk d + 1
  | (_, d) => uptoBulk d + 1
 end
def uptoSmall : (H : Type) → List (DataW H) → Bool := fun _ ds => decide (uptoBulkAll ds ≤ 1048576)
def OpenSpec.upto (s : _root_.Go.ChangeSpec) : _root_.Go.OpenSpec := { _root_.Go.OpenSpec.ofChange s with cond := some uptoSmall }

/-- 'lapidarylaw04.HeadMake', WHERE WHAT IT READS IS OF BULK AT MOST 1048576: true; the input reads as it did. -/
def headMakeUptoRow : OpenClaim := { program := "ytcdfhceohjhogaadoor", sum := "d5430f2d415979686ec2af769d8508eac6fbb28b532c7afbbeb6358d1a804f4b", func := "lapidary/lapidarylaw04.HeadMake", spec := "headMake", unfollowed := true, recurses := true, named := ["internal/strconv.uint64pow10", "math/bits.deBruijn32tab", "math/bits.deBruijn64tab"], apart := false, laid := [("math/bits.deBruijn32tab", laid_math_bits_deBruijn32tab), ("math/bits.deBruijn64tab", laid_math_bits_deBruijn64tab), ("internal/strconv.uint64pow10", laid_internal_strconv_uint64pow10)], narrowed := true }
def HeadMakeUptoSaid : Prop := headMakeUptoRow.holds Tryd.pinned (OpenSpec.upto headMakeSpec)

/-- 'lapidarylaw04.HeadOf', WHERE WHAT IT READS IS OF BULK AT MOST 1048576: true; the input reads as it did. -/
def headOfUptoRow : OpenClaim := { program := "ytcdfhceohjhogaadoor", sum := "d5430f2d415979686ec2af769d8508eac6fbb28b532c7afbbeb6358d1a804f4b", func := "lapidary/lapidarylaw04.HeadOf", spec := "headOf", unfollowed := true, recurses := true, named := ["internal/strconv.uint64pow10", "math/bits.deBruijn32tab", "math/bits.deBruijn64tab"], apart := false, laid := [("math/bits.deBruijn32tab", laid_math_bits_deBruijn32tab), ("math/bits.deBruijn64tab", laid_math_bits_deBruijn64tab), ("internal/strconv.uint64pow10", laid_internal_strconv_uint64pow10)], narrowed := true }
def HeadOfUptoSaid : Prop := headOfUptoRow.holds Tryd.pinned (OpenSpec.upto headOfSpec)

/-- 'lapidarylaw04.HeadSizes', WHERE WHAT IT READS IS OF BULK AT MOST 1048576: true; the input reads as it did. -/
def headSizesUptoRow : OpenClaim := { program := "ytcdfhceohjhogaadoor", sum := "d5430f2d415979686ec2af769d8508eac6fbb28b532c7afbbeb6358d1a804f4b", func := "lapidary/lapidarylaw04.HeadSizes", spec := "headSizes", unfollowed := true, recurses := true, named := ["internal/strconv.uint64pow10", "math/bits.deBruijn32tab", "math/bits.deBruijn64tab"], apart := false, laid := [("math/bits.deBruijn32tab", laid_math_bits_deBruijn32tab), ("math/bits.deBruijn64tab", laid_math_bits_deBruijn64tab), ("internal/strconv.uint64pow10", laid_internal_strconv_uint64pow10)], narrowed := true }
def HeadSizesUptoSaid : Prop := headSizesUptoRow.holds Tryd.pinned (OpenSpec.upto headSizesSpec)

/-- 'lapidarylaw04.HeadTexts', WHERE WHAT IT READS IS OF BULK AT MOST 1048576: true; the input reads as it did. -/
def headTextsUptoRow : OpenClaim := { program := "ytcdfhceohjhogaadoor", sum := "d5430f2d415979686ec2af769d8508eac6fbb28b532c7afbbeb6358d1a804f4b", func := "lapidary/lapidarylaw04.HeadTexts", spec := "headTexts", unfollowed := true, recurses := true, named := ["internal/strconv.uint64pow10", "math/bits.deBruijn32tab", "math/bits.deBruijn64tab"], apart := false, laid := [("math/bits.deBruijn32tab", laid_math_bits_deBruijn32tab), ("math/bits.deBruijn64tab", laid_math_bits_deBruijn64tab), ("internal/strconv.uint64pow10", laid_internal_strconv_uint64pow10)], narrowed := true }
def HeadTextsUptoSaid : Prop := headTextsUptoRow.holds Tryd.pinned (OpenSpec.upto headTextsSpec)

/-- 'lapidarylaw04.HeadUnlike', WHERE WHAT IT READS IS OF BULK AT MOST 1048576: true; the input reads as it did. -/
def headUnlikeUptoRow : OpenClaim := { program := "ytcdfhceohjhogaadoor", sum := "d5430f2d415979686ec2af769d8508eac6fbb28b532c7afbbeb6358d1a804f4b", func := "lapidary/lapidarylaw04.HeadUnlike", spec := "headUnlike", unfollowed := true, recurses := true, named := ["internal/strconv.uint64pow10", "math/bits.deBruijn32tab", "math/bits.deBruijn64tab"], apart := false, laid := [("math/bits.deBruijn32tab", laid_math_bits_deBruijn32tab), ("math/bits.deBruijn64tab", laid_math_bits_deBruijn64tab), ("internal/strconv.uint64pow10", laid_internal_strconv_uint64pow10)], narrowed := true }
def HeadUnlikeUptoSaid : Prop := headUnlikeUptoRow.holds Tryd.pinned (OpenSpec.upto headUnlikeSpec)

/-- 'lapidarylaw04.HeadMarks', WHERE WHAT IT READS IS OF BULK AT MOST 1048576: true; the input reads as it did. -/
def headMarksUptoRow : OpenClaim := { program := "ytcdfhceohjhogaadoor", sum := "d5430f2d415979686ec2af769d8508eac6fbb28b532c7afbbeb6358d1a804f4b", func := "lapidary/lapidarylaw04.HeadMarks", spec := "headMarks", unfollowed := true, recurses := true, named := ["internal/strconv.uint64pow10", "math/bits.deBruijn32tab", "math/bits.deBruijn64tab"], apart := false, laid := [("math/bits.deBruijn32tab", laid_math_bits_deBruijn32tab), ("math/bits.deBruijn64tab", laid_math_bits_deBruijn64tab), ("internal/strconv.uint64pow10", laid_internal_strconv_uint64pow10)], narrowed := true }
def HeadMarksUptoSaid : Prop := headMarksUptoRow.holds Tryd.pinned (OpenSpec.upto headMarksSpec)

/-- 'lapidarylaw03.ShapeKinds', WHERE WHAT IT READS IS OF BULK AT MOST 1048576: true; the input reads as it did. -/
def shapeKindsUptoRow : OpenClaim := { program := "ytcdfhceohjhogaadoor", sum := "d5430f2d415979686ec2af769d8508eac6fbb28b532c7afbbeb6358d1a804f4b", func := "lapidary/lapidarylaw03.ShapeKinds", spec := "shapeKinds", inPlace := ["internal/abi.NoEscape", "internal/bytealg.MakeNoZero", "internal/bytealg.IndexByteString", "internal/bytealg.IndexString"], unfollowed := true, recurses := true, named := ["unicode/utf8.first", "unicode/utf8.acceptRanges", "internal/bytealg.MaxLen"], apart := false, laid := [("unicode/utf8.acceptRanges", laid_unicode_utf8_acceptRanges), ("unicode/utf8.first", laid_unicode_utf8_first)], narrowed := true }
def ShapeKindsUptoSaid : Prop := shapeKindsUptoRow.holds Tryd.pinned (OpenSpec.upto shapeKindsSpec)

/-- 'lapidarylaw03.ShapeAll', WHERE WHAT IT READS IS OF BULK AT MOST 1048576: true; the input reads as it did. -/
def shapeAllUptoRow : OpenClaim := { program := "ytcdfhceohjhogaadoor", sum := "d5430f2d415979686ec2af769d8508eac6fbb28b532c7afbbeb6358d1a804f4b", func := "lapidary/lapidarylaw03.ShapeAll", spec := "shapeAll", inPlace := ["internal/abi.NoEscape", "internal/bytealg.MakeNoZero", "internal/bytealg.IndexByteString", "internal/bytealg.IndexString"], unfollowed := true, recurses := true, named := ["unicode/utf8.first", "unicode/utf8.acceptRanges", "internal/bytealg.MaxLen"], apart := false, laid := [("unicode/utf8.acceptRanges", laid_unicode_utf8_acceptRanges), ("unicode/utf8.first", laid_unicode_utf8_first)], narrowed := true }
def ShapeAllUptoSaid : Prop := shapeAllUptoRow.holds Tryd.pinned (OpenSpec.upto shapeAllSpec)

/-- 'lapidarylaw03.ShapeTexts', WHERE WHAT IT READS IS OF BULK AT MOST 1048576: true; the input reads as it did. -/
def shapeTextsUptoRow : OpenClaim := { program := "ytcdfhceohjhogaadoor", sum := "d5430f2d415979686ec2af769d8508eac6fbb28b532c7afbbeb6358d1a804f4b", func := "lapidary/lapidarylaw03.ShapeTexts", spec := "shapeTexts", inPlace := ["internal/abi.NoEscape", "internal/bytealg.MakeNoZero", "internal/bytealg.IndexByteString", "internal/bytealg.IndexString"], unfollowed := true, recurses := true, named := ["unicode/utf8.first", "unicode/utf8.acceptRanges", "internal/bytealg.MaxLen"], apart := false, laid := [("unicode/utf8.acceptRanges", laid_unicode_utf8_acceptRanges), ("unicode/utf8.first", laid_unicode_utf8_first)], narrowed := true }
def ShapeTextsUptoSaid : Prop := shapeTextsUptoRow.holds Tryd.pinned (OpenSpec.upto shapeTextsSpec)

/-- 'lapidarylaw03.ShapeReads', WHERE WHAT IT READS IS OF BULK AT MOST 1048576: true; the input reads as it did. -/
def shapeReadsUptoRow : OpenClaim := { program := "ytcdfhceohjhogaadoor", sum := "d5430f2d415979686ec2af769d8508eac6fbb28b532c7afbbeb6358d1a804f4b", func := "lapidary/lapidarylaw03.ShapeReads", spec := "shapeReads", inPlace := ["internal/abi.NoEscape", "internal/bytealg.MakeNoZero", "internal/bytealg.IndexByteString", "internal/bytealg.IndexString"], unfollowed := true, recurses := true, named := ["unicode/utf8.first", "unicode/utf8.acceptRanges", "internal/bytealg.MaxLen"], apart := false, laid := [("unicode/utf8.acceptRanges", laid_unicode_utf8_acceptRanges), ("unicode/utf8.first", laid_unicode_utf8_first)], narrowed := true }
def ShapeReadsUptoSaid : Prop := shapeReadsUptoRow.holds Tryd.pinned (OpenSpec.upto shapeReadsSpec)

/-- 'lapidarylaw03.ShapeSizes', WHERE WHAT IT READS IS OF BULK AT MOST 1048576: true; the input reads as it did. -/
def shapeSizesUptoRow : OpenClaim := { program := "ytcdfhceohjhogaadoor", sum := "d5430f2d415979686ec2af769d8508eac6fbb28b532c7afbbeb6358d1a804f4b", func := "lapidary/lapidarylaw03.ShapeSizes", spec := "shapeSizes", inPlace := ["internal/abi.NoEscape", "internal/bytealg.MakeNoZero", "internal/bytealg.IndexByteString", "internal/bytealg.IndexString"], unfollowed := true, recurses := true, named := ["unicode/utf8.first", "unicode/utf8.acceptRanges", "internal/bytealg.MaxLen"], apart := false, laid := [("unicode/utf8.acceptRanges", laid_unicode_utf8_acceptRanges), ("unicode/utf8.first", laid_unicode_utf8_first)], narrowed := true }
def ShapeSizesUptoSaid : Prop := shapeSizesUptoRow.holds Tryd.pinned (OpenSpec.upto shapeSizesSpec)

/-- 'lapidarylaw03.ShapeMost', WHERE WHAT IT READS IS OF BULK AT MOST 1048576: true; the input reads as it did. -/
def shapeMostUptoRow : OpenClaim := { program := "ytcdfhceohjhogaadoor", sum := "d5430f2d415979686ec2af769d8508eac6fbb28b532c7afbbeb6358d1a804f4b", func := "lapidary/lapidarylaw03.ShapeMost", spec := "shapeMost", inPlace := ["internal/abi.NoEscape", "internal/bytealg.MakeNoZero", "internal/bytealg.IndexByteString", "internal/bytealg.IndexString"], unfollowed := true, recurses := true, named := ["unicode/utf8.first", "unicode/utf8.acceptRanges", "internal/bytealg.MaxLen"], apart := false, laid := [("unicode/utf8.acceptRanges", laid_unicode_utf8_acceptRanges), ("unicode/utf8.first", laid_unicode_utf8_first)], narrowed := true }
def ShapeMostUptoSaid : Prop := shapeMostUptoRow.holds Tryd.pinned (OpenSpec.upto shapeMostSpec)

end Rows
end Go.Proofs.YtcdfhceohjhogaaDoor
