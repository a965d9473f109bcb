/-
  NARROWER THAN 'FOR EVERY INPUT', by the rows' own cells (each row's printed sentence says how): StemFails: laid · StemWheres: laid · StemAdds: laid · StemLowers: laid · StemLeft: laid · StemCounts: laid · StemAdded: laid · StemPrints: laid · StemReads: laid · StemSpoilt: laid · StemNamed: laid · StemMore: laid · StemPlans: laid · StemFewest: laid · StemRests: laid · StemFirst: laid.
  DERIVED. THE GIVEN ROWS OF THIS SEAT. 16 by the template 'for every input the law returns true; each argument reads behind the call as it read before'; 0 by the template 'total and deterministic' (their statements: YtfmpabgblbbcdaaGreatDoorTotals.lean).
  GIVEN WITH THE SEED: the statements are not yours to turn. If you find one false, say at which input.
  Laid BY PROGRAM, IN A SANDBOX (cutbox-rows.mjs): the forced cells as the released guide's own fill.sh prints them over the translation d2d35cbc5621ebea… (all of the seat's roots in one cut). By AI agents, Wed Nov 11 2026. No macro, syntax, notation, axiom, sorry.
-/
import Derived.Test.YtfmpabgblbbcdaaGreatDoorChecked
import GoSem.PinnedTables
import GoSem.Claim
import GoSem.ClaimJoined
import GoSem.ClaimMapViews
import Derived.JoinedTies
import Derived.KernelRfl
namespace Go.Proofs.YtfmpabgblbbcdaaGreatDoor
/- THE CELL 'sum', in the pinned program and in every row, IS THE sha256 OF THE DUMP (.gsa) THAT YtfmpabgblbbcdaaGreatDoorProg.lean LOADS. Nothing in Lean hashes anything: it is a label: what it is worth is what the hold of that sum in a sandbox is worth. -/
noncomputable def Tryz.pinned : Pinned := { name := "ytfmpabgblbbcdaagreatdoor", sum := "d2d35cbc5621ebeae1e6f33e1d9a170ea251b1f91367483adb73bffccf2a2907", checked := Tryz.checked }
namespace Rows
def none {H : Type} : Left H := { results := [], args := [] }

/- WHAT THE LISTED PACKAGE-LEVEL VARIABLES READ AS WHEN THE CALL BEGINS. Each datum BY PROGRAM (the guide's laid-datum.mjs) off the statement by which the dump's own 'gosem.cut.vars' lays the variable. In a bare row this is a premise. The card (YtfmpabgblbbcdaaGreatDoorCards.lean) ties it to the program's text. -/
def laid_math_bits_deBruijn32tab {H : Type} : DataW H := .agg [.lit (.int .u8 0), .lit (.int .u8 1), .lit (.int .u8 28), .lit (.int .u8 2), .lit (.int .u8 29), .lit (.int .u8 14), .lit (.int .u8 24), .lit (.int .u8 3), .lit (.int .u8 30), .lit (.int .u8 22), .lit (.int .u8 20), .lit (.int .u8 15), .lit (.int .u8 25), .lit (.int .u8 17), .lit (.int .u8 4), .lit (.int .u8 8), .lit (.int .u8 31), .lit (.int .u8 27), .lit (.int .u8 13), .lit (.int .u8 23), .lit (.int .u8 21), .lit (.int .u8 19), .lit (.int .u8 16), .lit (.int .u8 7), .lit (.int .u8 26), .lit (.int .u8 12), .lit (.int .u8 18), .lit (.int .u8 6), .lit (.int .u8 11), .lit (.int .u8 5), .lit (.int .u8 10), .lit (.int .u8 9)]
def laid_math_bits_deBruijn64tab {H : Type} : DataW H := .agg [.lit (.int .u8 0), .lit (.int .u8 1), .lit (.int .u8 56), .lit (.int .u8 2), .lit (.int .u8 57), .lit (.int .u8 49), .lit (.int .u8 28), .lit (.int .u8 3), .lit (.int .u8 61), .lit (.int .u8 58), .lit (.int .u8 42), .lit (.int .u8 50), .lit (.int .u8 38), .lit (.int .u8 29), .lit (.int .u8 17), .lit (.int .u8 4), .lit (.int .u8 62), .lit (.int .u8 47), .lit (.int .u8 59), .lit (.int .u8 36), .lit (.int .u8 45), .lit (.int .u8 43), .lit (.int .u8 51), .lit (.int .u8 22), .lit (.int .u8 53), .lit (.int .u8 39), .lit (.int .u8 33), .lit (.int .u8 30), .lit (.int .u8 24), .lit (.int .u8 18), .lit (.int .u8 12), .lit (.int .u8 5), .lit (.int .u8 63), .lit (.int .u8 55), .lit (.int .u8 48), .lit (.int .u8 27), .lit (.int .u8 60), .lit (.int .u8 41), .lit (.int .u8 37), .lit (.int .u8 16), .lit (.int .u8 46), .lit (.int .u8 35), .lit (.int .u8 44), .lit (.int .u8 21), .lit (.int .u8 52), .lit (.int .u8 32), .lit (.int .u8 23), .lit (.int .u8 11), .lit (.int .u8 54), .lit (.int .u8 26), .lit (.int .u8 40), .lit (.int .u8 15), .lit (.int .u8 34), .lit (.int .u8 20), .lit (.int .u8 31), .lit (.int .u8 10), .lit (.int .u8 25), .lit (.int .u8 14), .lit (.int .u8 19), .lit (.int .u8 9), .lit (.int .u8 13), .lit (.int .u8 8), .lit (.int .u8 7), .lit (.int .u8 6)]
def laid_internal_strconv_uint64pow10 {H : Type} : DataW H := .agg [.lit (.int .u64 1), .lit (.int .u64 10), .lit (.int .u64 100), .lit (.int .u64 1000), .lit (.int .u64 10000), .lit (.int .u64 100000), .lit (.int .u64 1000000), .lit (.int .u64 10000000), .lit (.int .u64 100000000), .lit (.int .u64 1000000000), .lit (.int .u64 10000000000), .lit (.int .u64 100000000000), .lit (.int .u64 1000000000000), .lit (.int .u64 10000000000000), .lit (.int .u64 100000000000000), .lit (.int .u64 1000000000000000), .lit (.int .u64 10000000000000000), .lit (.int .u64 100000000000000000), .lit (.int .u64 1000000000000000000), .lit (.int .u64 10000000000000000000)]
def laid_unicode_utf8_acceptRanges {H : Type} : DataW H := .agg [.agg [.lit (.int .u8 128), .lit (.int .u8 191)], .agg [.lit (.int .u8 160), .lit (.int .u8 191)], .agg [.lit (.int .u8 128), .lit (.int .u8 159)], .agg [.lit (.int .u8 144), .lit (.int .u8 191)], .agg [.lit (.int .u8 128), .lit (.int .u8 143)], .agg [.lit (.int .u8 0), .lit (.int .u8 0)], .agg [.lit (.int .u8 0), .lit (.int .u8 0)], .agg [.lit (.int .u8 0), .lit (.int .u8 0)], .agg [.lit (.int .u8 0), .lit (.int .u8 0)], .agg [.lit (.int .u8 0), .lit (.int .u8 0)], .agg [.lit (.int .u8 0), .lit (.int .u8 0)], .agg [.lit (.int .u8 0), .lit (.int .u8 0)], .agg [.lit (.int .u8 0), .lit (.int .u8 0)], .agg [.lit (.int .u8 0), .lit (.int .u8 0)], .agg [.lit (.int .u8 0), .lit (.int .u8 0)], .agg [.lit (.int .u8 0), .lit (.int .u8 0)]]
/-- One of Go's own tables, pinned by name: the form's constant. -/
def laid_unicode_utf8_first : DataW Unit := Go.Pinned.utf8First

/-- 'kelirlaw05.StemFails': WHATEVER THE INPUT: true; the input reads as it did. -/
def stemFailsSpec : ChangeSpec := { name := "stemFails", fn := fun _ => fun
  | [d] => { results := [.lit (.bool true)], args := [d] }
  | _ => none }
def stemFailsRow : OpenClaim := { program := "ytfmpabgblbbcdaagreatdoor", sum := "d2d35cbc5621ebeae1e6f33e1d9a170ea251b1f91367483adb73bffccf2a2907", func := "kelir/kelirlaw05.StemFails", spec := "stemFails", inPlace := ["slices.overlaps[int]", "internal/bytealg.CountString", "internal/bytealg.IndexByteString", "internal/bytealg.IndexString", "internal/abi.NoEscape", "internal/bytealg.MakeNoZero"], unfollowed := true, recurses := true, named := ["unicode/utf8.first", "unicode/utf8.acceptRanges", "internal/bytealg.MaxLen", "internal/strconv.uint64pow10", "math/bits.deBruijn32tab", "math/bits.deBruijn64tab"], apart := false, laid := [("math/bits.deBruijn32tab", laid_math_bits_deBruijn32tab), ("math/bits.deBruijn64tab", laid_math_bits_deBruijn64tab), ("internal/strconv.uint64pow10", laid_internal_strconv_uint64pow10), ("unicode/utf8.acceptRanges", laid_unicode_utf8_acceptRanges), ("unicode/utf8.first", laid_unicode_utf8_first)] }
def StemFailsSaid : Prop := stemFailsRow.holds Tryz.pinned (OpenSpec.ofChange stemFailsSpec)

/-- ITS FALSE NEIGHBOUR: 'it returns false'. Refute it at one input. -/
def stemFailsWrong : ChangeSpec := { name := "stemFails", fn := fun _ => fun
  | [d] => { results := [.lit (.bool false)], args := [d] }
  | _ => none }
def StemFailsWrongFalsely : Prop := stemFailsRow.holds Tryz.pinned (OpenSpec.ofChange stemFailsWrong)

/-- 'kelirlaw05.StemWheres': WHATEVER THE INPUT: true; the input reads as it did. -/
def stemWheresSpec : ChangeSpec := { name := "stemWheres", fn := fun _ => fun
  | [d1, d2, d3] => { results := [.lit (.bool true)], args := [d1, d2, d3] }
  | _ => none }
def stemWheresRow : OpenClaim := { program := "ytfmpabgblbbcdaagreatdoor", sum := "d2d35cbc5621ebeae1e6f33e1d9a170ea251b1f91367483adb73bffccf2a2907", func := "kelir/kelirlaw05.StemWheres", spec := "stemWheres", inPlace := ["slices.overlaps[int]", "internal/bytealg.CountString", "internal/bytealg.IndexByteString", "internal/bytealg.IndexString", "internal/abi.NoEscape", "internal/bytealg.MakeNoZero"], unfollowed := true, recurses := true, named := ["unicode/utf8.first", "unicode/utf8.acceptRanges", "internal/bytealg.MaxLen", "internal/strconv.uint64pow10", "math/bits.deBruijn32tab", "math/bits.deBruijn64tab"], apart := false, laid := [("math/bits.deBruijn32tab", laid_math_bits_deBruijn32tab), ("math/bits.deBruijn64tab", laid_math_bits_deBruijn64tab), ("internal/strconv.uint64pow10", laid_internal_strconv_uint64pow10), ("unicode/utf8.acceptRanges", laid_unicode_utf8_acceptRanges), ("unicode/utf8.first", laid_unicode_utf8_first)] }
def StemWheresSaid : Prop := stemWheresRow.holds Tryz.pinned (OpenSpec.ofChange stemWheresSpec)

/-- ITS FALSE NEIGHBOUR: 'it returns false'. Refute it at one input. -/
def stemWheresWrong : ChangeSpec := { name := "stemWheres", fn := fun _ => fun
  | [d1, d2, d3] => { results := [.lit (.bool false)], args := [d1, d2, d3] }
  | _ => none }
def StemWheresWrongFalsely : Prop := stemWheresRow.holds Tryz.pinned (OpenSpec.ofChange stemWheresWrong)

/-- 'kelirlaw05.StemAdds': WHATEVER THE INPUT: true; the input reads as it did. -/
def stemAddsSpec : ChangeSpec := { name := "stemAdds", fn := fun _ => fun
  | [d1, d2] => { results := [.lit (.bool true)], args := [d1, d2] }
  | _ => none }
def stemAddsRow : OpenClaim := { program := "ytfmpabgblbbcdaagreatdoor", sum := "d2d35cbc5621ebeae1e6f33e1d9a170ea251b1f91367483adb73bffccf2a2907", func := "kelir/kelirlaw05.StemAdds", spec := "stemAdds", inPlace := ["slices.overlaps[int]", "internal/bytealg.CountString", "internal/bytealg.IndexByteString", "internal/bytealg.IndexString", "internal/abi.NoEscape", "internal/bytealg.MakeNoZero"], unfollowed := true, recurses := true, named := ["unicode/utf8.first", "unicode/utf8.acceptRanges", "internal/bytealg.MaxLen", "internal/strconv.uint64pow10", "math/bits.deBruijn32tab", "math/bits.deBruijn64tab"], apart := false, laid := [("math/bits.deBruijn32tab", laid_math_bits_deBruijn32tab), ("math/bits.deBruijn64tab", laid_math_bits_deBruijn64tab), ("internal/strconv.uint64pow10", laid_internal_strconv_uint64pow10), ("unicode/utf8.acceptRanges", laid_unicode_utf8_acceptRanges), ("unicode/utf8.first", laid_unicode_utf8_first)] }
def StemAddsSaid : Prop := stemAddsRow.holds Tryz.pinned (OpenSpec.ofChange stemAddsSpec)

/-- ITS FALSE NEIGHBOUR: 'it returns false'. Refute it at one input. -/
def stemAddsWrong : ChangeSpec := { name := "stemAdds", fn := fun _ => fun
  | [d1, d2] => { results := [.lit (.bool false)], args := [d1, d2] }
  | _ => none }
def StemAddsWrongFalsely : Prop := stemAddsRow.holds Tryz.pinned (OpenSpec.ofChange stemAddsWrong)

/-- 'kelirlaw05.StemLowers': WHATEVER THE INPUT: true; the input reads as it did. -/
def stemLowersSpec : ChangeSpec := { name := "stemLowers", fn := fun _ => fun
  | [d] => { results := [.lit (.bool true)], args := [d] }
  | _ => none }
def stemLowersRow : OpenClaim := { program := "ytfmpabgblbbcdaagreatdoor", sum := "d2d35cbc5621ebeae1e6f33e1d9a170ea251b1f91367483adb73bffccf2a2907", func := "kelir/kelirlaw05.StemLowers", spec := "stemLowers", inPlace := ["slices.overlaps[int]", "internal/bytealg.CountString", "internal/bytealg.IndexByteString", "internal/bytealg.IndexString", "internal/abi.NoEscape", "internal/bytealg.MakeNoZero"], unfollowed := true, recurses := true, named := ["unicode/utf8.first", "unicode/utf8.acceptRanges", "internal/bytealg.MaxLen", "internal/strconv.uint64pow10", "math/bits.deBruijn32tab", "math/bits.deBruijn64tab"], apart := false, laid := [("math/bits.deBruijn32tab", laid_math_bits_deBruijn32tab), ("math/bits.deBruijn64tab", laid_math_bits_deBruijn64tab), ("internal/strconv.uint64pow10", laid_internal_strconv_uint64pow10), ("unicode/utf8.acceptRanges", laid_unicode_utf8_acceptRanges), ("unicode/utf8.first", laid_unicode_utf8_first)] }
def StemLowersSaid : Prop := stemLowersRow.holds Tryz.pinned (OpenSpec.ofChange stemLowersSpec)

/-- ITS FALSE NEIGHBOUR: 'it returns false'. Refute it at one input. -/
def stemLowersWrong : ChangeSpec := { name := "stemLowers", fn := fun _ => fun
  | [d] => { results := [.lit (.bool false)], args := [d] }
  | _ => none }
def StemLowersWrongFalsely : Prop := stemLowersRow.holds Tryz.pinned (OpenSpec.ofChange stemLowersWrong)

/-- 'kelirlaw05.StemLeft': WHATEVER THE INPUT: true; the input reads as it did. -/
def stemLeftSpec : ChangeSpec := { name := "stemLeft", fn := fun _ => fun
  | [d1, d2, d3] => { results := [.lit (.bool true)], args := [d1, d2, d3] }
  | _ => none }
def stemLeftRow : OpenClaim := { program := "ytfmpabgblbbcdaagreatdoor", sum := "d2d35cbc5621ebeae1e6f33e1d9a170ea251b1f91367483adb73bffccf2a2907", func := "kelir/kelirlaw05.StemLeft", spec := "stemLeft", inPlace := ["slices.overlaps[int]", "internal/bytealg.CountString", "internal/bytealg.IndexByteString", "internal/bytealg.IndexString", "internal/abi.NoEscape", "internal/bytealg.MakeNoZero"], unfollowed := true, recurses := true, named := ["unicode/utf8.first", "unicode/utf8.acceptRanges", "internal/bytealg.MaxLen", "internal/strconv.uint64pow10", "math/bits.deBruijn32tab", "math/bits.deBruijn64tab"], apart := false, laid := [("math/bits.deBruijn32tab", laid_math_bits_deBruijn32tab), ("math/bits.deBruijn64tab", laid_math_bits_deBruijn64tab), ("internal/strconv.uint64pow10", laid_internal_strconv_uint64pow10), ("unicode/utf8.acceptRanges", laid_unicode_utf8_acceptRanges), ("unicode/utf8.first", laid_unicode_utf8_first)] }
def StemLeftSaid : Prop := stemLeftRow.holds Tryz.pinned (OpenSpec.ofChange stemLeftSpec)

/-- ITS FALSE NEIGHBOUR: 'it returns false'. Refute it at one input. -/
def stemLeftWrong : ChangeSpec := { name := "stemLeft", fn := fun _ => fun
  | [d1, d2, d3] => { results := [.lit (.bool false)], args := [d1, d2, d3] }
  | _ => none }
def StemLeftWrongFalsely : Prop := stemLeftRow.holds Tryz.pinned (OpenSpec.ofChange stemLeftWrong)

/-- 'kelirlaw05.StemCounts': WHATEVER THE INPUT: true; the input reads as it did. -/
def stemCountsSpec : ChangeSpec := { name := "stemCounts", fn := fun _ => fun
  | [d1, d2, d3] => { results := [.lit (.bool true)], args := [d1, d2, d3] }
  | _ => none }
def stemCountsRow : OpenClaim := { program := "ytfmpabgblbbcdaagreatdoor", sum := "d2d35cbc5621ebeae1e6f33e1d9a170ea251b1f91367483adb73bffccf2a2907", func := "kelir/kelirlaw05.StemCounts", spec := "stemCounts", inPlace := ["slices.overlaps[int]", "internal/bytealg.CountString", "internal/bytealg.IndexByteString", "internal/bytealg.IndexString", "internal/abi.NoEscape", "internal/bytealg.MakeNoZero"], unfollowed := true, recurses := true, named := ["unicode/utf8.first", "unicode/utf8.acceptRanges", "internal/bytealg.MaxLen", "internal/strconv.uint64pow10", "math/bits.deBruijn32tab", "math/bits.deBruijn64tab"], apart := false, laid := [("math/bits.deBruijn32tab", laid_math_bits_deBruijn32tab), ("math/bits.deBruijn64tab", laid_math_bits_deBruijn64tab), ("internal/strconv.uint64pow10", laid_internal_strconv_uint64pow10), ("unicode/utf8.acceptRanges", laid_unicode_utf8_acceptRanges), ("unicode/utf8.first", laid_unicode_utf8_first)] }
def StemCountsSaid : Prop := stemCountsRow.holds Tryz.pinned (OpenSpec.ofChange stemCountsSpec)

/-- ITS FALSE NEIGHBOUR: 'it returns false'. Refute it at one input. -/
def stemCountsWrong : ChangeSpec := { name := "stemCounts", fn := fun _ => fun
  | [d1, d2, d3] => { results := [.lit (.bool false)], args := [d1, d2, d3] }
  | _ => none }
def StemCountsWrongFalsely : Prop := stemCountsRow.holds Tryz.pinned (OpenSpec.ofChange stemCountsWrong)

/-- 'kelirlaw05.StemAdded': WHATEVER THE INPUT: true; the input reads as it did. -/
def stemAddedSpec : ChangeSpec := { name := "stemAdded", fn := fun _ => fun
  | [d1, d2, d3, d4] => { results := [.lit (.bool true)], args := [d1, d2, d3, d4] }
  | _ => none }
def stemAddedRow : OpenClaim := { program := "ytfmpabgblbbcdaagreatdoor", sum := "d2d35cbc5621ebeae1e6f33e1d9a170ea251b1f91367483adb73bffccf2a2907", func := "kelir/kelirlaw05.StemAdded", spec := "stemAdded", inPlace := ["slices.overlaps[int]", "internal/bytealg.CountString", "internal/bytealg.IndexByteString", "internal/bytealg.IndexString", "internal/abi.NoEscape", "internal/bytealg.MakeNoZero"], unfollowed := true, recurses := true, named := ["unicode/utf8.first", "unicode/utf8.acceptRanges", "internal/bytealg.MaxLen", "internal/strconv.uint64pow10", "math/bits.deBruijn32tab", "math/bits.deBruijn64tab"], apart := false, laid := [("math/bits.deBruijn32tab", laid_math_bits_deBruijn32tab), ("math/bits.deBruijn64tab", laid_math_bits_deBruijn64tab), ("internal/strconv.uint64pow10", laid_internal_strconv_uint64pow10), ("unicode/utf8.acceptRanges", laid_unicode_utf8_acceptRanges), ("unicode/utf8.first", laid_unicode_utf8_first)] }
def StemAddedSaid : Prop := stemAddedRow.holds Tryz.pinned (OpenSpec.ofChange stemAddedSpec)

/-- ITS FALSE NEIGHBOUR: 'it returns false'. Refute it at one input. -/
def stemAddedWrong : ChangeSpec := { name := "stemAdded", fn := fun _ => fun
  | [d1, d2, d3, d4] => { results := [.lit (.bool false)], args := [d1, d2, d3, d4] }
  | _ => none }
def StemAddedWrongFalsely : Prop := stemAddedRow.holds Tryz.pinned (OpenSpec.ofChange stemAddedWrong)

/-- 'kelirlaw05.StemPrints': WHATEVER THE INPUT: true; the input reads as it did. -/
def stemPrintsSpec : ChangeSpec := { name := "stemPrints", fn := fun _ => fun
  | [d] => { results := [.lit (.bool true)], args := [d] }
  | _ => none }
def stemPrintsRow : OpenClaim := { program := "ytfmpabgblbbcdaagreatdoor", sum := "d2d35cbc5621ebeae1e6f33e1d9a170ea251b1f91367483adb73bffccf2a2907", func := "kelir/kelirlaw05.StemPrints", spec := "stemPrints", inPlace := ["slices.overlaps[int]", "internal/bytealg.CountString", "internal/bytealg.IndexByteString", "internal/bytealg.IndexString", "internal/abi.NoEscape", "internal/bytealg.MakeNoZero"], unfollowed := true, recurses := true, named := ["unicode/utf8.first", "unicode/utf8.acceptRanges", "internal/bytealg.MaxLen", "internal/strconv.uint64pow10", "math/bits.deBruijn32tab", "math/bits.deBruijn64tab"], apart := false, laid := [("math/bits.deBruijn32tab", laid_math_bits_deBruijn32tab), ("math/bits.deBruijn64tab", laid_math_bits_deBruijn64tab), ("internal/strconv.uint64pow10", laid_internal_strconv_uint64pow10), ("unicode/utf8.acceptRanges", laid_unicode_utf8_acceptRanges), ("unicode/utf8.first", laid_unicode_utf8_first)] }
def StemPrintsSaid : Prop := stemPrintsRow.holds Tryz.pinned (OpenSpec.ofChange stemPrintsSpec)

/-- ITS FALSE NEIGHBOUR: 'it returns false'. Refute it at one input. -/
def stemPrintsWrong : ChangeSpec := { name := "stemPrints", fn := fun _ => fun
  | [d] => { results := [.lit (.bool false)], args := [d] }
  | _ => none }
def StemPrintsWrongFalsely : Prop := stemPrintsRow.holds Tryz.pinned (OpenSpec.ofChange stemPrintsWrong)

/-- 'kelirlaw05.StemReads': WHATEVER THE INPUT: true; the input reads as it did. -/
def stemReadsSpec : ChangeSpec := { name := "stemReads", fn := fun _ => fun
  | [d] => { results := [.lit (.bool true)], args := [d] }
  | _ => none }
def stemReadsRow : OpenClaim := { program := "ytfmpabgblbbcdaagreatdoor", sum := "d2d35cbc5621ebeae1e6f33e1d9a170ea251b1f91367483adb73bffccf2a2907", func := "kelir/kelirlaw05.StemReads", spec := "stemReads", inPlace := ["slices.overlaps[int]", "internal/bytealg.CountString", "internal/bytealg.IndexByteString", "internal/bytealg.IndexString", "internal/abi.NoEscape", "internal/bytealg.MakeNoZero"], unfollowed := true, recurses := true, named := ["unicode/utf8.first", "unicode/utf8.acceptRanges", "internal/bytealg.MaxLen", "internal/strconv.uint64pow10", "math/bits.deBruijn32tab", "math/bits.deBruijn64tab"], apart := false, laid := [("math/bits.deBruijn32tab", laid_math_bits_deBruijn32tab), ("math/bits.deBruijn64tab", laid_math_bits_deBruijn64tab), ("internal/strconv.uint64pow10", laid_internal_strconv_uint64pow10), ("unicode/utf8.acceptRanges", laid_unicode_utf8_acceptRanges), ("unicode/utf8.first", laid_unicode_utf8_first)] }
def StemReadsSaid : Prop := stemReadsRow.holds Tryz.pinned (OpenSpec.ofChange stemReadsSpec)

/-- ITS FALSE NEIGHBOUR: 'it returns false'. Refute it at one input. -/
def stemReadsWrong : ChangeSpec := { name := "stemReads", fn := fun _ => fun
  | [d] => { results := [.lit (.bool false)], args := [d] }
  | _ => none }
def StemReadsWrongFalsely : Prop := stemReadsRow.holds Tryz.pinned (OpenSpec.ofChange stemReadsWrong)

/-- 'kelirlaw05.StemSpoilt': WHATEVER THE INPUT: true; the input reads as it did. -/
def stemSpoiltSpec : ChangeSpec := { name := "stemSpoilt", fn := fun _ => fun
  | [d1, d2, d3] => { results := [.lit (.bool true)], args := [d1, d2, d3] }
  | _ => none }
def stemSpoiltRow : OpenClaim := { program := "ytfmpabgblbbcdaagreatdoor", sum := "d2d35cbc5621ebeae1e6f33e1d9a170ea251b1f91367483adb73bffccf2a2907", func := "kelir/kelirlaw05.StemSpoilt", spec := "stemSpoilt", inPlace := ["slices.overlaps[int]", "internal/bytealg.CountString", "internal/bytealg.IndexByteString", "internal/bytealg.IndexString", "internal/abi.NoEscape", "internal/bytealg.MakeNoZero"], unfollowed := true, recurses := true, named := ["unicode/utf8.first", "unicode/utf8.acceptRanges", "internal/bytealg.MaxLen", "internal/strconv.uint64pow10", "math/bits.deBruijn32tab", "math/bits.deBruijn64tab"], apart := false, laid := [("math/bits.deBruijn32tab", laid_math_bits_deBruijn32tab), ("math/bits.deBruijn64tab", laid_math_bits_deBruijn64tab), ("internal/strconv.uint64pow10", laid_internal_strconv_uint64pow10), ("unicode/utf8.acceptRanges", laid_unicode_utf8_acceptRanges), ("unicode/utf8.first", laid_unicode_utf8_first)] }
def StemSpoiltSaid : Prop := stemSpoiltRow.holds Tryz.pinned (OpenSpec.ofChange stemSpoiltSpec)

/-- ITS FALSE NEIGHBOUR: 'it returns false'. Refute it at one input. -/
def stemSpoiltWrong : ChangeSpec := { name := "stemSpoilt", fn := fun _ => fun
  | [d1, d2, d3] => { results := [.lit (.bool false)], args := [d1, d2, d3] }
  | _ => none }
def StemSpoiltWrongFalsely : Prop := stemSpoiltRow.holds Tryz.pinned (OpenSpec.ofChange stemSpoiltWrong)

/-- 'kelirlaw05.StemNamed': WHATEVER THE INPUT: true; the input reads as it did. -/
def stemNamedSpec : ChangeSpec := { name := "stemNamed", fn := fun _ => fun
  | [d1, d2, d3] => { results := [.lit (.bool true)], args := [d1, d2, d3] }
  | _ => none }
def stemNamedRow : OpenClaim := { program := "ytfmpabgblbbcdaagreatdoor", sum := "d2d35cbc5621ebeae1e6f33e1d9a170ea251b1f91367483adb73bffccf2a2907", func := "kelir/kelirlaw05.StemNamed", spec := "stemNamed", inPlace := ["slices.overlaps[int]", "internal/bytealg.CountString", "internal/bytealg.IndexByteString", "internal/bytealg.IndexString", "internal/abi.NoEscape", "internal/bytealg.MakeNoZero"], unfollowed := true, recurses := true, named := ["unicode/utf8.first", "unicode/utf8.acceptRanges", "internal/bytealg.MaxLen", "internal/strconv.uint64pow10", "math/bits.deBruijn32tab", "math/bits.deBruijn64tab"], apart := false, laid := [("math/bits.deBruijn32tab", laid_math_bits_deBruijn32tab), ("math/bits.deBruijn64tab", laid_math_bits_deBruijn64tab), ("internal/strconv.uint64pow10", laid_internal_strconv_uint64pow10), ("unicode/utf8.acceptRanges", laid_unicode_utf8_acceptRanges), ("unicode/utf8.first", laid_unicode_utf8_first)] }
def StemNamedSaid : Prop := stemNamedRow.holds Tryz.pinned (OpenSpec.ofChange stemNamedSpec)

/-- ITS FALSE NEIGHBOUR: 'it returns false'. Refute it at one input. -/
def stemNamedWrong : ChangeSpec := { name := "stemNamed", fn := fun _ => fun
  | [d1, d2, d3] => { results := [.lit (.bool false)], args := [d1, d2, d3] }
  | _ => none }
def StemNamedWrongFalsely : Prop := stemNamedRow.holds Tryz.pinned (OpenSpec.ofChange stemNamedWrong)

/-- 'kelirlaw05.StemMore': WHATEVER THE INPUT: true; the input reads as it did. -/
def stemMoreSpec : ChangeSpec := { name := "stemMore", fn := fun _ => fun
  | [d1, d2, d3, d4, d5] => { results := [.lit (.bool true)], args := [d1, d2, d3, d4, d5] }
  | _ => none }
def stemMoreRow : OpenClaim := { program := "ytfmpabgblbbcdaagreatdoor", sum := "d2d35cbc5621ebeae1e6f33e1d9a170ea251b1f91367483adb73bffccf2a2907", func := "kelir/kelirlaw05.StemMore", spec := "stemMore", inPlace := ["slices.overlaps[int]", "internal/bytealg.CountString", "internal/bytealg.IndexByteString", "internal/bytealg.IndexString", "internal/abi.NoEscape", "internal/bytealg.MakeNoZero"], unfollowed := true, recurses := true, named := ["unicode/utf8.first", "unicode/utf8.acceptRanges", "internal/bytealg.MaxLen", "internal/strconv.uint64pow10", "math/bits.deBruijn32tab", "math/bits.deBruijn64tab"], apart := false, laid := [("math/bits.deBruijn32tab", laid_math_bits_deBruijn32tab), ("math/bits.deBruijn64tab", laid_math_bits_deBruijn64tab), ("internal/strconv.uint64pow10", laid_internal_strconv_uint64pow10), ("unicode/utf8.acceptRanges", laid_unicode_utf8_acceptRanges), ("unicode/utf8.first", laid_unicode_utf8_first)] }
def StemMoreSaid : Prop := stemMoreRow.holds Tryz.pinned (OpenSpec.ofChange stemMoreSpec)

/-- ITS FALSE NEIGHBOUR: 'it returns false'. Refute it at one input. -/
def stemMoreWrong : ChangeSpec := { name := "stemMore", fn := fun _ => fun
  | [d1, d2, d3, d4, d5] => { results := [.lit (.bool false)], args := [d1, d2, d3, d4, d5] }
  | _ => none }
def StemMoreWrongFalsely : Prop := stemMoreRow.holds Tryz.pinned (OpenSpec.ofChange stemMoreWrong)

/-- 'kelirlaw05.StemPlans': WHATEVER THE INPUT: true; the input reads as it did. -/
def stemPlansSpec : ChangeSpec := { name := "stemPlans", fn := fun _ => fun
  | [d1, d2] => { results := [.lit (.bool true)], args := [d1, d2] }
  | _ => none }
def stemPlansRow : OpenClaim := { program := "ytfmpabgblbbcdaagreatdoor", sum := "d2d35cbc5621ebeae1e6f33e1d9a170ea251b1f91367483adb73bffccf2a2907", func := "kelir/kelirlaw05.StemPlans", spec := "stemPlans", inPlace := ["slices.overlaps[int]", "internal/bytealg.CountString", "internal/bytealg.IndexByteString", "internal/bytealg.IndexString", "internal/abi.NoEscape", "internal/bytealg.MakeNoZero"], unfollowed := true, recurses := true, named := ["unicode/utf8.first", "unicode/utf8.acceptRanges", "internal/bytealg.MaxLen", "internal/strconv.uint64pow10", "math/bits.deBruijn32tab", "math/bits.deBruijn64tab"], apart := false, laid := [("math/bits.deBruijn32tab", laid_math_bits_deBruijn32tab), ("math/bits.deBruijn64tab", laid_math_bits_deBruijn64tab), ("internal/strconv.uint64pow10", laid_internal_strconv_uint64pow10), ("unicode/utf8.acceptRanges", laid_unicode_utf8_acceptRanges), ("unicode/utf8.first", laid_unicode_utf8_first)] }
def StemPlansSaid : Prop := stemPlansRow.holds Tryz.pinned (OpenSpec.ofChange stemPlansSpec)

/-- ITS FALSE NEIGHBOUR: 'it returns false'. Refute it at one input. -/
def stemPlansWrong : ChangeSpec := { name := "stemPlans", fn := fun _ => fun
  | [d1, d2] => { results := [.lit (.bool false)], args := [d1, d2] }
  | _ => none }
def StemPlansWrongFalsely : Prop := stemPlansRow.holds Tryz.pinned (OpenSpec.ofChange stemPlansWrong)

/-- 'kelirlaw05.StemFewest': WHATEVER THE INPUT: true; the input reads as it did. -/
def stemFewestSpec : ChangeSpec := { name := "stemFewest", fn := fun _ => fun
  | [d1, d2] => { results := [.lit (.bool true)], args := [d1, d2] }
  | _ => none }
def stemFewestRow : OpenClaim := { program := "ytfmpabgblbbcdaagreatdoor", sum := "d2d35cbc5621ebeae1e6f33e1d9a170ea251b1f91367483adb73bffccf2a2907", func := "kelir/kelirlaw05.StemFewest", spec := "stemFewest", inPlace := ["slices.overlaps[int]", "internal/bytealg.CountString", "internal/bytealg.IndexByteString", "internal/bytealg.IndexString", "internal/abi.NoEscape", "internal/bytealg.MakeNoZero"], unfollowed := true, recurses := true, named := ["unicode/utf8.first", "unicode/utf8.acceptRanges", "internal/bytealg.MaxLen", "internal/strconv.uint64pow10", "math/bits.deBruijn32tab", "math/bits.deBruijn64tab"], apart := false, laid := [("math/bits.deBruijn32tab", laid_math_bits_deBruijn32tab), ("math/bits.deBruijn64tab", laid_math_bits_deBruijn64tab), ("internal/strconv.uint64pow10", laid_internal_strconv_uint64pow10), ("unicode/utf8.acceptRanges", laid_unicode_utf8_acceptRanges), ("unicode/utf8.first", laid_unicode_utf8_first)] }
def StemFewestSaid : Prop := stemFewestRow.holds Tryz.pinned (OpenSpec.ofChange stemFewestSpec)

/-- ITS FALSE NEIGHBOUR: 'it returns false'. Refute it at one input. -/
def stemFewestWrong : ChangeSpec := { name := "stemFewest", fn := fun _ => fun
  | [d1, d2] => { results := [.lit (.bool false)], args := [d1, d2] }
  | _ => none }
def StemFewestWrongFalsely : Prop := stemFewestRow.holds Tryz.pinned (OpenSpec.ofChange stemFewestWrong)

/-- 'kelirlaw05.StemRests': WHATEVER THE INPUT: true; the input reads as it did. -/
def stemRestsSpec : ChangeSpec := { name := "stemRests", fn := fun _ => fun
  | [d1, d2, d3] => { results := [.lit (.bool true)], args := [d1, d2, d3] }
  | _ => none }
def stemRestsRow : OpenClaim := { program := "ytfmpabgblbbcdaagreatdoor", sum := "d2d35cbc5621ebeae1e6f33e1d9a170ea251b1f91367483adb73bffccf2a2907", func := "kelir/kelirlaw05.StemRests", spec := "stemRests", inPlace := ["slices.overlaps[int]", "internal/bytealg.CountString", "internal/bytealg.IndexByteString", "internal/bytealg.IndexString", "internal/abi.NoEscape", "internal/bytealg.MakeNoZero"], unfollowed := true, recurses := true, named := ["unicode/utf8.first", "unicode/utf8.acceptRanges", "internal/bytealg.MaxLen", "internal/strconv.uint64pow10", "math/bits.deBruijn32tab", "math/bits.deBruijn64tab"], apart := false, laid := [("math/bits.deBruijn32tab", laid_math_bits_deBruijn32tab), ("math/bits.deBruijn64tab", laid_math_bits_deBruijn64tab), ("internal/strconv.uint64pow10", laid_internal_strconv_uint64pow10), ("unicode/utf8.acceptRanges", laid_unicode_utf8_acceptRanges), ("unicode/utf8.first", laid_unicode_utf8_first)] }
def StemRestsSaid : Prop := stemRestsRow.holds Tryz.pinned (OpenSpec.ofChange stemRestsSpec)

/-- ITS FALSE NEIGHBOUR: 'it returns false'. Refute it at one input. -/
def stemRestsWrong : ChangeSpec := { name := "stemRests", fn := fun _ => fun
  | [d1, d2, d3] => { results := [.lit (.bool false)], args := [d1, d2, d3] }
  | _ => none }
def StemRestsWrongFalsely : Prop := stemRestsRow.holds Tryz.pinned (OpenSpec.ofChange stemRestsWrong)

/-- 'kelirlaw05.StemFirst': WHATEVER THE INPUT: true; the input reads as it did. -/
def stemFirstSpec : ChangeSpec := { name := "stemFirst", fn := fun _ => fun
  | [d1, d2, d3] => { results := [.lit (.bool true)], args := [d1, d2, d3] }
  | _ => none }
def stemFirstRow : OpenClaim := { program := "ytfmpabgblbbcdaagreatdoor", sum := "d2d35cbc5621ebeae1e6f33e1d9a170ea251b1f91367483adb73bffccf2a2907", func := "kelir/kelirlaw05.StemFirst", spec := "stemFirst", inPlace := ["slices.overlaps[int]", "internal/bytealg.CountString", "internal/bytealg.IndexByteString", "internal/bytealg.IndexString", "internal/abi.NoEscape", "internal/bytealg.MakeNoZero"], unfollowed := true, recurses := true, named := ["unicode/utf8.first", "unicode/utf8.acceptRanges", "internal/bytealg.MaxLen", "internal/strconv.uint64pow10", "math/bits.deBruijn32tab", "math/bits.deBruijn64tab"], apart := false, laid := [("math/bits.deBruijn32tab", laid_math_bits_deBruijn32tab), ("math/bits.deBruijn64tab", laid_math_bits_deBruijn64tab), ("internal/strconv.uint64pow10", laid_internal_strconv_uint64pow10), ("unicode/utf8.acceptRanges", laid_unicode_utf8_acceptRanges), ("unicode/utf8.first", laid_unicode_utf8_first)] }
def StemFirstSaid : Prop := stemFirstRow.holds Tryz.pinned (OpenSpec.ofChange stemFirstSpec)

/-- ITS FALSE NEIGHBOUR: 'it returns false'. Refute it at one input. -/
def stemFirstWrong : ChangeSpec := { name := "stemFirst", fn := fun _ => fun
  | [d1, d2, d3] => { results := [.lit (.bool false)], args := [d1, d2, d3] }
  | _ => none }
def StemFirstWrongFalsely : Prop := stemFirstRow.holds Tryz.pinned (OpenSpec.ofChange stemFirstWrong)

/- THE SECOND FORM. 'bulk': how many values and letters a reading holds, each counted each time it is reached (what is shared counts as often as it is met; a slice's spare places count too). A statement '..UptoSaid' is the law's where the arguments, and the package variables that the reading takes, are together of bulk at most 1048576: NARROWER than '..Said'. Prove '..Said' where nothing that the law and all that it calls make is longer than what came in: it says more and counts as full. Else prove '..UptoSaid'. A law counts once. -/
mutual
def uptoBulk {H : Type} : DataW H → Nat
  | .lit (.string bytes) => bytes.length + 1
  | .lit _ => 1
  | .nil => 1
  | .ptr d => uptoBulk d + 1
  | .slice elems spare => uptoBulkAll elems + uptoBulkAll spare + 1
  | .agg parts => uptoBulkAll parts + 1
  | .iface _ d => uptoBulk d + 1
  | .map entries => uptoBulkEntries entries + 1
  | .held _ => 1
def uptoBulkAll {H : Type} : List (DataW H) → Nat
  | [] => 0
  | d :: r => uptoBulk d + uptoBulkAll r
def uptoBulkEntries {H : Type} : List (Lit × DataW H) → Nat
  | [] => 0
  | x :: r => uptoBulkEntry x + uptoBulkEntries r
def uptoBulkEntry {H : Type} : Lit × DataW H → Nat
  | (.string bytes, d) => bytes.length + uptoBulk d + 1
  | (_, d) => uptoBulk d + 1
 end
def uptoSmall : (H : Type) → List (DataW H) → Bool := fun _ ds => decide (uptoBulkAll ds ≤ 1048576)
def OpenSpec.upto (s : _root_.Go.ChangeSpec) : _root_.Go.OpenSpec := { _root_.Go.OpenSpec.ofChange s with cond := some uptoSmall }

/-- 'kelirlaw05.StemFails', WHERE WHAT IT READS IS OF BULK AT MOST 1048576: true; the input reads as it did. -/
def stemFailsUptoRow : OpenClaim := { program := "ytfmpabgblbbcdaagreatdoor", sum := "d2d35cbc5621ebeae1e6f33e1d9a170ea251b1f91367483adb73bffccf2a2907", func := "kelir/kelirlaw05.StemFails", spec := "stemFails", inPlace := ["slices.overlaps[int]", "internal/bytealg.CountString", "internal/bytealg.IndexByteString", "internal/bytealg.IndexString", "internal/abi.NoEscape", "internal/bytealg.MakeNoZero"], unfollowed := true, recurses := true, named := ["unicode/utf8.first", "unicode/utf8.acceptRanges", "internal/bytealg.MaxLen", "internal/strconv.uint64pow10", "math/bits.deBruijn32tab", "math/bits.deBruijn64tab"], apart := false, laid := [("math/bits.deBruijn32tab", laid_math_bits_deBruijn32tab), ("math/bits.deBruijn64tab", laid_math_bits_deBruijn64tab), ("internal/strconv.uint64pow10", laid_internal_strconv_uint64pow10), ("unicode/utf8.acceptRanges", laid_unicode_utf8_acceptRanges), ("unicode/utf8.first", laid_unicode_utf8_first)], narrowed := true }
def StemFailsUptoSaid : Prop := stemFailsUptoRow.holds Tryz.pinned (OpenSpec.upto stemFailsSpec)

/-- 'kelirlaw05.StemWheres', WHERE WHAT IT READS IS OF BULK AT MOST 1048576: true; the input reads as it did. -/
def stemWheresUptoRow : OpenClaim := { program := "ytfmpabgblbbcdaagreatdoor", sum := "d2d35cbc5621ebeae1e6f33e1d9a170ea251b1f91367483adb73bffccf2a2907", func := "kelir/kelirlaw05.StemWheres", spec := "stemWheres", inPlace := ["slices.overlaps[int]", "internal/bytealg.CountString", "internal/bytealg.IndexByteString", "internal/bytealg.IndexString", "internal/abi.NoEscape", "internal/bytealg.MakeNoZero"], unfollowed := true, recurses := true, named := ["unicode/utf8.first", "unicode/utf8.acceptRanges", "internal/bytealg.MaxLen", "internal/strconv.uint64pow10", "math/bits.deBruijn32tab", "math/bits.deBruijn64tab"], apart := false, laid := [("math/bits.deBruijn32tab", laid_math_bits_deBruijn32tab), ("math/bits.deBruijn64tab", laid_math_bits_deBruijn64tab), ("internal/strconv.uint64pow10", laid_internal_strconv_uint64pow10), ("unicode/utf8.acceptRanges", laid_unicode_utf8_acceptRanges), ("unicode/utf8.first", laid_unicode_utf8_first)], narrowed := true }
def StemWheresUptoSaid : Prop := stemWheresUptoRow.holds Tryz.pinned (OpenSpec.upto stemWheresSpec)

/-- 'kelirlaw05.StemAdds', WHERE WHAT IT READS IS OF BULK AT MOST 1048576: true; the input reads as it did. -/
def stemAddsUptoRow : OpenClaim := { program := "ytfmpabgblbbcdaagreatdoor", sum := "d2d35cbc5621ebeae1e6f33e1d9a170ea251b1f91367483adb73bffccf2a2907", func := "kelir/kelirlaw05.StemAdds", spec := "stemAdds", inPlace := ["slices.overlaps[int]", "internal/bytealg.CountString", "internal/bytealg.IndexByteString", "internal/bytealg.IndexString", "internal/abi.NoEscape", "internal/bytealg.MakeNoZero"], unfollowed := true, recurses := true, named := ["unicode/utf8.first", "unicode/utf8.acceptRanges", "internal/bytealg.MaxLen", "internal/strconv.uint64pow10", "math/bits.deBruijn32tab", "math/bits.deBruijn64tab"], apart := false, laid := [("math/bits.deBruijn32tab", laid_math_bits_deBruijn32tab), ("math/bits.deBruijn64tab", laid_math_bits_deBruijn64tab), ("internal/strconv.uint64pow10", laid_internal_strconv_uint64pow10), ("unicode/utf8.acceptRanges", laid_unicode_utf8_acceptRanges), ("unicode/utf8.first", laid_unicode_utf8_first)], narrowed := true }
def StemAddsUptoSaid : Prop := stemAddsUptoRow.holds Tryz.pinned (OpenSpec.upto stemAddsSpec)

/-- 'kelirlaw05.StemLowers', WHERE WHAT IT READS IS OF BULK AT MOST 1048576: true; the input reads as it did. -/
def stemLowersUptoRow : OpenClaim := { program := "ytfmpabgblbbcdaagreatdoor", sum := "d2d35cbc5621ebeae1e6f33e1d9a170ea251b1f91367483adb73bffccf2a2907", func := "kelir/kelirlaw05.StemLowers", spec := "stemLowers", inPlace := ["slices.overlaps[int]", "internal/bytealg.CountString", "internal/bytealg.IndexByteString", "internal/bytealg.IndexString", "internal/abi.NoEscape", "internal/bytealg.MakeNoZero"], unfollowed := true, recurses := true, named := ["unicode/utf8.first", "unicode/utf8.acceptRanges", "internal/bytealg.MaxLen", "internal/strconv.uint64pow10", "math/bits.deBruijn32tab", "math/bits.deBruijn64tab"], apart := false, laid := [("math/bits.deBruijn32tab", laid_math_bits_deBruijn32tab), ("math/bits.deBruijn64tab", laid_math_bits_deBruijn64tab), ("internal/strconv.uint64pow10", laid_internal_strconv_uint64pow10), ("unicode/utf8.acceptRanges", laid_unicode_utf8_acceptRanges), ("unicode/utf8.first", laid_unicode_utf8_first)], narrowed := true }
def StemLowersUptoSaid : Prop := stemLowersUptoRow.holds Tryz.pinned (OpenSpec.upto stemLowersSpec)

/-- 'kelirlaw05.StemLeft', WHERE WHAT IT READS IS OF BULK AT MOST 1048576: true; the input reads as it did. -/
def stemLeftUptoRow : OpenClaim := { program := "ytfmpabgblbbcdaagreatdoor", sum := "d2d35cbc5621ebeae1e6f33e1d9a170ea251b1f91367483adb73bffccf2a2907", func := "kelir/kelirlaw05.StemLeft", spec := "stemLeft", inPlace := ["slices.overlaps[int]", "internal/bytealg.CountString", "internal/bytealg.IndexByteString", "internal/bytealg.IndexString", "internal/abi.NoEscape", "internal/bytealg.MakeNoZero"], unfollowed := true, recurses := true, named := ["unicode/utf8.first", "unicode/utf8.acceptRanges", "internal/bytealg.MaxLen", "internal/strconv.uint64pow10", "math/bits.deBruijn32tab", "math/bits.deBruijn64tab"], apart := false, laid := [("math/bits.deBruijn32tab", laid_math_bits_deBruijn32tab), ("math/bits.deBruijn64tab", laid_math_bits_deBruijn64tab), ("internal/strconv.uint64pow10", laid_internal_strconv_uint64pow10), ("unicode/utf8.acceptRanges", laid_unicode_utf8_acceptRanges), ("unicode/utf8.first", laid_unicode_utf8_first)], narrowed := true }
def StemLeftUptoSaid : Prop := stemLeftUptoRow.holds Tryz.pinned (OpenSpec.upto stemLeftSpec)

/-- 'kelirlaw05.StemCounts', WHERE WHAT IT READS IS OF BULK AT MOST 1048576: true; the input reads as it did. -/
def stemCountsUptoRow : OpenClaim := { program := "ytfmpabgblbbcdaagreatdoor", sum := "d2d35cbc5621ebeae1e6f33e1d9a170ea251b1f91367483adb73bffccf2a2907", func := "kelir/kelirlaw05.StemCounts", spec := "stemCounts", inPlace := ["slices.overlaps[int]", "internal/bytealg.CountString", "internal/bytealg.IndexByteString", "internal/bytealg.IndexString", "internal/abi.NoEscape", "internal/bytealg.MakeNoZero"], unfollowed := true, recurses := true, named := ["unicode/utf8.first", "unicode/utf8.acceptRanges", "internal/bytealg.MaxLen", "internal/strconv.uint64pow10", "math/bits.deBruijn32tab", "math/bits.deBruijn64tab"], apart := false, laid := [("math/bits.deBruijn32tab", laid_math_bits_deBruijn32tab), ("math/bits.deBruijn64tab", laid_math_bits_deBruijn64tab), ("internal/strconv.uint64pow10", laid_internal_strconv_uint64pow10), ("unicode/utf8.acceptRanges", laid_unicode_utf8_acceptRanges), ("unicode/utf8.first", laid_unicode_utf8_first)], narrowed := true }
def StemCountsUptoSaid : Prop := stemCountsUptoRow.holds Tryz.pinned (OpenSpec.upto stemCountsSpec)

/-- 'kelirlaw05.StemAdded', WHERE WHAT IT READS IS OF BULK AT MOST 1048576: true; the input reads as it did. -/
def stemAddedUptoRow : OpenClaim := { program := "ytfmpabgblbbcdaagreatdoor", sum := "d2d35cbc5621ebeae1e6f33e1d9a170ea251b1f91367483adb73bffccf2a2907", func := "kelir/kelirlaw05.StemAdded", spec := "stemAdded", inPlace := ["slices.overlaps[int]", "internal/bytealg.CountString", "internal/bytealg.IndexByteString", "internal/bytealg.IndexString", "internal/abi.NoEscape", "internal/bytealg.MakeNoZero"], unfollowed := true, recurses := true, named := ["unicode/utf8.first", "unicode/utf8.acceptRanges", "internal/bytealg.MaxLen", "internal/strconv.uint64pow10", "math/bits.deBruijn32tab", "math/bits.deBruijn64tab"], apart := false, laid := [("math/bits.deBruijn32tab", laid_math_bits_deBruijn32tab), ("math/bits.deBruijn64tab", laid_math_bits_deBruijn64tab), ("internal/strconv.uint64pow10", laid_internal_strconv_uint64pow10), ("unicode/utf8.acceptRanges", laid_unicode_utf8_acceptRanges), ("unicode/utf8.first", laid_unicode_utf8_first)], narrowed := true }
def StemAddedUptoSaid : Prop := stemAddedUptoRow.holds Tryz.pinned (OpenSpec.upto stemAddedSpec)

/-- 'kelirlaw05.StemPrints', WHERE WHAT IT READS IS OF BULK AT MOST 1048576: true; the input reads as it did. -/
def stemPrintsUptoRow : OpenClaim := { program := "ytfmpabgblbbcdaagreatdoor", sum := "d2d35cbc5621ebeae1e6f33e1d9a170ea251b1f91367483adb73bffccf2a2907", func := "kelir/kelirlaw05.StemPrints", spec := "stemPrints", inPlace := ["slices.overlaps[int]", "internal/bytealg.CountString", "internal/bytealg.IndexByteString", "internal/bytealg.IndexString", "internal/abi.NoEscape", "internal/bytealg.MakeNoZero"], unfollowed := true, recurses := true, named := ["unicode/utf8.first", "unicode/utf8.acceptRanges", "internal/bytealg.MaxLen", "internal/strconv.uint64pow10", "math/bits.deBruijn32tab", "math/bits.deBruijn64tab"], apart := false, laid := [("math/bits.deBruijn32tab", laid_math_bits_deBruijn32tab), ("math/bits.deBruijn64tab", laid_math_bits_deBruijn64tab), ("internal/strconv.uint64pow10", laid_internal_strconv_uint64pow10), ("unicode/utf8.acceptRanges", laid_unicode_utf8_acceptRanges), ("unicode/utf8.first", laid_unicode_utf8_first)], narrowed := true }
def StemPrintsUptoSaid : Prop := stemPrintsUptoRow.holds Tryz.pinned (OpenSpec.upto stemPrintsSpec)

/-- 'kelirlaw05.StemReads', WHERE WHAT IT READS IS OF BULK AT MOST 1048576: true; the input reads as it did. -/
def stemReadsUptoRow : OpenClaim := { program := "ytfmpabgblbbcdaagreatdoor", sum := "d2d35cbc5621ebeae1e6f33e1d9a170ea251b1f91367483adb73bffccf2a2907", func := "kelir/kelirlaw05.StemReads", spec := "stemReads", inPlace := ["slices.overlaps[int]", "internal/bytealg.CountString", "internal/bytealg.IndexByteString", "internal/bytealg.IndexString", "internal/abi.NoEscape", "internal/bytealg.MakeNoZero"], unfollowed := true, recurses := true, named := ["unicode/utf8.first", "unicode/utf8.acceptRanges", "internal/bytealg.MaxLen", "internal/strconv.uint64pow10", "math/bits.deBruijn32tab", "math/bits.deBruijn64tab"], apart := false, laid := [("math/bits.deBruijn32tab", laid_math_bits_deBruijn32tab), ("math/bits.deBruijn64tab", laid_math_bits_deBruijn64tab), ("internal/strconv.uint64pow10", laid_internal_strconv_uint64pow10), ("unicode/utf8.acceptRanges", laid_unicode_utf8_acceptRanges), ("unicode/utf8.first", laid_unicode_utf8_first)], narrowed := true }
def StemReadsUptoSaid : Prop := stemReadsUptoRow.holds Tryz.pinned (OpenSpec.upto stemReadsSpec)

/-- 'kelirlaw05.StemSpoilt', WHERE WHAT IT READS IS OF BULK AT MOST 1048576: true; the input reads as it did. -/
def stemSpoiltUptoRow : OpenClaim := { program := "ytfmpabgblbbcdaagreatdoor", sum := "d2d35cbc5621ebeae1e6f33e1d9a170ea251b1f91367483adb73bffccf2a2907", func := "kelir/kelirlaw05.StemSpoilt", spec := "stemSpoilt", inPlace := ["slices.overlaps[int]", "internal/bytealg.CountString", "internal/bytealg.IndexByteString", "internal/bytealg.IndexString", "internal/abi.NoEscape", "internal/bytealg.MakeNoZero"], unfollowed := true, recurses := true, named := ["unicode/utf8.first", "unicode/utf8.acceptRanges", "internal/bytealg.MaxLen", "internal/strconv.uint64pow10", "math/bits.deBruijn32tab", "math/bits.deBruijn64tab"], apart := false, laid := [("math/bits.deBruijn32tab", laid_math_bits_deBruijn32tab), ("math/bits.deBruijn64tab", laid_math_bits_deBruijn64tab), ("internal/strconv.uint64pow10", laid_internal_strconv_uint64pow10), ("unicode/utf8.acceptRanges", laid_unicode_utf8_acceptRanges), ("unicode/utf8.first", laid_unicode_utf8_first)], narrowed := true }
def StemSpoiltUptoSaid : Prop := stemSpoiltUptoRow.holds Tryz.pinned (OpenSpec.upto stemSpoiltSpec)

/-- 'kelirlaw05.StemNamed', WHERE WHAT IT READS IS OF BULK AT MOST 1048576: true; the input reads as it did. -/
def stemNamedUptoRow : OpenClaim := { program := "ytfmpabgblbbcdaagreatdoor", sum := "d2d35cbc5621ebeae1e6f33e1d9a170ea251b1f91367483adb73bffccf2a2907", func := "kelir/kelirlaw05.StemNamed", spec := "stemNamed", inPlace := ["slices.overlaps[int]", "internal/bytealg.CountString", "internal/bytealg.IndexByteString", "internal/bytealg.IndexString", "internal/abi.NoEscape", "internal/bytealg.MakeNoZero"], unfollowed := true, recurses := true, named := ["unicode/utf8.first", "unicode/utf8.acceptRanges", "internal/bytealg.MaxLen", "internal/strconv.uint64pow10", "math/bits.deBruijn32tab", "math/bits.deBruijn64tab"], apart := false, laid := [("math/bits.deBruijn32tab", laid_math_bits_deBruijn32tab), ("math/bits.deBruijn64tab", laid_math_bits_deBruijn64tab), ("internal/strconv.uint64pow10", laid_internal_strconv_uint64pow10), ("unicode/utf8.acceptRanges", laid_unicode_utf8_acceptRanges), ("unicode/utf8.first", laid_unicode_utf8_first)], narrowed := true }
def StemNamedUptoSaid : Prop := stemNamedUptoRow.holds Tryz.pinned (OpenSpec.upto stemNamedSpec)

/-- 'kelirlaw05.StemMore', WHERE WHAT IT READS IS OF BULK AT MOST 1048576: true; the input reads as it did. -/
def stemMoreUptoRow : OpenClaim := { program := "ytfmpabgblbbcdaagreatdoor", sum := "d2d35cbc5621ebeae1e6f33e1d9a170ea251b1f91367483adb73bffccf2a2907", func := "kelir/kelirlaw05.StemMore", spec := "stemMore", inPlace := ["slices.overlaps[int]", "internal/bytealg.CountString", "internal/bytealg.IndexByteString", "internal/bytealg.IndexString", "internal/abi.NoEscape", "internal/bytealg.MakeNoZero"], unfollowed := true, recurses := true, named := ["unicode/utf8.first", "unicode/utf8.acceptRanges", "internal/bytealg.MaxLen", "internal/strconv.uint64pow10", "math/bits.deBruijn32tab", "math/bits.deBruijn64tab"], apart := false, laid := [("math/bits.deBruijn32tab", laid_math_bits_deBruijn32tab), ("math/bits.deBruijn64tab", laid_math_bits_deBruijn64tab), ("internal/strconv.uint64pow10", laid_internal_strconv_uint64pow10), ("unicode/utf8.acceptRanges", laid_unicode_utf8_acceptRanges), ("unicode/utf8.first", laid_unicode_utf8_first)], narrowed := true }
def StemMoreUptoSaid : Prop := stemMoreUptoRow.holds Tryz.pinned (OpenSpec.upto stemMoreSpec)

/-- 'kelirlaw05.StemPlans', WHERE WHAT IT READS IS OF BULK AT MOST 1048576: true; the input reads as it did. -/
def stemPlansUptoRow : OpenClaim := { program := "ytfmpabgblbbcdaagreatdoor", sum := "d2d35cbc5621ebeae1e6f33e1d9a170ea251b1f91367483adb73bffccf2a2907", func := "kelir/kelirlaw05.StemPlans", spec := "stemPlans", inPlace := ["slices.overlaps[int]", "internal/bytealg.CountString", "internal/bytealg.IndexByteString", "internal/bytealg.IndexString", "internal/abi.NoEscape", "internal/bytealg.MakeNoZero"], unfollowed := true, recurses := true, named := ["unicode/utf8.first", "unicode/utf8.acceptRanges", "internal/bytealg.MaxLen", "internal/strconv.uint64pow10", "math/bits.deBruijn32tab", "math/bits.deBruijn64tab"], apart := false, laid := [("math/bits.deBruijn32tab", laid_math_bits_deBruijn32tab), ("math/bits.deBruijn64tab", laid_math_bits_deBruijn64tab), ("internal/strconv.uint64pow10", laid_internal_strconv_uint64pow10), ("unicode/utf8.acceptRanges", laid_unicode_utf8_acceptRanges), ("unicode/utf8.first", laid_unicode_utf8_first)], narrowed := true }
def StemPlansUptoSaid : Prop := stemPlansUptoRow.holds Tryz.pinned (OpenSpec.upto stemPlansSpec)

/-- 'kelirlaw05.StemFewest', WHERE WHAT IT READS IS OF BULK AT MOST 1048576: true; the input reads as it did. -/
def stemFewestUptoRow : OpenClaim := { program := "ytfmpabgblbbcdaagreatdoor", sum := "d2d35cbc5621ebeae1e6f33e1d9a170ea251b1f91367483adb73bffccf2a2907", func := "kelir/kelirlaw05.StemFewest", spec := "stemFewest", inPlace := ["slices.overlaps[int]", "internal/bytealg.CountString", "internal/bytealg.IndexByteString", "internal/bytealg.IndexString", "internal/abi.NoEscape", "internal/bytealg.MakeNoZero"], unfollowed := true, recurses := true, named := ["unicode/utf8.first", "unicode/utf8.acceptRanges", "internal/bytealg.MaxLen", "internal/strconv.uint64pow10", "math/bits.deBruijn32tab", "math/bits.deBruijn64tab"], apart := false, laid := [("math/bits.deBruijn32tab", laid_math_bits_deBruijn32tab), ("math/bits.deBruijn64tab", laid_math_bits_deBruijn64tab), ("internal/strconv.uint64pow10", laid_internal_strconv_uint64pow10), ("unicode/utf8.acceptRanges", laid_unicode_utf8_acceptRanges), ("unicode/utf8.first", laid_unicode_utf8_first)], narrowed := true }
def StemFewestUptoSaid : Prop := stemFewestUptoRow.holds Tryz.pinned (OpenSpec.upto stemFewestSpec)

/-- 'kelirlaw05.StemRests', WHERE WHAT IT READS IS OF BULK AT MOST 1048576: true; the input reads as it did. -/
def stemRestsUptoRow : OpenClaim := { program := "ytfmpabgblbbcdaagreatdoor", sum := "d2d35cbc5621ebeae1e6f33e1d9a170ea251b1f91367483adb73bffccf2a2907", func := "kelir/kelirlaw05.StemRests", spec := "stemRests", inPlace := ["slices.overlaps[int]", "internal/bytealg.CountString", "internal/bytealg.IndexByteString", "internal/bytealg.IndexString", "internal/abi.NoEscape", "internal/bytealg.MakeNoZero"], unfollowed := true, recurses := true, named := ["unicode/utf8.first", "unicode/utf8.acceptRanges", "internal/bytealg.MaxLen", "internal/strconv.uint64pow10", "math/bits.deBruijn32tab", "math/bits.deBruijn64tab"], apart := false, laid := [("math/bits.deBruijn32tab", laid_math_bits_deBruijn32tab), ("math/bits.deBruijn64tab", laid_math_bits_deBruijn64tab), ("internal/strconv.uint64pow10", laid_internal_strconv_uint64pow10), ("unicode/utf8.acceptRanges", laid_unicode_utf8_acceptRanges), ("unicode/utf8.first", laid_unicode_utf8_first)], narrowed := true }
def StemRestsUptoSaid : Prop := stemRestsUptoRow.holds Tryz.pinned (OpenSpec.upto stemRestsSpec)

/-- 'kelirlaw05.StemFirst', WHERE WHAT IT READS IS OF BULK AT MOST 1048576: true; the input reads as it did. -/
def stemFirstUptoRow : OpenClaim := { program := "ytfmpabgblbbcdaagreatdoor", sum := "d2d35cbc5621ebeae1e6f33e1d9a170ea251b1f91367483adb73bffccf2a2907", func := "kelir/kelirlaw05.StemFirst", spec := "stemFirst", inPlace := ["slices.overlaps[int]", "internal/bytealg.CountString", "internal/bytealg.IndexByteString", "internal/bytealg.IndexString", "internal/abi.NoEscape", "internal/bytealg.MakeNoZero"], unfollowed := true, recurses := true, named := ["unicode/utf8.first", "unicode/utf8.acceptRanges", "internal/bytealg.MaxLen", "internal/strconv.uint64pow10", "math/bits.deBruijn32tab", "math/bits.deBruijn64tab"], apart := false, laid := [("math/bits.deBruijn32tab", laid_math_bits_deBruijn32tab), ("math/bits.deBruijn64tab", laid_math_bits_deBruijn64tab), ("internal/strconv.uint64pow10", laid_internal_strconv_uint64pow10), ("unicode/utf8.acceptRanges", laid_unicode_utf8_acceptRanges), ("unicode/utf8.first", laid_unicode_utf8_first)], narrowed := true }
def StemFirstUptoSaid : Prop := stemFirstUptoRow.holds Tryz.pinned (OpenSpec.upto stemFirstSpec)

end Rows
end Go.Proofs.YtfmpabgblbbcdaaGreatDoor
