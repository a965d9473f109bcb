/-
  NARROWER THAN 'FOR EVERY INPUT', by the rows' own cells (each row's printed sentence says how): NightChoices: laid · NightTimes: laid · NightEnds: laid · NightPlayed: laid · NightFails: laid · NightPrints: laid · NightReads: laid · NightSpoilt: laid · NightMore: laid · NightWithin: laid · NightBest: laid · NightProof: laid · NightSures: laid · NightLongers: laid · NightEnough: laid · NightFits: laid · NightStars: laid.
  DERIVED. THE GIVEN ROWS OF THIS SEAT. 17 by the template 'for every input the law returns true; each argument reads behind the call as it read before'; 0 by the template 'total and deterministic' (their statements: YtjghdbdiejaacaaGreatDoorTotals.lean).
  GIVEN WITH THE SEED: the statements are not yours to turn. If you find one false, say at which input.
  Laid BY PROGRAM, IN A SANDBOX (cutbox-rows.mjs): the forced cells as the released guide's own fill.sh prints them over the translation 2a4c4ba0cdff2d82… (all of the seat's roots in one cut). By AI agents, Wed Nov 11 2026. No macro, syntax, notation, axiom, sorry.
-/
import Derived.Test.YtjghdbdiejaacaaGreatDoorChecked
import GoSem.PinnedTables
import GoSem.Claim
import GoSem.ClaimJoined
import GoSem.ClaimMapViews
import Derived.JoinedTies
import Derived.KernelRfl
namespace Go.Proofs.YtjghdbdiejaacaaGreatDoor
/- THE CELL 'sum', in the pinned program and in every row, IS THE sha256 OF THE DUMP (.gsa) THAT YtjghdbdiejaacaaGreatDoorProg.lean LOADS. Nothing in Lean hashes anything: it is a label: what it is worth is what the hold of that sum in a sandbox is worth. -/
noncomputable def Tryz.pinned : Pinned := { name := "ytjghdbdiejaacaagreatdoor", sum := "2a4c4ba0cdff2d82ed8ca6307adc1cc7fa508a4d042b12d3df8abf067120dd14", checked := Tryz.checked }
namespace Rows
def none {H : Type} : Left H := { results := [], args := [] }

/- WHAT THE LISTED PACKAGE-LEVEL VARIABLES READ AS WHEN THE CALL BEGINS. Each datum BY PROGRAM (the guide's laid-datum.mjs) off the statement by which the dump's own 'gosem.cut.vars' lays the variable. In a bare row this is a premise. The card (YtjghdbdiejaacaaGreatDoorCards.lean) ties it to the program's text. -/
def laid_math_bits_deBruijn32tab {H : Type} : DataW H := .agg [.lit (.int .u8 0), .lit (.int .u8 1), .lit (.int .u8 28), .lit (.int .u8 2), .lit (.int .u8 29), .lit (.int .u8 14), .lit (.int .u8 24), .lit (.int .u8 3), .lit (.int .u8 30), .lit (.int .u8 22), .lit (.int .u8 20), .lit (.int .u8 15), .lit (.int .u8 25), .lit (.int .u8 17), .lit (.int .u8 4), .lit (.int .u8 8), .lit (.int .u8 31), .lit (.int .u8 27), .lit (.int .u8 13), .lit (.int .u8 23), .lit (.int .u8 21), .lit (.int .u8 19), .lit (.int .u8 16), .lit (.int .u8 7), .lit (.int .u8 26), .lit (.int .u8 12), .lit (.int .u8 18), .lit (.int .u8 6), .lit (.int .u8 11), .lit (.int .u8 5), .lit (.int .u8 10), .lit (.int .u8 9)]
def laid_math_bits_deBruijn64tab {H : Type} : DataW H := .agg [.lit (.int .u8 0), .lit (.int .u8 1), .lit (.int .u8 56), .lit (.int .u8 2), .lit (.int .u8 57), .lit (.int .u8 49), .lit (.int .u8 28), .lit (.int .u8 3), .lit (.int .u8 61), .lit (.int .u8 58), .lit (.int .u8 42), .lit (.int .u8 50), .lit (.int .u8 38), .lit (.int .u8 29), .lit (.int .u8 17), .lit (.int .u8 4), .lit (.int .u8 62), .lit (.int .u8 47), .lit (.int .u8 59), .lit (.int .u8 36), .lit (.int .u8 45), .lit (.int .u8 43), .lit (.int .u8 51), .lit (.int .u8 22), .lit (.int .u8 53), .lit (.int .u8 39), .lit (.int .u8 33), .lit (.int .u8 30), .lit (.int .u8 24), .lit (.int .u8 18), .lit (.int .u8 12), .lit (.int .u8 5), .lit (.int .u8 63), .lit (.int .u8 55), .lit (.int .u8 48), .lit (.int .u8 27), .lit (.int .u8 60), .lit (.int .u8 41), .lit (.int .u8 37), .lit (.int .u8 16), .lit (.int .u8 46), .lit (.int .u8 35), .lit (.int .u8 44), .lit (.int .u8 21), .lit (.int .u8 52), .lit (.int .u8 32), .lit (.int .u8 23), .lit (.int .u8 11), .lit (.int .u8 54), .lit (.int .u8 26), .lit (.int .u8 40), .lit (.int .u8 15), .lit (.int .u8 34), .lit (.int .u8 20), .lit (.int .u8 31), .lit (.int .u8 10), .lit (.int .u8 25), .lit (.int .u8 14), .lit (.int .u8 19), .lit (.int .u8 9), .lit (.int .u8 13), .lit (.int .u8 8), .lit (.int .u8 7), .lit (.int .u8 6)]
def laid_internal_strconv_uint64pow10 {H : Type} : DataW H := .agg [.lit (.int .u64 1), .lit (.int .u64 10), .lit (.int .u64 100), .lit (.int .u64 1000), .lit (.int .u64 10000), .lit (.int .u64 100000), .lit (.int .u64 1000000), .lit (.int .u64 10000000), .lit (.int .u64 100000000), .lit (.int .u64 1000000000), .lit (.int .u64 10000000000), .lit (.int .u64 100000000000), .lit (.int .u64 1000000000000), .lit (.int .u64 10000000000000), .lit (.int .u64 100000000000000), .lit (.int .u64 1000000000000000), .lit (.int .u64 10000000000000000), .lit (.int .u64 100000000000000000), .lit (.int .u64 1000000000000000000), .lit (.int .u64 10000000000000000000)]
def laid_unicode_utf8_acceptRanges {H : Type} : DataW H := .agg [.agg [.lit (.int .u8 128), .lit (.int .u8 191)], .agg [.lit (.int .u8 160), .lit (.int .u8 191)], .agg [.lit (.int .u8 128), .lit (.int .u8 159)], .agg [.lit (.int .u8 144), .lit (.int .u8 191)], .agg [.lit (.int .u8 128), .lit (.int .u8 143)], .agg [.lit (.int .u8 0), .lit (.int .u8 0)], .agg [.lit (.int .u8 0), .lit (.int .u8 0)], .agg [.lit (.int .u8 0), .lit (.int .u8 0)], .agg [.lit (.int .u8 0), .lit (.int .u8 0)], .agg [.lit (.int .u8 0), .lit (.int .u8 0)], .agg [.lit (.int .u8 0), .lit (.int .u8 0)], .agg [.lit (.int .u8 0), .lit (.int .u8 0)], .agg [.lit (.int .u8 0), .lit (.int .u8 0)], .agg [.lit (.int .u8 0), .lit (.int .u8 0)], .agg [.lit (.int .u8 0), .lit (.int .u8 0)], .agg [.lit (.int .u8 0), .lit (.int .u8 0)]]
/-- One of Go's own tables, pinned by name: the form's constant. -/
def laid_unicode_utf8_first : DataW Unit := Go.Pinned.utf8First

/-- 'kelirlaw03.NightChoices': WHATEVER THE INPUT: true; the input reads as it did. -/
def nightChoicesSpec : ChangeSpec := { name := "nightChoices", fn := fun _ => fun
  | [d] => { results := [.lit (.bool true)], args := [d] }
  | _ => none }
def nightChoicesRow : OpenClaim := { program := "ytjghdbdiejaacaagreatdoor", sum := "2a4c4ba0cdff2d82ed8ca6307adc1cc7fa508a4d042b12d3df8abf067120dd14", func := "kelir/kelirlaw03.NightChoices", spec := "nightChoices", inPlace := ["internal/bytealg.CountString", "internal/bytealg.IndexByteString", "internal/bytealg.IndexString"], unfollowed := true, recurses := true, named := ["unicode/utf8.first", "unicode/utf8.acceptRanges", "internal/bytealg.MaxLen", "internal/strconv.uint64pow10", "math/bits.deBruijn32tab", "math/bits.deBruijn64tab"], apart := false, laid := [("math/bits.deBruijn32tab", laid_math_bits_deBruijn32tab), ("math/bits.deBruijn64tab", laid_math_bits_deBruijn64tab), ("internal/strconv.uint64pow10", laid_internal_strconv_uint64pow10), ("unicode/utf8.acceptRanges", laid_unicode_utf8_acceptRanges), ("unicode/utf8.first", laid_unicode_utf8_first)] }
def NightChoicesSaid : Prop := nightChoicesRow.holds Tryz.pinned (OpenSpec.ofChange nightChoicesSpec)

/-- ITS FALSE NEIGHBOUR: 'it returns false'. Refute it at one input. -/
def nightChoicesWrong : ChangeSpec := { name := "nightChoices", fn := fun _ => fun
  | [d] => { results := [.lit (.bool false)], args := [d] }
  | _ => none }
def NightChoicesWrongFalsely : Prop := nightChoicesRow.holds Tryz.pinned (OpenSpec.ofChange nightChoicesWrong)

/-- 'kelirlaw03.NightTimes': WHATEVER THE INPUT: true; the input reads as it did. -/
def nightTimesSpec : ChangeSpec := { name := "nightTimes", fn := fun _ => fun
  | [d1, d2] => { results := [.lit (.bool true)], args := [d1, d2] }
  | _ => none }
def nightTimesRow : OpenClaim := { program := "ytjghdbdiejaacaagreatdoor", sum := "2a4c4ba0cdff2d82ed8ca6307adc1cc7fa508a4d042b12d3df8abf067120dd14", func := "kelir/kelirlaw03.NightTimes", spec := "nightTimes", inPlace := ["internal/bytealg.CountString", "internal/bytealg.IndexByteString", "internal/bytealg.IndexString"], unfollowed := true, recurses := true, named := ["unicode/utf8.first", "unicode/utf8.acceptRanges", "internal/bytealg.MaxLen", "internal/strconv.uint64pow10", "math/bits.deBruijn32tab", "math/bits.deBruijn64tab"], apart := false, laid := [("math/bits.deBruijn32tab", laid_math_bits_deBruijn32tab), ("math/bits.deBruijn64tab", laid_math_bits_deBruijn64tab), ("internal/strconv.uint64pow10", laid_internal_strconv_uint64pow10), ("unicode/utf8.acceptRanges", laid_unicode_utf8_acceptRanges), ("unicode/utf8.first", laid_unicode_utf8_first)] }
def NightTimesSaid : Prop := nightTimesRow.holds Tryz.pinned (OpenSpec.ofChange nightTimesSpec)

/-- ITS FALSE NEIGHBOUR: 'it returns false'. Refute it at one input. -/
def nightTimesWrong : ChangeSpec := { name := "nightTimes", fn := fun _ => fun
  | [d1, d2] => { results := [.lit (.bool false)], args := [d1, d2] }
  | _ => none }
def NightTimesWrongFalsely : Prop := nightTimesRow.holds Tryz.pinned (OpenSpec.ofChange nightTimesWrong)

/-- 'kelirlaw03.NightEnds': WHATEVER THE INPUT: true; the input reads as it did. -/
def nightEndsSpec : ChangeSpec := { name := "nightEnds", fn := fun _ => fun
  | [d1, d2] => { results := [.lit (.bool true)], args := [d1, d2] }
  | _ => none }
def nightEndsRow : OpenClaim := { program := "ytjghdbdiejaacaagreatdoor", sum := "2a4c4ba0cdff2d82ed8ca6307adc1cc7fa508a4d042b12d3df8abf067120dd14", func := "kelir/kelirlaw03.NightEnds", spec := "nightEnds", inPlace := ["internal/bytealg.CountString", "internal/bytealg.IndexByteString", "internal/bytealg.IndexString"], unfollowed := true, recurses := true, named := ["unicode/utf8.first", "unicode/utf8.acceptRanges", "internal/bytealg.MaxLen", "internal/strconv.uint64pow10", "math/bits.deBruijn32tab", "math/bits.deBruijn64tab"], apart := false, laid := [("math/bits.deBruijn32tab", laid_math_bits_deBruijn32tab), ("math/bits.deBruijn64tab", laid_math_bits_deBruijn64tab), ("internal/strconv.uint64pow10", laid_internal_strconv_uint64pow10), ("unicode/utf8.acceptRanges", laid_unicode_utf8_acceptRanges), ("unicode/utf8.first", laid_unicode_utf8_first)] }
def NightEndsSaid : Prop := nightEndsRow.holds Tryz.pinned (OpenSpec.ofChange nightEndsSpec)

/-- ITS FALSE NEIGHBOUR: 'it returns false'. Refute it at one input. -/
def nightEndsWrong : ChangeSpec := { name := "nightEnds", fn := fun _ => fun
  | [d1, d2] => { results := [.lit (.bool false)], args := [d1, d2] }
  | _ => none }
def NightEndsWrongFalsely : Prop := nightEndsRow.holds Tryz.pinned (OpenSpec.ofChange nightEndsWrong)

/-- 'kelirlaw03.NightPlayed': WHATEVER THE INPUT: true; the input reads as it did. -/
def nightPlayedSpec : ChangeSpec := { name := "nightPlayed", fn := fun _ => fun
  | [d] => { results := [.lit (.bool true)], args := [d] }
  | _ => none }
def nightPlayedRow : OpenClaim := { program := "ytjghdbdiejaacaagreatdoor", sum := "2a4c4ba0cdff2d82ed8ca6307adc1cc7fa508a4d042b12d3df8abf067120dd14", func := "kelir/kelirlaw03.NightPlayed", spec := "nightPlayed", inPlace := ["internal/bytealg.CountString", "internal/bytealg.IndexByteString", "internal/bytealg.IndexString"], unfollowed := true, recurses := true, named := ["unicode/utf8.first", "unicode/utf8.acceptRanges", "internal/bytealg.MaxLen", "internal/strconv.uint64pow10", "math/bits.deBruijn32tab", "math/bits.deBruijn64tab"], apart := false, laid := [("math/bits.deBruijn32tab", laid_math_bits_deBruijn32tab), ("math/bits.deBruijn64tab", laid_math_bits_deBruijn64tab), ("internal/strconv.uint64pow10", laid_internal_strconv_uint64pow10), ("unicode/utf8.acceptRanges", laid_unicode_utf8_acceptRanges), ("unicode/utf8.first", laid_unicode_utf8_first)] }
def NightPlayedSaid : Prop := nightPlayedRow.holds Tryz.pinned (OpenSpec.ofChange nightPlayedSpec)

/-- ITS FALSE NEIGHBOUR: 'it returns false'. Refute it at one input. -/
def nightPlayedWrong : ChangeSpec := { name := "nightPlayed", fn := fun _ => fun
  | [d] => { results := [.lit (.bool false)], args := [d] }
  | _ => none }
def NightPlayedWrongFalsely : Prop := nightPlayedRow.holds Tryz.pinned (OpenSpec.ofChange nightPlayedWrong)

/-- 'kelirlaw03.NightFails': WHATEVER THE INPUT: true; the input reads as it did. -/
def nightFailsSpec : ChangeSpec := { name := "nightFails", fn := fun _ => fun
  | [d1, d2] => { results := [.lit (.bool true)], args := [d1, d2] }
  | _ => none }
def nightFailsRow : OpenClaim := { program := "ytjghdbdiejaacaagreatdoor", sum := "2a4c4ba0cdff2d82ed8ca6307adc1cc7fa508a4d042b12d3df8abf067120dd14", func := "kelir/kelirlaw03.NightFails", spec := "nightFails", inPlace := ["internal/bytealg.CountString", "internal/bytealg.IndexByteString", "internal/bytealg.IndexString"], unfollowed := true, recurses := true, named := ["unicode/utf8.first", "unicode/utf8.acceptRanges", "internal/bytealg.MaxLen", "internal/strconv.uint64pow10", "math/bits.deBruijn32tab", "math/bits.deBruijn64tab"], apart := false, laid := [("math/bits.deBruijn32tab", laid_math_bits_deBruijn32tab), ("math/bits.deBruijn64tab", laid_math_bits_deBruijn64tab), ("internal/strconv.uint64pow10", laid_internal_strconv_uint64pow10), ("unicode/utf8.acceptRanges", laid_unicode_utf8_acceptRanges), ("unicode/utf8.first", laid_unicode_utf8_first)] }
def NightFailsSaid : Prop := nightFailsRow.holds Tryz.pinned (OpenSpec.ofChange nightFailsSpec)

/-- ITS FALSE NEIGHBOUR: 'it returns false'. Refute it at one input. -/
def nightFailsWrong : ChangeSpec := { name := "nightFails", fn := fun _ => fun
  | [d1, d2] => { results := [.lit (.bool false)], args := [d1, d2] }
  | _ => none }
def NightFailsWrongFalsely : Prop := nightFailsRow.holds Tryz.pinned (OpenSpec.ofChange nightFailsWrong)

/-- 'kelirlaw03.NightPrints': WHATEVER THE INPUT: true; the input reads as it did. -/
def nightPrintsSpec : ChangeSpec := { name := "nightPrints", fn := fun _ => fun
  | [d] => { results := [.lit (.bool true)], args := [d] }
  | _ => none }
def nightPrintsRow : OpenClaim := { program := "ytjghdbdiejaacaagreatdoor", sum := "2a4c4ba0cdff2d82ed8ca6307adc1cc7fa508a4d042b12d3df8abf067120dd14", func := "kelir/kelirlaw03.NightPrints", spec := "nightPrints", inPlace := ["internal/bytealg.CountString", "internal/bytealg.IndexByteString", "internal/bytealg.IndexString"], unfollowed := true, recurses := true, named := ["unicode/utf8.first", "unicode/utf8.acceptRanges", "internal/bytealg.MaxLen", "internal/strconv.uint64pow10", "math/bits.deBruijn32tab", "math/bits.deBruijn64tab"], apart := false, laid := [("math/bits.deBruijn32tab", laid_math_bits_deBruijn32tab), ("math/bits.deBruijn64tab", laid_math_bits_deBruijn64tab), ("internal/strconv.uint64pow10", laid_internal_strconv_uint64pow10), ("unicode/utf8.acceptRanges", laid_unicode_utf8_acceptRanges), ("unicode/utf8.first", laid_unicode_utf8_first)] }
def NightPrintsSaid : Prop := nightPrintsRow.holds Tryz.pinned (OpenSpec.ofChange nightPrintsSpec)

/-- ITS FALSE NEIGHBOUR: 'it returns false'. Refute it at one input. -/
def nightPrintsWrong : ChangeSpec := { name := "nightPrints", fn := fun _ => fun
  | [d] => { results := [.lit (.bool false)], args := [d] }
  | _ => none }
def NightPrintsWrongFalsely : Prop := nightPrintsRow.holds Tryz.pinned (OpenSpec.ofChange nightPrintsWrong)

/-- 'kelirlaw03.NightReads': WHATEVER THE INPUT: true; the input reads as it did. -/
def nightReadsSpec : ChangeSpec := { name := "nightReads", fn := fun _ => fun
  | [d] => { results := [.lit (.bool true)], args := [d] }
  | _ => none }
def nightReadsRow : OpenClaim := { program := "ytjghdbdiejaacaagreatdoor", sum := "2a4c4ba0cdff2d82ed8ca6307adc1cc7fa508a4d042b12d3df8abf067120dd14", func := "kelir/kelirlaw03.NightReads", spec := "nightReads", inPlace := ["internal/bytealg.CountString", "internal/bytealg.IndexByteString", "internal/bytealg.IndexString"], unfollowed := true, recurses := true, named := ["unicode/utf8.first", "unicode/utf8.acceptRanges", "internal/bytealg.MaxLen", "internal/strconv.uint64pow10", "math/bits.deBruijn32tab", "math/bits.deBruijn64tab"], apart := false, laid := [("math/bits.deBruijn32tab", laid_math_bits_deBruijn32tab), ("math/bits.deBruijn64tab", laid_math_bits_deBruijn64tab), ("internal/strconv.uint64pow10", laid_internal_strconv_uint64pow10), ("unicode/utf8.acceptRanges", laid_unicode_utf8_acceptRanges), ("unicode/utf8.first", laid_unicode_utf8_first)] }
def NightReadsSaid : Prop := nightReadsRow.holds Tryz.pinned (OpenSpec.ofChange nightReadsSpec)

/-- ITS FALSE NEIGHBOUR: 'it returns false'. Refute it at one input. -/
def nightReadsWrong : ChangeSpec := { name := "nightReads", fn := fun _ => fun
  | [d] => { results := [.lit (.bool false)], args := [d] }
  | _ => none }
def NightReadsWrongFalsely : Prop := nightReadsRow.holds Tryz.pinned (OpenSpec.ofChange nightReadsWrong)

/-- 'kelirlaw03.NightSpoilt': WHATEVER THE INPUT: true; the input reads as it did. -/
def nightSpoiltSpec : ChangeSpec := { name := "nightSpoilt", fn := fun _ => fun
  | [d1, d2, d3] => { results := [.lit (.bool true)], args := [d1, d2, d3] }
  | _ => none }
def nightSpoiltRow : OpenClaim := { program := "ytjghdbdiejaacaagreatdoor", sum := "2a4c4ba0cdff2d82ed8ca6307adc1cc7fa508a4d042b12d3df8abf067120dd14", func := "kelir/kelirlaw03.NightSpoilt", spec := "nightSpoilt", inPlace := ["internal/bytealg.CountString", "internal/bytealg.IndexByteString", "internal/bytealg.IndexString"], unfollowed := true, recurses := true, named := ["unicode/utf8.first", "unicode/utf8.acceptRanges", "internal/bytealg.MaxLen", "internal/strconv.uint64pow10", "math/bits.deBruijn32tab", "math/bits.deBruijn64tab"], apart := false, laid := [("math/bits.deBruijn32tab", laid_math_bits_deBruijn32tab), ("math/bits.deBruijn64tab", laid_math_bits_deBruijn64tab), ("internal/strconv.uint64pow10", laid_internal_strconv_uint64pow10), ("unicode/utf8.acceptRanges", laid_unicode_utf8_acceptRanges), ("unicode/utf8.first", laid_unicode_utf8_first)] }
def NightSpoiltSaid : Prop := nightSpoiltRow.holds Tryz.pinned (OpenSpec.ofChange nightSpoiltSpec)

/-- ITS FALSE NEIGHBOUR: 'it returns false'. Refute it at one input. -/
def nightSpoiltWrong : ChangeSpec := { name := "nightSpoilt", fn := fun _ => fun
  | [d1, d2, d3] => { results := [.lit (.bool false)], args := [d1, d2, d3] }
  | _ => none }
def NightSpoiltWrongFalsely : Prop := nightSpoiltRow.holds Tryz.pinned (OpenSpec.ofChange nightSpoiltWrong)

/-- 'kelirlaw03.NightMore': WHATEVER THE INPUT: true; the input reads as it did. -/
def nightMoreSpec : ChangeSpec := { name := "nightMore", fn := fun _ => fun
  | [d1, d2, d3, d4, d5, d6, d7, d8] => { results := [.lit (.bool true)], args := [d1, d2, d3, d4, d5, d6, d7, d8] }
  | _ => none }
def nightMoreRow : OpenClaim := { program := "ytjghdbdiejaacaagreatdoor", sum := "2a4c4ba0cdff2d82ed8ca6307adc1cc7fa508a4d042b12d3df8abf067120dd14", func := "kelir/kelirlaw03.NightMore", spec := "nightMore", inPlace := ["internal/bytealg.CountString", "internal/bytealg.IndexByteString", "internal/bytealg.IndexString"], unfollowed := true, recurses := true, named := ["unicode/utf8.first", "unicode/utf8.acceptRanges", "internal/bytealg.MaxLen", "internal/strconv.uint64pow10", "math/bits.deBruijn32tab", "math/bits.deBruijn64tab"], apart := false, laid := [("math/bits.deBruijn32tab", laid_math_bits_deBruijn32tab), ("math/bits.deBruijn64tab", laid_math_bits_deBruijn64tab), ("internal/strconv.uint64pow10", laid_internal_strconv_uint64pow10), ("unicode/utf8.acceptRanges", laid_unicode_utf8_acceptRanges), ("unicode/utf8.first", laid_unicode_utf8_first)] }
def NightMoreSaid : Prop := nightMoreRow.holds Tryz.pinned (OpenSpec.ofChange nightMoreSpec)

/-- ITS FALSE NEIGHBOUR: 'it returns false'. Refute it at one input. -/
def nightMoreWrong : ChangeSpec := { name := "nightMore", fn := fun _ => fun
  | [d1, d2, d3, d4, d5, d6, d7, d8] => { results := [.lit (.bool false)], args := [d1, d2, d3, d4, d5, d6, d7, d8] }
  | _ => none }
def NightMoreWrongFalsely : Prop := nightMoreRow.holds Tryz.pinned (OpenSpec.ofChange nightMoreWrong)

/-- 'kelirlaw03.NightWithin': WHATEVER THE INPUT: true; the input reads as it did. -/
def nightWithinSpec : ChangeSpec := { name := "nightWithin", fn := fun _ => fun
  | [d1, d2, d3] => { results := [.lit (.bool true)], args := [d1, d2, d3] }
  | _ => none }
def nightWithinRow : OpenClaim := { program := "ytjghdbdiejaacaagreatdoor", sum := "2a4c4ba0cdff2d82ed8ca6307adc1cc7fa508a4d042b12d3df8abf067120dd14", func := "kelir/kelirlaw03.NightWithin", spec := "nightWithin", inPlace := ["internal/bytealg.CountString", "internal/bytealg.IndexByteString", "internal/bytealg.IndexString"], unfollowed := true, recurses := true, named := ["unicode/utf8.first", "unicode/utf8.acceptRanges", "internal/bytealg.MaxLen", "internal/strconv.uint64pow10", "math/bits.deBruijn32tab", "math/bits.deBruijn64tab"], apart := false, laid := [("math/bits.deBruijn32tab", laid_math_bits_deBruijn32tab), ("math/bits.deBruijn64tab", laid_math_bits_deBruijn64tab), ("internal/strconv.uint64pow10", laid_internal_strconv_uint64pow10), ("unicode/utf8.acceptRanges", laid_unicode_utf8_acceptRanges), ("unicode/utf8.first", laid_unicode_utf8_first)] }
def NightWithinSaid : Prop := nightWithinRow.holds Tryz.pinned (OpenSpec.ofChange nightWithinSpec)

/-- ITS FALSE NEIGHBOUR: 'it returns false'. Refute it at one input. -/
def nightWithinWrong : ChangeSpec := { name := "nightWithin", fn := fun _ => fun
  | [d1, d2, d3] => { results := [.lit (.bool false)], args := [d1, d2, d3] }
  | _ => none }
def NightWithinWrongFalsely : Prop := nightWithinRow.holds Tryz.pinned (OpenSpec.ofChange nightWithinWrong)

/-- 'kelirlaw03.NightBest': WHATEVER THE INPUT: true; the input reads as it did. -/
def nightBestSpec : ChangeSpec := { name := "nightBest", fn := fun _ => fun
  | [d1, d2, d3] => { results := [.lit (.bool true)], args := [d1, d2, d3] }
  | _ => none }
def nightBestRow : OpenClaim := { program := "ytjghdbdiejaacaagreatdoor", sum := "2a4c4ba0cdff2d82ed8ca6307adc1cc7fa508a4d042b12d3df8abf067120dd14", func := "kelir/kelirlaw03.NightBest", spec := "nightBest", inPlace := ["internal/bytealg.CountString", "internal/bytealg.IndexByteString", "internal/bytealg.IndexString"], unfollowed := true, recurses := true, named := ["unicode/utf8.first", "unicode/utf8.acceptRanges", "internal/bytealg.MaxLen", "internal/strconv.uint64pow10", "math/bits.deBruijn32tab", "math/bits.deBruijn64tab"], apart := false, laid := [("math/bits.deBruijn32tab", laid_math_bits_deBruijn32tab), ("math/bits.deBruijn64tab", laid_math_bits_deBruijn64tab), ("internal/strconv.uint64pow10", laid_internal_strconv_uint64pow10), ("unicode/utf8.acceptRanges", laid_unicode_utf8_acceptRanges), ("unicode/utf8.first", laid_unicode_utf8_first)] }
def NightBestSaid : Prop := nightBestRow.holds Tryz.pinned (OpenSpec.ofChange nightBestSpec)

/-- ITS FALSE NEIGHBOUR: 'it returns false'. Refute it at one input. -/
def nightBestWrong : ChangeSpec := { name := "nightBest", fn := fun _ => fun
  | [d1, d2, d3] => { results := [.lit (.bool false)], args := [d1, d2, d3] }
  | _ => none }
def NightBestWrongFalsely : Prop := nightBestRow.holds Tryz.pinned (OpenSpec.ofChange nightBestWrong)

/-- 'kelirlaw03.NightProof': WHATEVER THE INPUT: true; the input reads as it did. -/
def nightProofSpec : ChangeSpec := { name := "nightProof", fn := fun _ => fun
  | [d1, d2, d3] => { results := [.lit (.bool true)], args := [d1, d2, d3] }
  | _ => none }
def nightProofRow : OpenClaim := { program := "ytjghdbdiejaacaagreatdoor", sum := "2a4c4ba0cdff2d82ed8ca6307adc1cc7fa508a4d042b12d3df8abf067120dd14", func := "kelir/kelirlaw03.NightProof", spec := "nightProof", inPlace := ["internal/bytealg.CountString", "internal/bytealg.IndexByteString", "internal/bytealg.IndexString"], unfollowed := true, recurses := true, named := ["unicode/utf8.first", "unicode/utf8.acceptRanges", "internal/bytealg.MaxLen", "internal/strconv.uint64pow10", "math/bits.deBruijn32tab", "math/bits.deBruijn64tab"], apart := false, laid := [("math/bits.deBruijn32tab", laid_math_bits_deBruijn32tab), ("math/bits.deBruijn64tab", laid_math_bits_deBruijn64tab), ("internal/strconv.uint64pow10", laid_internal_strconv_uint64pow10), ("unicode/utf8.acceptRanges", laid_unicode_utf8_acceptRanges), ("unicode/utf8.first", laid_unicode_utf8_first)] }
def NightProofSaid : Prop := nightProofRow.holds Tryz.pinned (OpenSpec.ofChange nightProofSpec)

/-- ITS FALSE NEIGHBOUR: 'it returns false'. Refute it at one input. -/
def nightProofWrong : ChangeSpec := { name := "nightProof", fn := fun _ => fun
  | [d1, d2, d3] => { results := [.lit (.bool false)], args := [d1, d2, d3] }
  | _ => none }
def NightProofWrongFalsely : Prop := nightProofRow.holds Tryz.pinned (OpenSpec.ofChange nightProofWrong)

/-- 'kelirlaw03.NightSures': WHATEVER THE INPUT: true; the input reads as it did. -/
def nightSuresSpec : ChangeSpec := { name := "nightSures", fn := fun _ => fun
  | [d1, d2] => { results := [.lit (.bool true)], args := [d1, d2] }
  | _ => none }
def nightSuresRow : OpenClaim := { program := "ytjghdbdiejaacaagreatdoor", sum := "2a4c4ba0cdff2d82ed8ca6307adc1cc7fa508a4d042b12d3df8abf067120dd14", func := "kelir/kelirlaw03.NightSures", spec := "nightSures", inPlace := ["internal/bytealg.CountString", "internal/bytealg.IndexByteString", "internal/bytealg.IndexString"], unfollowed := true, recurses := true, named := ["unicode/utf8.first", "unicode/utf8.acceptRanges", "internal/bytealg.MaxLen", "internal/strconv.uint64pow10", "math/bits.deBruijn32tab", "math/bits.deBruijn64tab"], apart := false, laid := [("math/bits.deBruijn32tab", laid_math_bits_deBruijn32tab), ("math/bits.deBruijn64tab", laid_math_bits_deBruijn64tab), ("internal/strconv.uint64pow10", laid_internal_strconv_uint64pow10), ("unicode/utf8.acceptRanges", laid_unicode_utf8_acceptRanges), ("unicode/utf8.first", laid_unicode_utf8_first)] }
def NightSuresSaid : Prop := nightSuresRow.holds Tryz.pinned (OpenSpec.ofChange nightSuresSpec)

/-- ITS FALSE NEIGHBOUR: 'it returns false'. Refute it at one input. -/
def nightSuresWrong : ChangeSpec := { name := "nightSures", fn := fun _ => fun
  | [d1, d2] => { results := [.lit (.bool false)], args := [d1, d2] }
  | _ => none }
def NightSuresWrongFalsely : Prop := nightSuresRow.holds Tryz.pinned (OpenSpec.ofChange nightSuresWrong)

/-- 'kelirlaw03.NightLongers': WHATEVER THE INPUT: true; the input reads as it did. -/
def nightLongersSpec : ChangeSpec := { name := "nightLongers", fn := fun _ => fun
  | [d1, d2] => { results := [.lit (.bool true)], args := [d1, d2] }
  | _ => none }
def nightLongersRow : OpenClaim := { program := "ytjghdbdiejaacaagreatdoor", sum := "2a4c4ba0cdff2d82ed8ca6307adc1cc7fa508a4d042b12d3df8abf067120dd14", func := "kelir/kelirlaw03.NightLongers", spec := "nightLongers", inPlace := ["internal/bytealg.CountString", "internal/bytealg.IndexByteString", "internal/bytealg.IndexString"], unfollowed := true, recurses := true, named := ["unicode/utf8.first", "unicode/utf8.acceptRanges", "internal/bytealg.MaxLen", "internal/strconv.uint64pow10", "math/bits.deBruijn32tab", "math/bits.deBruijn64tab"], apart := false, laid := [("math/bits.deBruijn32tab", laid_math_bits_deBruijn32tab), ("math/bits.deBruijn64tab", laid_math_bits_deBruijn64tab), ("internal/strconv.uint64pow10", laid_internal_strconv_uint64pow10), ("unicode/utf8.acceptRanges", laid_unicode_utf8_acceptRanges), ("unicode/utf8.first", laid_unicode_utf8_first)] }
def NightLongersSaid : Prop := nightLongersRow.holds Tryz.pinned (OpenSpec.ofChange nightLongersSpec)

/-- ITS FALSE NEIGHBOUR: 'it returns false'. Refute it at one input. -/
def nightLongersWrong : ChangeSpec := { name := "nightLongers", fn := fun _ => fun
  | [d1, d2] => { results := [.lit (.bool false)], args := [d1, d2] }
  | _ => none }
def NightLongersWrongFalsely : Prop := nightLongersRow.holds Tryz.pinned (OpenSpec.ofChange nightLongersWrong)

/-- 'kelirlaw03.NightEnough': WHATEVER THE INPUT: true; the input reads as it did. -/
def nightEnoughSpec : ChangeSpec := { name := "nightEnough", fn := fun _ => fun
  | [d1, d2, d3, d4] => { results := [.lit (.bool true)], args := [d1, d2, d3, d4] }
  | _ => none }
def nightEnoughRow : OpenClaim := { program := "ytjghdbdiejaacaagreatdoor", sum := "2a4c4ba0cdff2d82ed8ca6307adc1cc7fa508a4d042b12d3df8abf067120dd14", func := "kelir/kelirlaw03.NightEnough", spec := "nightEnough", inPlace := ["internal/bytealg.CountString", "internal/bytealg.IndexByteString", "internal/bytealg.IndexString"], unfollowed := true, recurses := true, named := ["unicode/utf8.first", "unicode/utf8.acceptRanges", "internal/bytealg.MaxLen", "internal/strconv.uint64pow10", "math/bits.deBruijn32tab", "math/bits.deBruijn64tab"], apart := false, laid := [("math/bits.deBruijn32tab", laid_math_bits_deBruijn32tab), ("math/bits.deBruijn64tab", laid_math_bits_deBruijn64tab), ("internal/strconv.uint64pow10", laid_internal_strconv_uint64pow10), ("unicode/utf8.acceptRanges", laid_unicode_utf8_acceptRanges), ("unicode/utf8.first", laid_unicode_utf8_first)] }
def NightEnoughSaid : Prop := nightEnoughRow.holds Tryz.pinned (OpenSpec.ofChange nightEnoughSpec)

/-- ITS FALSE NEIGHBOUR: 'it returns false'. Refute it at one input. -/
def nightEnoughWrong : ChangeSpec := { name := "nightEnough", fn := fun _ => fun
  | [d1, d2, d3, d4] => { results := [.lit (.bool false)], args := [d1, d2, d3, d4] }
  | _ => none }
def NightEnoughWrongFalsely : Prop := nightEnoughRow.holds Tryz.pinned (OpenSpec.ofChange nightEnoughWrong)

/-- 'kelirlaw03.NightFits': WHATEVER THE INPUT: true; the input reads as it did. -/
def nightFitsSpec : ChangeSpec := { name := "nightFits", fn := fun _ => fun
  | [d1, d2, d3] => { results := [.lit (.bool true)], args := [d1, d2, d3] }
  | _ => none }
def nightFitsRow : OpenClaim := { program := "ytjghdbdiejaacaagreatdoor", sum := "2a4c4ba0cdff2d82ed8ca6307adc1cc7fa508a4d042b12d3df8abf067120dd14", func := "kelir/kelirlaw03.NightFits", spec := "nightFits", inPlace := ["internal/bytealg.CountString", "internal/bytealg.IndexByteString", "internal/bytealg.IndexString"], unfollowed := true, recurses := true, named := ["unicode/utf8.first", "unicode/utf8.acceptRanges", "internal/bytealg.MaxLen", "internal/strconv.uint64pow10", "math/bits.deBruijn32tab", "math/bits.deBruijn64tab"], apart := false, laid := [("math/bits.deBruijn32tab", laid_math_bits_deBruijn32tab), ("math/bits.deBruijn64tab", laid_math_bits_deBruijn64tab), ("internal/strconv.uint64pow10", laid_internal_strconv_uint64pow10), ("unicode/utf8.acceptRanges", laid_unicode_utf8_acceptRanges), ("unicode/utf8.first", laid_unicode_utf8_first)] }
def NightFitsSaid : Prop := nightFitsRow.holds Tryz.pinned (OpenSpec.ofChange nightFitsSpec)

/-- ITS FALSE NEIGHBOUR: 'it returns false'. Refute it at one input. -/
def nightFitsWrong : ChangeSpec := { name := "nightFits", fn := fun _ => fun
  | [d1, d2, d3] => { results := [.lit (.bool false)], args := [d1, d2, d3] }
  | _ => none }
def NightFitsWrongFalsely : Prop := nightFitsRow.holds Tryz.pinned (OpenSpec.ofChange nightFitsWrong)

/-- 'kelirlaw03.NightStars': WHATEVER THE INPUT: true; the input reads as it did. -/
def nightStarsSpec : ChangeSpec := { name := "nightStars", fn := fun _ => fun
  | [d1, d2, d3] => { results := [.lit (.bool true)], args := [d1, d2, d3] }
  | _ => none }
def nightStarsRow : OpenClaim := { program := "ytjghdbdiejaacaagreatdoor", sum := "2a4c4ba0cdff2d82ed8ca6307adc1cc7fa508a4d042b12d3df8abf067120dd14", func := "kelir/kelirlaw03.NightStars", spec := "nightStars", inPlace := ["internal/bytealg.CountString", "internal/bytealg.IndexByteString", "internal/bytealg.IndexString"], unfollowed := true, recurses := true, named := ["unicode/utf8.first", "unicode/utf8.acceptRanges", "internal/bytealg.MaxLen", "internal/strconv.uint64pow10", "math/bits.deBruijn32tab", "math/bits.deBruijn64tab"], apart := false, laid := [("math/bits.deBruijn32tab", laid_math_bits_deBruijn32tab), ("math/bits.deBruijn64tab", laid_math_bits_deBruijn64tab), ("internal/strconv.uint64pow10", laid_internal_strconv_uint64pow10), ("unicode/utf8.acceptRanges", laid_unicode_utf8_acceptRanges), ("unicode/utf8.first", laid_unicode_utf8_first)] }
def NightStarsSaid : Prop := nightStarsRow.holds Tryz.pinned (OpenSpec.ofChange nightStarsSpec)

/-- ITS FALSE NEIGHBOUR: 'it returns false'. Refute it at one input. -/
def nightStarsWrong : ChangeSpec := { name := "nightStars", fn := fun _ => fun
  | [d1, d2, d3] => { results := [.lit (.bool false)], args := [d1, d2, d3] }
  | _ => none }
def NightStarsWrongFalsely : Prop := nightStarsRow.holds Tryz.pinned (OpenSpec.ofChange nightStarsWrong)

/- THE SECOND FORM. 'bulk': how many values and letters a reading holds, each counted each time it is reached (what is shared counts as often as it is met; a slice's spare places count too). A statement '..UptoSaid' is the law's where the arguments, and the package variables that the reading takes, are together of bulk at most 1048576: NARROWER than '..Said'. Prove '..Said' where nothing that the law and all that it calls make is longer than what came in: it says more and counts as full. Else prove '..UptoSaid'. A law counts once. -/
mutual
def uptoBulk {H : Type} : DataW H → Nat
  | .lit (.string bytes) => bytes.length + 1
  | .lit _ => 1
  | .nil => 1
  | .ptr d => uptoBulk d + 1
  | .slice elems spare => uptoBulkAll elems + uptoBulkAll spare + 1
  | .agg parts => uptoBulkAll parts + 1
  | .iface _ d => uptoBulk d + 1
  | .map entries => uptoBulkEntries entries + 1
  | .held _ => 1
def uptoBulkAll {H : Type} : List (DataW H) → Nat
  | [] => 0
  | d :: r => uptoBulk d + uptoBulkAll r
def uptoBulkEntries {H : Type} : List (Lit × DataW H) → Nat
  | [] => 0
  | x :: r => uptoBulkEntry x + uptoBulkEntries r
def uptoBulkEntry {H : Type} : Lit × DataW H → Nat
  | (.string bytes, d) => bytes.length + uptoBulk d + 1
  | (_, d) => uptoBulk d + 1
 end
def uptoSmall : (H : Type) → List (DataW H) → Bool := fun _ ds => decide (uptoBulkAll ds ≤ 1048576)
def OpenSpec.upto (s : _root_.Go.ChangeSpec) : _root_.Go.OpenSpec := { _root_.Go.OpenSpec.ofChange s with cond := some uptoSmall }

/-- 'kelirlaw03.NightChoices', WHERE WHAT IT READS IS OF BULK AT MOST 1048576: true; the input reads as it did. -/
def nightChoicesUptoRow : OpenClaim := { program := "ytjghdbdiejaacaagreatdoor", sum := "2a4c4ba0cdff2d82ed8ca6307adc1cc7fa508a4d042b12d3df8abf067120dd14", func := "kelir/kelirlaw03.NightChoices", spec := "nightChoices", inPlace := ["internal/bytealg.CountString", "internal/bytealg.IndexByteString", "internal/bytealg.IndexString"], unfollowed := true, recurses := true, named := ["unicode/utf8.first", "unicode/utf8.acceptRanges", "internal/bytealg.MaxLen", "internal/strconv.uint64pow10", "math/bits.deBruijn32tab", "math/bits.deBruijn64tab"], apart := false, laid := [("math/bits.deBruijn32tab", laid_math_bits_deBruijn32tab), ("math/bits.deBruijn64tab", laid_math_bits_deBruijn64tab), ("internal/strconv.uint64pow10", laid_internal_strconv_uint64pow10), ("unicode/utf8.acceptRanges", laid_unicode_utf8_acceptRanges), ("unicode/utf8.first", laid_unicode_utf8_first)], narrowed := true }
def NightChoicesUptoSaid : Prop := nightChoicesUptoRow.holds Tryz.pinned (OpenSpec.upto nightChoicesSpec)

/-- 'kelirlaw03.NightTimes', WHERE WHAT IT READS IS OF BULK AT MOST 1048576: true; the input reads as it did. -/
def nightTimesUptoRow : OpenClaim := { program := "ytjghdbdiejaacaagreatdoor", sum := "2a4c4ba0cdff2d82ed8ca6307adc1cc7fa508a4d042b12d3df8abf067120dd14", func := "kelir/kelirlaw03.NightTimes", spec := "nightTimes", inPlace := ["internal/bytealg.CountString", "internal/bytealg.IndexByteString", "internal/bytealg.IndexString"], unfollowed := true, recurses := true, named := ["unicode/utf8.first", "unicode/utf8.acceptRanges", "internal/bytealg.MaxLen", "internal/strconv.uint64pow10", "math/bits.deBruijn32tab", "math/bits.deBruijn64tab"], apart := false, laid := [("math/bits.deBruijn32tab", laid_math_bits_deBruijn32tab), ("math/bits.deBruijn64tab", laid_math_bits_deBruijn64tab), ("internal/strconv.uint64pow10", laid_internal_strconv_uint64pow10), ("unicode/utf8.acceptRanges", laid_unicode_utf8_acceptRanges), ("unicode/utf8.first", laid_unicode_utf8_first)], narrowed := true }
def NightTimesUptoSaid : Prop := nightTimesUptoRow.holds Tryz.pinned (OpenSpec.upto nightTimesSpec)

/-- 'kelirlaw03.NightEnds', WHERE WHAT IT READS IS OF BULK AT MOST 1048576: true; the input reads as it did. -/
def nightEndsUptoRow : OpenClaim := { program := "ytjghdbdiejaacaagreatdoor", sum := "2a4c4ba0cdff2d82ed8ca6307adc1cc7fa508a4d042b12d3df8abf067120dd14", func := "kelir/kelirlaw03.NightEnds", spec := "nightEnds", inPlace := ["internal/bytealg.CountString", "internal/bytealg.IndexByteString", "internal/bytealg.IndexString"], unfollowed := true, recurses := true, named := ["unicode/utf8.first", "unicode/utf8.acceptRanges", "internal/bytealg.MaxLen", "internal/strconv.uint64pow10", "math/bits.deBruijn32tab", "math/bits.deBruijn64tab"], apart := false, laid := [("math/bits.deBruijn32tab", laid_math_bits_deBruijn32tab), ("math/bits.deBruijn64tab", laid_math_bits_deBruijn64tab), ("internal/strconv.uint64pow10", laid_internal_strconv_uint64pow10), ("unicode/utf8.acceptRanges", laid_unicode_utf8_acceptRanges), ("unicode/utf8.first", laid_unicode_utf8_first)], narrowed := true }
def NightEndsUptoSaid : Prop := nightEndsUptoRow.holds Tryz.pinned (OpenSpec.upto nightEndsSpec)

/-- 'kelirlaw03.NightPlayed', WHERE WHAT IT READS IS OF BULK AT MOST 1048576: true; the input reads as it did. -/
def nightPlayedUptoRow : OpenClaim := { program := "ytjghdbdiejaacaagreatdoor", sum := "2a4c4ba0cdff2d82ed8ca6307adc1cc7fa508a4d042b12d3df8abf067120dd14", func := "kelir/kelirlaw03.NightPlayed", spec := "nightPlayed", inPlace := ["internal/bytealg.CountString", "internal/bytealg.IndexByteString", "internal/bytealg.IndexString"], unfollowed := true, recurses := true, named := ["unicode/utf8.first", "unicode/utf8.acceptRanges", "internal/bytealg.MaxLen", "internal/strconv.uint64pow10", "math/bits.deBruijn32tab", "math/bits.deBruijn64tab"], apart := false, laid := [("math/bits.deBruijn32tab", laid_math_bits_deBruijn32tab), ("math/bits.deBruijn64tab", laid_math_bits_deBruijn64tab), ("internal/strconv.uint64pow10", laid_internal_strconv_uint64pow10), ("unicode/utf8.acceptRanges", laid_unicode_utf8_acceptRanges), ("unicode/utf8.first", laid_unicode_utf8_first)], narrowed := true }
def NightPlayedUptoSaid : Prop := nightPlayedUptoRow.holds Tryz.pinned (OpenSpec.upto nightPlayedSpec)

/-- 'kelirlaw03.NightFails', WHERE WHAT IT READS IS OF BULK AT MOST 1048576: true; the input reads as it did. -/
def nightFailsUptoRow : OpenClaim := { program := "ytjghdbdiejaacaagreatdoor", sum := "2a4c4ba0cdff2d82ed8ca6307adc1cc7fa508a4d042b12d3df8abf067120dd14", func := "kelir/kelirlaw03.NightFails", spec := "nightFails", inPlace := ["internal/bytealg.CountString", "internal/bytealg.IndexByteString", "internal/bytealg.IndexString"], unfollowed := true, recurses := true, named := ["unicode/utf8.first", "unicode/utf8.acceptRanges", "internal/bytealg.MaxLen", "internal/strconv.uint64pow10", "math/bits.deBruijn32tab", "math/bits.deBruijn64tab"], apart := false, laid := [("math/bits.deBruijn32tab", laid_math_bits_deBruijn32tab), ("math/bits.deBruijn64tab", laid_math_bits_deBruijn64tab), ("internal/strconv.uint64pow10", laid_internal_strconv_uint64pow10), ("unicode/utf8.acceptRanges", laid_unicode_utf8_acceptRanges), ("unicode/utf8.first", laid_unicode_utf8_first)], narrowed := true }
def NightFailsUptoSaid : Prop := nightFailsUptoRow.holds Tryz.pinned (OpenSpec.upto nightFailsSpec)

/-- 'kelirlaw03.NightPrints', WHERE WHAT IT READS IS OF BULK AT MOST 1048576: true; the input reads as it did. -/
def nightPrintsUptoRow : OpenClaim := { program := "ytjghdbdiejaacaagreatdoor", sum := "2a4c4ba0cdff2d82ed8ca6307adc1cc7fa508a4d042b12d3df8abf067120dd14", func := "kelir/kelirlaw03.NightPrints", spec := "nightPrints", inPlace := ["internal/bytealg.CountString", "internal/bytealg.IndexByteString", "internal/bytealg.IndexString"], unfollowed := true, recurses := true, named := ["unicode/utf8.first", "unicode/utf8.acceptRanges", "internal/bytealg.MaxLen", "internal/strconv.uint64pow10", "math/bits.deBruijn32tab", "math/bits.deBruijn64tab"], apart := false, laid := [("math/bits.deBruijn32tab", laid_math_bits_deBruijn32tab), ("math/bits.deBruijn64tab", laid_math_bits_deBruijn64tab), ("internal/strconv.uint64pow10", laid_internal_strconv_uint64pow10), ("unicode/utf8.acceptRanges", laid_unicode_utf8_acceptRanges), ("unicode/utf8.first", laid_unicode_utf8_first)], narrowed := true }
def NightPrintsUptoSaid : Prop := nightPrintsUptoRow.holds Tryz.pinned (OpenSpec.upto nightPrintsSpec)

/-- 'kelirlaw03.NightReads', WHERE WHAT IT READS IS OF BULK AT MOST 1048576: true; the input reads as it did. -/
def nightReadsUptoRow : OpenClaim := { program := "ytjghdbdiejaacaagreatdoor", sum := "2a4c4ba0cdff2d82ed8ca6307adc1cc7fa508a4d042b12d3df8abf067120dd14", func := "kelir/kelirlaw03.NightReads", spec := "nightReads", inPlace := ["internal/bytealg.CountString", "internal/bytealg.IndexByteString", "internal/bytealg.IndexString"], unfollowed := true, recurses := true, named := ["unicode/utf8.first", "unicode/utf8.acceptRanges", "internal/bytealg.MaxLen", "internal/strconv.uint64pow10", "math/bits.deBruijn32tab", "math/bits.deBruijn64tab"], apart := false, laid := [("math/bits.deBruijn32tab", laid_math_bits_deBruijn32tab), ("math/bits.deBruijn64tab", laid_math_bits_deBruijn64tab), ("internal/strconv.uint64pow10", laid_internal_strconv_uint64pow10), ("unicode/utf8.acceptRanges", laid_unicode_utf8_acceptRanges), ("unicode/utf8.first", laid_unicode_utf8_first)], narrowed := true }
def NightReadsUptoSaid : Prop := nightReadsUptoRow.holds Tryz.pinned (OpenSpec.upto nightReadsSpec)

/-- 'kelirlaw03.NightSpoilt', WHERE WHAT IT READS IS OF BULK AT MOST 1048576: true; the input reads as it did. -/
def nightSpoiltUptoRow : OpenClaim := { program := "ytjghdbdiejaacaagreatdoor", sum := "2a4c4ba0cdff2d82ed8ca6307adc1cc7fa508a4d042b12d3df8abf067120dd14", func := "kelir/kelirlaw03.NightSpoilt", spec := "nightSpoilt", inPlace := ["internal/bytealg.CountString", "internal/bytealg.IndexByteString", "internal/bytealg.IndexString"], unfollowed := true, recurses := true, named := ["unicode/utf8.first", "unicode/utf8.acceptRanges", "internal/bytealg.MaxLen", "internal/strconv.uint64pow10", "math/bits.deBruijn32tab", "math/bits.deBruijn64tab"], apart := false, laid := [("math/bits.deBruijn32tab", laid_math_bits_deBruijn32tab), ("math/bits.deBruijn64tab", laid_math_bits_deBruijn64tab), ("internal/strconv.uint64pow10", laid_internal_strconv_uint64pow10), ("unicode/utf8.acceptRanges", laid_unicode_utf8_acceptRanges), ("unicode/utf8.first", laid_unicode_utf8_first)], narrowed := true }
def NightSpoiltUptoSaid : Prop := nightSpoiltUptoRow.holds Tryz.pinned (OpenSpec.upto nightSpoiltSpec)

/-- 'kelirlaw03.NightMore', WHERE WHAT IT READS IS OF BULK AT MOST 1048576: true; the input reads as it did. -/
def nightMoreUptoRow : OpenClaim := { program := "ytjghdbdiejaacaagreatdoor", sum := "2a4c4ba0cdff2d82ed8ca6307adc1cc7fa508a4d042b12d3df8abf067120dd14", func := "kelir/kelirlaw03.NightMore", spec := "nightMore", inPlace := ["internal/bytealg.CountString", "internal/bytealg.IndexByteString", "internal/bytealg.IndexString"], unfollowed := true, recurses := true, named := ["unicode/utf8.first", "unicode/utf8.acceptRanges", "internal/bytealg.MaxLen", "internal/strconv.uint64pow10", "math/bits.deBruijn32tab", "math/bits.deBruijn64tab"], apart := false, laid := [("math/bits.deBruijn32tab", laid_math_bits_deBruijn32tab), ("math/bits.deBruijn64tab", laid_math_bits_deBruijn64tab), ("internal/strconv.uint64pow10", laid_internal_strconv_uint64pow10), ("unicode/utf8.acceptRanges", laid_unicode_utf8_acceptRanges), ("unicode/utf8.first", laid_unicode_utf8_first)], narrowed := true }
def NightMoreUptoSaid : Prop := nightMoreUptoRow.holds Tryz.pinned (OpenSpec.upto nightMoreSpec)

/-- 'kelirlaw03.NightWithin', WHERE WHAT IT READS IS OF BULK AT MOST 1048576: true; the input reads as it did. -/
def nightWithinUptoRow : OpenClaim := { program := "ytjghdbdiejaacaagreatdoor", sum := "2a4c4ba0cdff2d82ed8ca6307adc1cc7fa508a4d042b12d3df8abf067120dd14", func := "kelir/kelirlaw03.NightWithin", spec := "nightWithin", inPlace := ["internal/bytealg.CountString", "internal/bytealg.IndexByteString", "internal/bytealg.IndexString"], unfollowed := true, recurses := true, named := ["unicode/utf8.first", "unicode/utf8.acceptRanges", "internal/bytealg.MaxLen", "internal/strconv.uint64pow10", "math/bits.deBruijn32tab", "math/bits.deBruijn64tab"], apart := false, laid := [("math/bits.deBruijn32tab", laid_math_bits_deBruijn32tab), ("math/bits.deBruijn64tab", laid_math_bits_deBruijn64tab), ("internal/strconv.uint64pow10", laid_internal_strconv_uint64pow10), ("unicode/utf8.acceptRanges", laid_unicode_utf8_acceptRanges), ("unicode/utf8.first", laid_unicode_utf8_first)], narrowed := true }
def NightWithinUptoSaid : Prop := nightWithinUptoRow.holds Tryz.pinned (OpenSpec.upto nightWithinSpec)

/-- 'kelirlaw03.NightBest', WHERE WHAT IT READS IS OF BULK AT MOST 1048576: true; the input reads as it did. -/
def nightBestUptoRow : OpenClaim := { program := "ytjghdbdiejaacaagreatdoor", sum := "2a4c4ba0cdff2d82ed8ca6307adc1cc7fa508a4d042b12d3df8abf067120dd14", func := "kelir/kelirlaw03.NightBest", spec := "nightBest", inPlace := ["internal/bytealg.CountString", "internal/bytealg.IndexByteString", "internal/bytealg.IndexString"], unfollowed := true, recurses := true, named := ["unicode/utf8.first", "unicode/utf8.acceptRanges", "internal/bytealg.MaxLen", "internal/strconv.uint64pow10", "math/bits.deBruijn32tab", "math/bits.deBruijn64tab"], apart := false, laid := [("math/bits.deBruijn32tab", laid_math_bits_deBruijn32tab), ("math/bits.deBruijn64tab", laid_math_bits_deBruijn64tab), ("internal/strconv.uint64pow10", laid_internal_strconv_uint64pow10), ("unicode/utf8.acceptRanges", laid_unicode_utf8_acceptRanges), ("unicode/utf8.first", laid_unicode_utf8_first)], narrowed := true }
def NightBestUptoSaid : Prop := nightBestUptoRow.holds Tryz.pinned (OpenSpec.upto nightBestSpec)

/-- 'kelirlaw03.NightProof', WHERE WHAT IT READS IS OF BULK AT MOST 1048576: true; the input reads as it did. -/
def nightProofUptoRow : OpenClaim := { program := "ytjghdbdiejaacaagreatdoor", sum := "2a4c4ba0cdff2d82ed8ca6307adc1cc7fa508a4d042b12d3df8abf067120dd14", func := "kelir/kelirlaw03.NightProof", spec := "nightProof", inPlace := ["internal/bytealg.CountString", "internal/bytealg.IndexByteString", "internal/bytealg.IndexString"], unfollowed := true, recurses := true, named := ["unicode/utf8.first", "unicode/utf8.acceptRanges", "internal/bytealg.MaxLen", "internal/strconv.uint64pow10", "math/bits.deBruijn32tab", "math/bits.deBruijn64tab"], apart := false, laid := [("math/bits.deBruijn32tab", laid_math_bits_deBruijn32tab), ("math/bits.deBruijn64tab", laid_math_bits_deBruijn64tab), ("internal/strconv.uint64pow10", laid_internal_strconv_uint64pow10), ("unicode/utf8.acceptRanges", laid_unicode_utf8_acceptRanges), ("unicode/utf8.first", laid_unicode_utf8_first)], narrowed := true }
def NightProofUptoSaid : Prop := nightProofUptoRow.holds Tryz.pinned (OpenSpec.upto nightProofSpec)

/-- 'kelirlaw03.NightSures', WHERE WHAT IT READS IS OF BULK AT MOST 1048576: true; the input reads as it did. -/
def nightSuresUptoRow : OpenClaim := { program := "ytjghdbdiejaacaagreatdoor", sum := "2a4c4ba0cdff2d82ed8ca6307adc1cc7fa508a4d042b12d3df8abf067120dd14", func := "kelir/kelirlaw03.NightSures", spec := "nightSures", inPlace := ["internal/bytealg.CountString", "internal/bytealg.IndexByteString", "internal/bytealg.IndexString"], unfollowed := true, recurses := true, named := ["unicode/utf8.first", "unicode/utf8.acceptRanges", "internal/bytealg.MaxLen", "internal/strconv.uint64pow10", "math/bits.deBruijn32tab", "math/bits.deBruijn64tab"], apart := false, laid := [("math/bits.deBruijn32tab", laid_math_bits_deBruijn32tab), ("math/bits.deBruijn64tab", laid_math_bits_deBruijn64tab), ("internal/strconv.uint64pow10", laid_internal_strconv_uint64pow10), ("unicode/utf8.acceptRanges", laid_unicode_utf8_acceptRanges), ("unicode/utf8.first", laid_unicode_utf8_first)], narrowed := true }
def NightSuresUptoSaid : Prop := nightSuresUptoRow.holds Tryz.pinned (OpenSpec.upto nightSuresSpec)

/-- 'kelirlaw03.NightLongers', WHERE WHAT IT READS IS OF BULK AT MOST 1048576: true; the input reads as it did. -/
def nightLongersUptoRow : OpenClaim := { program := "ytjghdbdiejaacaagreatdoor", sum := "2a4c4ba0cdff2d82ed8ca6307adc1cc7fa508a4d042b12d3df8abf067120dd14", func := "kelir/kelirlaw03.NightLongers", spec := "nightLongers", inPlace := ["internal/bytealg.CountString", "internal/bytealg.IndexByteString", "internal/bytealg.IndexString"], unfollowed := true, recurses := true, named := ["unicode/utf8.first", "unicode/utf8.acceptRanges", "internal/bytealg.MaxLen", "internal/strconv.uint64pow10", "math/bits.deBruijn32tab", "math/bits.deBruijn64tab"], apart := false, laid := [("math/bits.deBruijn32tab", laid_math_bits_deBruijn32tab), ("math/bits.deBruijn64tab", laid_math_bits_deBruijn64tab), ("internal/strconv.uint64pow10", laid_internal_strconv_uint64pow10), ("unicode/utf8.acceptRanges", laid_unicode_utf8_acceptRanges), ("unicode/utf8.first", laid_unicode_utf8_first)], narrowed := true }
def NightLongersUptoSaid : Prop := nightLongersUptoRow.holds Tryz.pinned (OpenSpec.upto nightLongersSpec)

/-- 'kelirlaw03.NightEnough', WHERE WHAT IT READS IS OF BULK AT MOST 1048576: true; the input reads as it did. -/
def nightEnoughUptoRow : OpenClaim := { program := "ytjghdbdiejaacaagreatdoor", sum := "2a4c4ba0cdff2d82ed8ca6307adc1cc7fa508a4d042b12d3df8abf067120dd14", func := "kelir/kelirlaw03.NightEnough", spec := "nightEnough", inPlace := ["internal/bytealg.CountString", "internal/bytealg.IndexByteString", "internal/bytealg.IndexString"], unfollowed := true, recurses := true, named := ["unicode/utf8.first", "unicode/utf8.acceptRanges", "internal/bytealg.MaxLen", "internal/strconv.uint64pow10", "math/bits.deBruijn32tab", "math/bits.deBruijn64tab"], apart := false, laid := [("math/bits.deBruijn32tab", laid_math_bits_deBruijn32tab), ("math/bits.deBruijn64tab", laid_math_bits_deBruijn64tab), ("internal/strconv.uint64pow10", laid_internal_strconv_uint64pow10), ("unicode/utf8.acceptRanges", laid_unicode_utf8_acceptRanges), ("unicode/utf8.first", laid_unicode_utf8_first)], narrowed := true }
def NightEnoughUptoSaid : Prop := nightEnoughUptoRow.holds Tryz.pinned (OpenSpec.upto nightEnoughSpec)

/-- 'kelirlaw03.NightFits', WHERE WHAT IT READS IS OF BULK AT MOST 1048576: true; the input reads as it did. -/
def nightFitsUptoRow : OpenClaim := { program := "ytjghdbdiejaacaagreatdoor", sum := "2a4c4ba0cdff2d82ed8ca6307adc1cc7fa508a4d042b12d3df8abf067120dd14", func := "kelir/kelirlaw03.NightFits", spec := "nightFits", inPlace := ["internal/bytealg.CountString", "internal/bytealg.IndexByteString", "internal/bytealg.IndexString"], unfollowed := true, recurses := true, named := ["unicode/utf8.first", "unicode/utf8.acceptRanges", "internal/bytealg.MaxLen", "internal/strconv.uint64pow10", "math/bits.deBruijn32tab", "math/bits.deBruijn64tab"], apart := false, laid := [("math/bits.deBruijn32tab", laid_math_bits_deBruijn32tab), ("math/bits.deBruijn64tab", laid_math_bits_deBruijn64tab), ("internal/strconv.uint64pow10", laid_internal_strconv_uint64pow10), ("unicode/utf8.acceptRanges", laid_unicode_utf8_acceptRanges), ("unicode/utf8.first", laid_unicode_utf8_first)], narrowed := true }
def NightFitsUptoSaid : Prop := nightFitsUptoRow.holds Tryz.pinned (OpenSpec.upto nightFitsSpec)

/-- 'kelirlaw03.NightStars', WHERE WHAT IT READS IS OF BULK AT MOST 1048576: true; the input reads as it did. -/
def nightStarsUptoRow : OpenClaim := { program := "ytjghdbdiejaacaagreatdoor", sum := "2a4c4ba0cdff2d82ed8ca6307adc1cc7fa508a4d042b12d3df8abf067120dd14", func := "kelir/kelirlaw03.NightStars", spec := "nightStars", inPlace := ["internal/bytealg.CountString", "internal/bytealg.IndexByteString", "internal/bytealg.IndexString"], unfollowed := true, recurses := true, named := ["unicode/utf8.first", "unicode/utf8.acceptRanges", "internal/bytealg.MaxLen", "internal/strconv.uint64pow10", "math/bits.deBruijn32tab", "math/bits.deBruijn64tab"], apart := false, laid := [("math/bits.deBruijn32tab", laid_math_bits_deBruijn32tab), ("math/bits.deBruijn64tab", laid_math_bits_deBruijn64tab), ("internal/strconv.uint64pow10", laid_internal_strconv_uint64pow10), ("unicode/utf8.acceptRanges", laid_unicode_utf8_acceptRanges), ("unicode/utf8.first", laid_unicode_utf8_first)], narrowed := true }
def NightStarsUptoSaid : Prop := nightStarsUptoRow.holds Tryz.pinned (OpenSpec.upto nightStarsSpec)

end Rows
end Go.Proofs.YtjghdbdiejaacaaGreatDoor
