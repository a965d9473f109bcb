/-
  NARROWER THAN 'FOR EVERY INPUT', by the rows' own cells (each row's printed sentence says how): OutlineRays: laid · OutlineSelf: laid · OutlineNexts: laid · OutlineLooks: laid · OutlineMistakes: laid · OutlineTold: laid · OutlineMore: laid · OutlinePrints: laid · OutlineBooks: laid · OutlineSpoilt: laid · OutlineFits: laid · OutlineNear: laid · OutlineCells: laid · OutlineProof: laid · OutlineFlames: laid · OutlineShadows: laid · OutlineReads: laid · OutlineSeen: laid · OutlineJoins: laid · OutlineMeeting: laid.
  DERIVED. THE GIVEN ROWS OF THIS SEAT. 20 by the template 'for every input the law returns true; each argument reads behind the call as it read before'; 0 by the template 'total and deterministic' (their statements: YtmbknoaneglilaaGreatDoorTotals.lean).
  GIVEN WITH THE SEED: the statements are not yours to turn. If you find one false, say at which input.
  Laid BY PROGRAM, IN A SANDBOX (cutbox-rows.mjs): the forced cells as the released guide's own fill.sh prints them over the translation b2f927bd4f447fe5… (all of the seat's roots in one cut). By AI agents, Wed Nov 11 2026. No macro, syntax, notation, axiom, sorry.
-/
import Derived.Test.YtmbknoaneglilaaGreatDoorChecked
import GoSem.PinnedTables
import GoSem.Claim
import GoSem.ClaimJoined
import GoSem.ClaimMapViews
import Derived.JoinedTies
import Derived.KernelRfl
namespace Go.Proofs.YtmbknoaneglilaaGreatDoor
/- THE CELL 'sum', in the pinned program and in every row, IS THE sha256 OF THE DUMP (.gsa) THAT YtmbknoaneglilaaGreatDoorProg.lean LOADS. Nothing in Lean hashes anything: it is a label: what it is worth is what the hold of that sum in a sandbox is worth. -/
noncomputable def Tryz.pinned : Pinned := { name := "ytmbknoaneglilaagreatdoor", sum := "b2f927bd4f447fe58584bcb4401a938e087db1d9ca81237c8be3b22711d7dd7e", checked := Tryz.checked }
namespace Rows
def none {H : Type} : Left H := { results := [], args := [] }

/- WHAT THE LISTED PACKAGE-LEVEL VARIABLES READ AS WHEN THE CALL BEGINS. Each datum BY PROGRAM (the guide's laid-datum.mjs) off the statement by which the dump's own 'gosem.cut.vars' lays the variable. In a bare row this is a premise. The card (YtmbknoaneglilaaGreatDoorCards.lean) ties it to the program's text. -/
def laid_math_bits_deBruijn32tab {H : Type} : DataW H := .agg [.lit (.int .u8 0), .lit (.int .u8 1), .lit (.int .u8 28), .lit (.int .u8 2), .lit (.int .u8 29), .lit (.int .u8 14), .lit (.int .u8 24), .lit (.int .u8 3), .lit (.int .u8 30), .lit (.int .u8 22), .lit (.int .u8 20), .lit (.int .u8 15), .lit (.int .u8 25), .lit (.int .u8 17), .lit (.int .u8 4), .lit (.int .u8 8), .lit (.int .u8 31), .lit (.int .u8 27), .lit (.int .u8 13), .lit (.int .u8 23), .lit (.int .u8 21), .lit (.int .u8 19), .lit (.int .u8 16), .lit (.int .u8 7), .lit (.int .u8 26), .lit (.int .u8 12), .lit (.int .u8 18), .lit (.int .u8 6), .lit (.int .u8 11), .lit (.int .u8 5), .lit (.int .u8 10), .lit (.int .u8 9)]
def laid_math_bits_deBruijn64tab {H : Type} : DataW H := .agg [.lit (.int .u8 0), .lit (.int .u8 1), .lit (.int .u8 56), .lit (.int .u8 2), .lit (.int .u8 57), .lit (.int .u8 49), .lit (.int .u8 28), .lit (.int .u8 3), .lit (.int .u8 61), .lit (.int .u8 58), .lit (.int .u8 42), .lit (.int .u8 50), .lit (.int .u8 38), .lit (.int .u8 29), .lit (.int .u8 17), .lit (.int .u8 4), .lit (.int .u8 62), .lit (.int .u8 47), .lit (.int .u8 59), .lit (.int .u8 36), .lit (.int .u8 45), .lit (.int .u8 43), .lit (.int .u8 51), .lit (.int .u8 22), .lit (.int .u8 53), .lit (.int .u8 39), .lit (.int .u8 33), .lit (.int .u8 30), .lit (.int .u8 24), .lit (.int .u8 18), .lit (.int .u8 12), .lit (.int .u8 5), .lit (.int .u8 63), .lit (.int .u8 55), .lit (.int .u8 48), .lit (.int .u8 27), .lit (.int .u8 60), .lit (.int .u8 41), .lit (.int .u8 37), .lit (.int .u8 16), .lit (.int .u8 46), .lit (.int .u8 35), .lit (.int .u8 44), .lit (.int .u8 21), .lit (.int .u8 52), .lit (.int .u8 32), .lit (.int .u8 23), .lit (.int .u8 11), .lit (.int .u8 54), .lit (.int .u8 26), .lit (.int .u8 40), .lit (.int .u8 15), .lit (.int .u8 34), .lit (.int .u8 20), .lit (.int .u8 31), .lit (.int .u8 10), .lit (.int .u8 25), .lit (.int .u8 14), .lit (.int .u8 19), .lit (.int .u8 9), .lit (.int .u8 13), .lit (.int .u8 8), .lit (.int .u8 7), .lit (.int .u8 6)]
def laid_internal_strconv_uint64pow10 {H : Type} : DataW H := .agg [.lit (.int .u64 1), .lit (.int .u64 10), .lit (.int .u64 100), .lit (.int .u64 1000), .lit (.int .u64 10000), .lit (.int .u64 100000), .lit (.int .u64 1000000), .lit (.int .u64 10000000), .lit (.int .u64 100000000), .lit (.int .u64 1000000000), .lit (.int .u64 10000000000), .lit (.int .u64 100000000000), .lit (.int .u64 1000000000000), .lit (.int .u64 10000000000000), .lit (.int .u64 100000000000000), .lit (.int .u64 1000000000000000), .lit (.int .u64 10000000000000000), .lit (.int .u64 100000000000000000), .lit (.int .u64 1000000000000000000), .lit (.int .u64 10000000000000000000)]
def laid_unicode_utf8_acceptRanges {H : Type} : DataW H := .agg [.agg [.lit (.int .u8 128), .lit (.int .u8 191)], .agg [.lit (.int .u8 160), .lit (.int .u8 191)], .agg [.lit (.int .u8 128), .lit (.int .u8 159)], .agg [.lit (.int .u8 144), .lit (.int .u8 191)], .agg [.lit (.int .u8 128), .lit (.int .u8 143)], .agg [.lit (.int .u8 0), .lit (.int .u8 0)], .agg [.lit (.int .u8 0), .lit (.int .u8 0)], .agg [.lit (.int .u8 0), .lit (.int .u8 0)], .agg [.lit (.int .u8 0), .lit (.int .u8 0)], .agg [.lit (.int .u8 0), .lit (.int .u8 0)], .agg [.lit (.int .u8 0), .lit (.int .u8 0)], .agg [.lit (.int .u8 0), .lit (.int .u8 0)], .agg [.lit (.int .u8 0), .lit (.int .u8 0)], .agg [.lit (.int .u8 0), .lit (.int .u8 0)], .agg [.lit (.int .u8 0), .lit (.int .u8 0)], .agg [.lit (.int .u8 0), .lit (.int .u8 0)]]
/-- One of Go's own tables, pinned by name: the form's constant. -/
def laid_unicode_utf8_first : DataW Unit := Go.Pinned.utf8First

/-- 'kelirlaw01.OutlineRays': WHATEVER THE INPUT: true; the input reads as it did. -/
def outlineRaysSpec : ChangeSpec := { name := "outlineRays", fn := fun _ => fun
  | [d1, d2, d3, d4, d5, d6, d7, d8, d9] => { results := [.lit (.bool true)], args := [d1, d2, d3, d4, d5, d6, d7, d8, d9] }
  | _ => none }
def outlineRaysRow : OpenClaim := { program := "ytmbknoaneglilaagreatdoor", sum := "b2f927bd4f447fe58584bcb4401a938e087db1d9ca81237c8be3b22711d7dd7e", func := "kelir/kelirlaw01.OutlineRays", spec := "outlineRays", inPlace := ["internal/abi.NoEscape", "internal/bytealg.CountString", "internal/bytealg.IndexByteString", "internal/bytealg.IndexString", "internal/bytealg.MakeNoZero"], unfollowed := true, recurses := true, named := ["internal/bytealg.MaxLen", "unicode/utf8.first", "unicode/utf8.acceptRanges", "internal/strconv.uint64pow10", "math/bits.deBruijn32tab", "math/bits.deBruijn64tab"], apart := false, laid := [("math/bits.deBruijn32tab", laid_math_bits_deBruijn32tab), ("math/bits.deBruijn64tab", laid_math_bits_deBruijn64tab), ("internal/strconv.uint64pow10", laid_internal_strconv_uint64pow10), ("unicode/utf8.acceptRanges", laid_unicode_utf8_acceptRanges), ("unicode/utf8.first", laid_unicode_utf8_first)] }
def OutlineRaysSaid : Prop := outlineRaysRow.holds Tryz.pinned (OpenSpec.ofChange outlineRaysSpec)

/-- ITS FALSE NEIGHBOUR: 'it returns false'. Refute it at one input. -/
def outlineRaysWrong : ChangeSpec := { name := "outlineRays", fn := fun _ => fun
  | [d1, d2, d3, d4, d5, d6, d7, d8, d9] => { results := [.lit (.bool false)], args := [d1, d2, d3, d4, d5, d6, d7, d8, d9] }
  | _ => none }
def OutlineRaysWrongFalsely : Prop := outlineRaysRow.holds Tryz.pinned (OpenSpec.ofChange outlineRaysWrong)

/-- 'kelirlaw01.OutlineSelf': WHATEVER THE INPUT: true; the input reads as it did. -/
def outlineSelfSpec : ChangeSpec := { name := "outlineSelf", fn := fun _ => fun
  | [d1, d2, d3, d4, d5, d6] => { results := [.lit (.bool true)], args := [d1, d2, d3, d4, d5, d6] }
  | _ => none }
def outlineSelfRow : OpenClaim := { program := "ytmbknoaneglilaagreatdoor", sum := "b2f927bd4f447fe58584bcb4401a938e087db1d9ca81237c8be3b22711d7dd7e", func := "kelir/kelirlaw01.OutlineSelf", spec := "outlineSelf", inPlace := ["internal/abi.NoEscape", "internal/bytealg.CountString", "internal/bytealg.IndexByteString", "internal/bytealg.IndexString", "internal/bytealg.MakeNoZero"], unfollowed := true, recurses := true, named := ["internal/bytealg.MaxLen", "unicode/utf8.first", "unicode/utf8.acceptRanges", "internal/strconv.uint64pow10", "math/bits.deBruijn32tab", "math/bits.deBruijn64tab"], apart := false, laid := [("math/bits.deBruijn32tab", laid_math_bits_deBruijn32tab), ("math/bits.deBruijn64tab", laid_math_bits_deBruijn64tab), ("internal/strconv.uint64pow10", laid_internal_strconv_uint64pow10), ("unicode/utf8.acceptRanges", laid_unicode_utf8_acceptRanges), ("unicode/utf8.first", laid_unicode_utf8_first)] }
def OutlineSelfSaid : Prop := outlineSelfRow.holds Tryz.pinned (OpenSpec.ofChange outlineSelfSpec)

/-- ITS FALSE NEIGHBOUR: 'it returns false'. Refute it at one input. -/
def outlineSelfWrong : ChangeSpec := { name := "outlineSelf", fn := fun _ => fun
  | [d1, d2, d3, d4, d5, d6] => { results := [.lit (.bool false)], args := [d1, d2, d3, d4, d5, d6] }
  | _ => none }
def OutlineSelfWrongFalsely : Prop := outlineSelfRow.holds Tryz.pinned (OpenSpec.ofChange outlineSelfWrong)

/-- 'kelirlaw01.OutlineNexts': WHATEVER THE INPUT: true; the input reads as it did. -/
def outlineNextsSpec : ChangeSpec := { name := "outlineNexts", fn := fun _ => fun
  | [d1, d2, d3, d4] => { results := [.lit (.bool true)], args := [d1, d2, d3, d4] }
  | _ => none }
def outlineNextsRow : OpenClaim := { program := "ytmbknoaneglilaagreatdoor", sum := "b2f927bd4f447fe58584bcb4401a938e087db1d9ca81237c8be3b22711d7dd7e", func := "kelir/kelirlaw01.OutlineNexts", spec := "outlineNexts", inPlace := ["internal/abi.NoEscape", "internal/bytealg.CountString", "internal/bytealg.IndexByteString", "internal/bytealg.IndexString", "internal/bytealg.MakeNoZero"], unfollowed := true, recurses := true, named := ["internal/bytealg.MaxLen", "unicode/utf8.first", "unicode/utf8.acceptRanges", "internal/strconv.uint64pow10", "math/bits.deBruijn32tab", "math/bits.deBruijn64tab"], apart := false, laid := [("math/bits.deBruijn32tab", laid_math_bits_deBruijn32tab), ("math/bits.deBruijn64tab", laid_math_bits_deBruijn64tab), ("internal/strconv.uint64pow10", laid_internal_strconv_uint64pow10), ("unicode/utf8.acceptRanges", laid_unicode_utf8_acceptRanges), ("unicode/utf8.first", laid_unicode_utf8_first)] }
def OutlineNextsSaid : Prop := outlineNextsRow.holds Tryz.pinned (OpenSpec.ofChange outlineNextsSpec)

/-- ITS FALSE NEIGHBOUR: 'it returns false'. Refute it at one input. -/
def outlineNextsWrong : ChangeSpec := { name := "outlineNexts", fn := fun _ => fun
  | [d1, d2, d3, d4] => { results := [.lit (.bool false)], args := [d1, d2, d3, d4] }
  | _ => none }
def OutlineNextsWrongFalsely : Prop := outlineNextsRow.holds Tryz.pinned (OpenSpec.ofChange outlineNextsWrong)

/-- 'kelirlaw01.OutlineLooks': WHATEVER THE INPUT: true; the input reads as it did. -/
def outlineLooksSpec : ChangeSpec := { name := "outlineLooks", fn := fun _ => fun
  | [d1, d2, d3, d4, d5] => { results := [.lit (.bool true)], args := [d1, d2, d3, d4, d5] }
  | _ => none }
def outlineLooksRow : OpenClaim := { program := "ytmbknoaneglilaagreatdoor", sum := "b2f927bd4f447fe58584bcb4401a938e087db1d9ca81237c8be3b22711d7dd7e", func := "kelir/kelirlaw01.OutlineLooks", spec := "outlineLooks", inPlace := ["internal/abi.NoEscape", "internal/bytealg.CountString", "internal/bytealg.IndexByteString", "internal/bytealg.IndexString", "internal/bytealg.MakeNoZero"], unfollowed := true, recurses := true, named := ["internal/bytealg.MaxLen", "unicode/utf8.first", "unicode/utf8.acceptRanges", "internal/strconv.uint64pow10", "math/bits.deBruijn32tab", "math/bits.deBruijn64tab"], apart := false, laid := [("math/bits.deBruijn32tab", laid_math_bits_deBruijn32tab), ("math/bits.deBruijn64tab", laid_math_bits_deBruijn64tab), ("internal/strconv.uint64pow10", laid_internal_strconv_uint64pow10), ("unicode/utf8.acceptRanges", laid_unicode_utf8_acceptRanges), ("unicode/utf8.first", laid_unicode_utf8_first)] }
def OutlineLooksSaid : Prop := outlineLooksRow.holds Tryz.pinned (OpenSpec.ofChange outlineLooksSpec)

/-- ITS FALSE NEIGHBOUR: 'it returns false'. Refute it at one input. -/
def outlineLooksWrong : ChangeSpec := { name := "outlineLooks", fn := fun _ => fun
  | [d1, d2, d3, d4, d5] => { results := [.lit (.bool false)], args := [d1, d2, d3, d4, d5] }
  | _ => none }
def OutlineLooksWrongFalsely : Prop := outlineLooksRow.holds Tryz.pinned (OpenSpec.ofChange outlineLooksWrong)

/-- 'kelirlaw01.OutlineMistakes': WHATEVER THE INPUT: true; the input reads as it did. -/
def outlineMistakesSpec : ChangeSpec := { name := "outlineMistakes", fn := fun _ => fun
  | [d1, d2, d3, d4] => { results := [.lit (.bool true)], args := [d1, d2, d3, d4] }
  | _ => none }
def outlineMistakesRow : OpenClaim := { program := "ytmbknoaneglilaagreatdoor", sum := "b2f927bd4f447fe58584bcb4401a938e087db1d9ca81237c8be3b22711d7dd7e", func := "kelir/kelirlaw01.OutlineMistakes", spec := "outlineMistakes", inPlace := ["internal/abi.NoEscape", "internal/bytealg.CountString", "internal/bytealg.IndexByteString", "internal/bytealg.IndexString", "internal/bytealg.MakeNoZero"], unfollowed := true, recurses := true, named := ["internal/bytealg.MaxLen", "unicode/utf8.first", "unicode/utf8.acceptRanges", "internal/strconv.uint64pow10", "math/bits.deBruijn32tab", "math/bits.deBruijn64tab"], apart := false, laid := [("math/bits.deBruijn32tab", laid_math_bits_deBruijn32tab), ("math/bits.deBruijn64tab", laid_math_bits_deBruijn64tab), ("internal/strconv.uint64pow10", laid_internal_strconv_uint64pow10), ("unicode/utf8.acceptRanges", laid_unicode_utf8_acceptRanges), ("unicode/utf8.first", laid_unicode_utf8_first)] }
def OutlineMistakesSaid : Prop := outlineMistakesRow.holds Tryz.pinned (OpenSpec.ofChange outlineMistakesSpec)

/-- ITS FALSE NEIGHBOUR: 'it returns false'. Refute it at one input. -/
def outlineMistakesWrong : ChangeSpec := { name := "outlineMistakes", fn := fun _ => fun
  | [d1, d2, d3, d4] => { results := [.lit (.bool false)], args := [d1, d2, d3, d4] }
  | _ => none }
def OutlineMistakesWrongFalsely : Prop := outlineMistakesRow.holds Tryz.pinned (OpenSpec.ofChange outlineMistakesWrong)

/-- 'kelirlaw01.OutlineTold': WHATEVER THE INPUT: true; the input reads as it did. -/
def outlineToldSpec : ChangeSpec := { name := "outlineTold", fn := fun _ => fun
  | [d1, d2, d3, d4, d5] => { results := [.lit (.bool true)], args := [d1, d2, d3, d4, d5] }
  | _ => none }
def outlineToldRow : OpenClaim := { program := "ytmbknoaneglilaagreatdoor", sum := "b2f927bd4f447fe58584bcb4401a938e087db1d9ca81237c8be3b22711d7dd7e", func := "kelir/kelirlaw01.OutlineTold", spec := "outlineTold", inPlace := ["internal/abi.NoEscape", "internal/bytealg.CountString", "internal/bytealg.IndexByteString", "internal/bytealg.IndexString", "internal/bytealg.MakeNoZero"], unfollowed := true, recurses := true, named := ["internal/bytealg.MaxLen", "unicode/utf8.first", "unicode/utf8.acceptRanges", "internal/strconv.uint64pow10", "math/bits.deBruijn32tab", "math/bits.deBruijn64tab"], apart := false, laid := [("math/bits.deBruijn32tab", laid_math_bits_deBruijn32tab), ("math/bits.deBruijn64tab", laid_math_bits_deBruijn64tab), ("internal/strconv.uint64pow10", laid_internal_strconv_uint64pow10), ("unicode/utf8.acceptRanges", laid_unicode_utf8_acceptRanges), ("unicode/utf8.first", laid_unicode_utf8_first)] }
def OutlineToldSaid : Prop := outlineToldRow.holds Tryz.pinned (OpenSpec.ofChange outlineToldSpec)

/-- ITS FALSE NEIGHBOUR: 'it returns false'. Refute it at one input. -/
def outlineToldWrong : ChangeSpec := { name := "outlineTold", fn := fun _ => fun
  | [d1, d2, d3, d4, d5] => { results := [.lit (.bool false)], args := [d1, d2, d3, d4, d5] }
  | _ => none }
def OutlineToldWrongFalsely : Prop := outlineToldRow.holds Tryz.pinned (OpenSpec.ofChange outlineToldWrong)

/-- 'kelirlaw01.OutlineMore': WHATEVER THE INPUT: true; the input reads as it did. -/
def outlineMoreSpec : ChangeSpec := { name := "outlineMore", fn := fun _ => fun
  | [d1, d2, d3, d4, d5, d6, d7, d8] => { results := [.lit (.bool true)], args := [d1, d2, d3, d4, d5, d6, d7, d8] }
  | _ => none }
def outlineMoreRow : OpenClaim := { program := "ytmbknoaneglilaagreatdoor", sum := "b2f927bd4f447fe58584bcb4401a938e087db1d9ca81237c8be3b22711d7dd7e", func := "kelir/kelirlaw01.OutlineMore", spec := "outlineMore", inPlace := ["internal/abi.NoEscape", "internal/bytealg.CountString", "internal/bytealg.IndexByteString", "internal/bytealg.IndexString", "internal/bytealg.MakeNoZero"], unfollowed := true, recurses := true, named := ["internal/bytealg.MaxLen", "unicode/utf8.first", "unicode/utf8.acceptRanges", "internal/strconv.uint64pow10", "math/bits.deBruijn32tab", "math/bits.deBruijn64tab"], apart := false, laid := [("math/bits.deBruijn32tab", laid_math_bits_deBruijn32tab), ("math/bits.deBruijn64tab", laid_math_bits_deBruijn64tab), ("internal/strconv.uint64pow10", laid_internal_strconv_uint64pow10), ("unicode/utf8.acceptRanges", laid_unicode_utf8_acceptRanges), ("unicode/utf8.first", laid_unicode_utf8_first)] }
def OutlineMoreSaid : Prop := outlineMoreRow.holds Tryz.pinned (OpenSpec.ofChange outlineMoreSpec)

/-- ITS FALSE NEIGHBOUR: 'it returns false'. Refute it at one input. -/
def outlineMoreWrong : ChangeSpec := { name := "outlineMore", fn := fun _ => fun
  | [d1, d2, d3, d4, d5, d6, d7, d8] => { results := [.lit (.bool false)], args := [d1, d2, d3, d4, d5, d6, d7, d8] }
  | _ => none }
def OutlineMoreWrongFalsely : Prop := outlineMoreRow.holds Tryz.pinned (OpenSpec.ofChange outlineMoreWrong)

/-- 'kelirlaw01.OutlinePrints': WHATEVER THE INPUT: true; the input reads as it did. -/
def outlinePrintsSpec : ChangeSpec := { name := "outlinePrints", fn := fun _ => fun
  | [d] => { results := [.lit (.bool true)], args := [d] }
  | _ => none }
def outlinePrintsRow : OpenClaim := { program := "ytmbknoaneglilaagreatdoor", sum := "b2f927bd4f447fe58584bcb4401a938e087db1d9ca81237c8be3b22711d7dd7e", func := "kelir/kelirlaw01.OutlinePrints", spec := "outlinePrints", inPlace := ["internal/abi.NoEscape", "internal/bytealg.CountString", "internal/bytealg.IndexByteString", "internal/bytealg.IndexString", "internal/bytealg.MakeNoZero"], unfollowed := true, recurses := true, named := ["internal/bytealg.MaxLen", "unicode/utf8.first", "unicode/utf8.acceptRanges", "internal/strconv.uint64pow10", "math/bits.deBruijn32tab", "math/bits.deBruijn64tab"], apart := false, laid := [("math/bits.deBruijn32tab", laid_math_bits_deBruijn32tab), ("math/bits.deBruijn64tab", laid_math_bits_deBruijn64tab), ("internal/strconv.uint64pow10", laid_internal_strconv_uint64pow10), ("unicode/utf8.acceptRanges", laid_unicode_utf8_acceptRanges), ("unicode/utf8.first", laid_unicode_utf8_first)] }
def OutlinePrintsSaid : Prop := outlinePrintsRow.holds Tryz.pinned (OpenSpec.ofChange outlinePrintsSpec)

/-- ITS FALSE NEIGHBOUR: 'it returns false'. Refute it at one input. -/
def outlinePrintsWrong : ChangeSpec := { name := "outlinePrints", fn := fun _ => fun
  | [d] => { results := [.lit (.bool false)], args := [d] }
  | _ => none }
def OutlinePrintsWrongFalsely : Prop := outlinePrintsRow.holds Tryz.pinned (OpenSpec.ofChange outlinePrintsWrong)

/-- 'kelirlaw01.OutlineBooks': WHATEVER THE INPUT: true; the input reads as it did. -/
def outlineBooksSpec : ChangeSpec := { name := "outlineBooks", fn := fun _ => fun
  | [d] => { results := [.lit (.bool true)], args := [d] }
  | _ => none }
def outlineBooksRow : OpenClaim := { program := "ytmbknoaneglilaagreatdoor", sum := "b2f927bd4f447fe58584bcb4401a938e087db1d9ca81237c8be3b22711d7dd7e", func := "kelir/kelirlaw01.OutlineBooks", spec := "outlineBooks", inPlace := ["internal/abi.NoEscape", "internal/bytealg.CountString", "internal/bytealg.IndexByteString", "internal/bytealg.IndexString", "internal/bytealg.MakeNoZero"], unfollowed := true, recurses := true, named := ["internal/bytealg.MaxLen", "unicode/utf8.first", "unicode/utf8.acceptRanges", "internal/strconv.uint64pow10", "math/bits.deBruijn32tab", "math/bits.deBruijn64tab"], apart := false, laid := [("math/bits.deBruijn32tab", laid_math_bits_deBruijn32tab), ("math/bits.deBruijn64tab", laid_math_bits_deBruijn64tab), ("internal/strconv.uint64pow10", laid_internal_strconv_uint64pow10), ("unicode/utf8.acceptRanges", laid_unicode_utf8_acceptRanges), ("unicode/utf8.first", laid_unicode_utf8_first)] }
def OutlineBooksSaid : Prop := outlineBooksRow.holds Tryz.pinned (OpenSpec.ofChange outlineBooksSpec)

/-- ITS FALSE NEIGHBOUR: 'it returns false'. Refute it at one input. -/
def outlineBooksWrong : ChangeSpec := { name := "outlineBooks", fn := fun _ => fun
  | [d] => { results := [.lit (.bool false)], args := [d] }
  | _ => none }
def OutlineBooksWrongFalsely : Prop := outlineBooksRow.holds Tryz.pinned (OpenSpec.ofChange outlineBooksWrong)

/-- 'kelirlaw01.OutlineSpoilt': WHATEVER THE INPUT: true; the input reads as it did. -/
def outlineSpoiltSpec : ChangeSpec := { name := "outlineSpoilt", fn := fun _ => fun
  | [d1, d2, d3] => { results := [.lit (.bool true)], args := [d1, d2, d3] }
  | _ => none }
def outlineSpoiltRow : OpenClaim := { program := "ytmbknoaneglilaagreatdoor", sum := "b2f927bd4f447fe58584bcb4401a938e087db1d9ca81237c8be3b22711d7dd7e", func := "kelir/kelirlaw01.OutlineSpoilt", spec := "outlineSpoilt", inPlace := ["internal/abi.NoEscape", "internal/bytealg.CountString", "internal/bytealg.IndexByteString", "internal/bytealg.IndexString", "internal/bytealg.MakeNoZero"], unfollowed := true, recurses := true, named := ["internal/bytealg.MaxLen", "unicode/utf8.first", "unicode/utf8.acceptRanges", "internal/strconv.uint64pow10", "math/bits.deBruijn32tab", "math/bits.deBruijn64tab"], apart := false, laid := [("math/bits.deBruijn32tab", laid_math_bits_deBruijn32tab), ("math/bits.deBruijn64tab", laid_math_bits_deBruijn64tab), ("internal/strconv.uint64pow10", laid_internal_strconv_uint64pow10), ("unicode/utf8.acceptRanges", laid_unicode_utf8_acceptRanges), ("unicode/utf8.first", laid_unicode_utf8_first)] }
def OutlineSpoiltSaid : Prop := outlineSpoiltRow.holds Tryz.pinned (OpenSpec.ofChange outlineSpoiltSpec)

/-- ITS FALSE NEIGHBOUR: 'it returns false'. Refute it at one input. -/
def outlineSpoiltWrong : ChangeSpec := { name := "outlineSpoilt", fn := fun _ => fun
  | [d1, d2, d3] => { results := [.lit (.bool false)], args := [d1, d2, d3] }
  | _ => none }
def OutlineSpoiltWrongFalsely : Prop := outlineSpoiltRow.holds Tryz.pinned (OpenSpec.ofChange outlineSpoiltWrong)

/-- 'kelirlaw01.OutlineFits': WHATEVER THE INPUT: true; the input reads as it did. -/
def outlineFitsSpec : ChangeSpec := { name := "outlineFits", fn := fun _ => fun
  | [d1, d2, d3] => { results := [.lit (.bool true)], args := [d1, d2, d3] }
  | _ => none }
def outlineFitsRow : OpenClaim := { program := "ytmbknoaneglilaagreatdoor", sum := "b2f927bd4f447fe58584bcb4401a938e087db1d9ca81237c8be3b22711d7dd7e", func := "kelir/kelirlaw01.OutlineFits", spec := "outlineFits", inPlace := ["internal/abi.NoEscape", "internal/bytealg.CountString", "internal/bytealg.IndexByteString", "internal/bytealg.IndexString", "internal/bytealg.MakeNoZero"], unfollowed := true, recurses := true, named := ["internal/bytealg.MaxLen", "unicode/utf8.first", "unicode/utf8.acceptRanges", "internal/strconv.uint64pow10", "math/bits.deBruijn32tab", "math/bits.deBruijn64tab"], apart := false, laid := [("math/bits.deBruijn32tab", laid_math_bits_deBruijn32tab), ("math/bits.deBruijn64tab", laid_math_bits_deBruijn64tab), ("internal/strconv.uint64pow10", laid_internal_strconv_uint64pow10), ("unicode/utf8.acceptRanges", laid_unicode_utf8_acceptRanges), ("unicode/utf8.first", laid_unicode_utf8_first)] }
def OutlineFitsSaid : Prop := outlineFitsRow.holds Tryz.pinned (OpenSpec.ofChange outlineFitsSpec)

/-- ITS FALSE NEIGHBOUR: 'it returns false'. Refute it at one input. -/
def outlineFitsWrong : ChangeSpec := { name := "outlineFits", fn := fun _ => fun
  | [d1, d2, d3] => { results := [.lit (.bool false)], args := [d1, d2, d3] }
  | _ => none }
def OutlineFitsWrongFalsely : Prop := outlineFitsRow.holds Tryz.pinned (OpenSpec.ofChange outlineFitsWrong)

/-- 'kelirlaw01.OutlineNear': WHATEVER THE INPUT: true; the input reads as it did. -/
def outlineNearSpec : ChangeSpec := { name := "outlineNear", fn := fun _ => fun
  | [d1, d2, d3] => { results := [.lit (.bool true)], args := [d1, d2, d3] }
  | _ => none }
def outlineNearRow : OpenClaim := { program := "ytmbknoaneglilaagreatdoor", sum := "b2f927bd4f447fe58584bcb4401a938e087db1d9ca81237c8be3b22711d7dd7e", func := "kelir/kelirlaw01.OutlineNear", spec := "outlineNear", inPlace := ["internal/abi.NoEscape", "internal/bytealg.CountString", "internal/bytealg.IndexByteString", "internal/bytealg.IndexString", "internal/bytealg.MakeNoZero"], unfollowed := true, recurses := true, named := ["internal/bytealg.MaxLen", "unicode/utf8.first", "unicode/utf8.acceptRanges", "internal/strconv.uint64pow10", "math/bits.deBruijn32tab", "math/bits.deBruijn64tab"], apart := false, laid := [("math/bits.deBruijn32tab", laid_math_bits_deBruijn32tab), ("math/bits.deBruijn64tab", laid_math_bits_deBruijn64tab), ("internal/strconv.uint64pow10", laid_internal_strconv_uint64pow10), ("unicode/utf8.acceptRanges", laid_unicode_utf8_acceptRanges), ("unicode/utf8.first", laid_unicode_utf8_first)] }
def OutlineNearSaid : Prop := outlineNearRow.holds Tryz.pinned (OpenSpec.ofChange outlineNearSpec)

/-- ITS FALSE NEIGHBOUR: 'it returns false'. Refute it at one input. -/
def outlineNearWrong : ChangeSpec := { name := "outlineNear", fn := fun _ => fun
  | [d1, d2, d3] => { results := [.lit (.bool false)], args := [d1, d2, d3] }
  | _ => none }
def OutlineNearWrongFalsely : Prop := outlineNearRow.holds Tryz.pinned (OpenSpec.ofChange outlineNearWrong)

/-- 'kelirlaw01.OutlineCells': WHATEVER THE INPUT: true; the input reads as it did. -/
def outlineCellsSpec : ChangeSpec := { name := "outlineCells", fn := fun _ => fun
  | [d1, d2, d3, d4] => { results := [.lit (.bool true)], args := [d1, d2, d3, d4] }
  | _ => none }
def outlineCellsRow : OpenClaim := { program := "ytmbknoaneglilaagreatdoor", sum := "b2f927bd4f447fe58584bcb4401a938e087db1d9ca81237c8be3b22711d7dd7e", func := "kelir/kelirlaw01.OutlineCells", spec := "outlineCells", inPlace := ["internal/abi.NoEscape", "internal/bytealg.CountString", "internal/bytealg.IndexByteString", "internal/bytealg.IndexString", "internal/bytealg.MakeNoZero"], unfollowed := true, recurses := true, named := ["internal/bytealg.MaxLen", "unicode/utf8.first", "unicode/utf8.acceptRanges", "internal/strconv.uint64pow10", "math/bits.deBruijn32tab", "math/bits.deBruijn64tab"], apart := false, laid := [("math/bits.deBruijn32tab", laid_math_bits_deBruijn32tab), ("math/bits.deBruijn64tab", laid_math_bits_deBruijn64tab), ("internal/strconv.uint64pow10", laid_internal_strconv_uint64pow10), ("unicode/utf8.acceptRanges", laid_unicode_utf8_acceptRanges), ("unicode/utf8.first", laid_unicode_utf8_first)] }
def OutlineCellsSaid : Prop := outlineCellsRow.holds Tryz.pinned (OpenSpec.ofChange outlineCellsSpec)

/-- ITS FALSE NEIGHBOUR: 'it returns false'. Refute it at one input. -/
def outlineCellsWrong : ChangeSpec := { name := "outlineCells", fn := fun _ => fun
  | [d1, d2, d3, d4] => { results := [.lit (.bool false)], args := [d1, d2, d3, d4] }
  | _ => none }
def OutlineCellsWrongFalsely : Prop := outlineCellsRow.holds Tryz.pinned (OpenSpec.ofChange outlineCellsWrong)

/-- 'kelirlaw01.OutlineProof': WHATEVER THE INPUT: true; the input reads as it did. -/
def outlineProofSpec : ChangeSpec := { name := "outlineProof", fn := fun _ => fun
  | [d1, d2, d3, d4, d5, d6, d7] => { results := [.lit (.bool true)], args := [d1, d2, d3, d4, d5, d6, d7] }
  | _ => none }
def outlineProofRow : OpenClaim := { program := "ytmbknoaneglilaagreatdoor", sum := "b2f927bd4f447fe58584bcb4401a938e087db1d9ca81237c8be3b22711d7dd7e", func := "kelir/kelirlaw01.OutlineProof", spec := "outlineProof", inPlace := ["internal/abi.NoEscape", "internal/bytealg.CountString", "internal/bytealg.IndexByteString", "internal/bytealg.IndexString", "internal/bytealg.MakeNoZero"], unfollowed := true, recurses := true, named := ["internal/bytealg.MaxLen", "unicode/utf8.first", "unicode/utf8.acceptRanges", "internal/strconv.uint64pow10", "math/bits.deBruijn32tab", "math/bits.deBruijn64tab"], apart := false, laid := [("math/bits.deBruijn32tab", laid_math_bits_deBruijn32tab), ("math/bits.deBruijn64tab", laid_math_bits_deBruijn64tab), ("internal/strconv.uint64pow10", laid_internal_strconv_uint64pow10), ("unicode/utf8.acceptRanges", laid_unicode_utf8_acceptRanges), ("unicode/utf8.first", laid_unicode_utf8_first)] }
def OutlineProofSaid : Prop := outlineProofRow.holds Tryz.pinned (OpenSpec.ofChange outlineProofSpec)

/-- ITS FALSE NEIGHBOUR: 'it returns false'. Refute it at one input. -/
def outlineProofWrong : ChangeSpec := { name := "outlineProof", fn := fun _ => fun
  | [d1, d2, d3, d4, d5, d6, d7] => { results := [.lit (.bool false)], args := [d1, d2, d3, d4, d5, d6, d7] }
  | _ => none }
def OutlineProofWrongFalsely : Prop := outlineProofRow.holds Tryz.pinned (OpenSpec.ofChange outlineProofWrong)

/-- 'kelirlaw01.OutlineFlames': WHATEVER THE INPUT: true; the input reads as it did. -/
def outlineFlamesSpec : ChangeSpec := { name := "outlineFlames", fn := fun _ => fun
  | [d1, d2, d3, d4, d5, d6] => { results := [.lit (.bool true)], args := [d1, d2, d3, d4, d5, d6] }
  | _ => none }
def outlineFlamesRow : OpenClaim := { program := "ytmbknoaneglilaagreatdoor", sum := "b2f927bd4f447fe58584bcb4401a938e087db1d9ca81237c8be3b22711d7dd7e", func := "kelir/kelirlaw01.OutlineFlames", spec := "outlineFlames", inPlace := ["internal/abi.NoEscape", "internal/bytealg.CountString", "internal/bytealg.IndexByteString", "internal/bytealg.IndexString", "internal/bytealg.MakeNoZero"], unfollowed := true, recurses := true, named := ["internal/bytealg.MaxLen", "unicode/utf8.first", "unicode/utf8.acceptRanges", "internal/strconv.uint64pow10", "math/bits.deBruijn32tab", "math/bits.deBruijn64tab"], apart := false, laid := [("math/bits.deBruijn32tab", laid_math_bits_deBruijn32tab), ("math/bits.deBruijn64tab", laid_math_bits_deBruijn64tab), ("internal/strconv.uint64pow10", laid_internal_strconv_uint64pow10), ("unicode/utf8.acceptRanges", laid_unicode_utf8_acceptRanges), ("unicode/utf8.first", laid_unicode_utf8_first)] }
def OutlineFlamesSaid : Prop := outlineFlamesRow.holds Tryz.pinned (OpenSpec.ofChange outlineFlamesSpec)

/-- ITS FALSE NEIGHBOUR: 'it returns false'. Refute it at one input. -/
def outlineFlamesWrong : ChangeSpec := { name := "outlineFlames", fn := fun _ => fun
  | [d1, d2, d3, d4, d5, d6] => { results := [.lit (.bool false)], args := [d1, d2, d3, d4, d5, d6] }
  | _ => none }
def OutlineFlamesWrongFalsely : Prop := outlineFlamesRow.holds Tryz.pinned (OpenSpec.ofChange outlineFlamesWrong)

/-- 'kelirlaw01.OutlineShadows': WHATEVER THE INPUT: true; the input reads as it did. -/
def outlineShadowsSpec : ChangeSpec := { name := "outlineShadows", fn := fun _ => fun
  | [d1, d2, d3] => { results := [.lit (.bool true)], args := [d1, d2, d3] }
  | _ => none }
def outlineShadowsRow : OpenClaim := { program := "ytmbknoaneglilaagreatdoor", sum := "b2f927bd4f447fe58584bcb4401a938e087db1d9ca81237c8be3b22711d7dd7e", func := "kelir/kelirlaw01.OutlineShadows", spec := "outlineShadows", inPlace := ["internal/abi.NoEscape", "internal/bytealg.CountString", "internal/bytealg.IndexByteString", "internal/bytealg.IndexString", "internal/bytealg.MakeNoZero"], unfollowed := true, recurses := true, named := ["internal/bytealg.MaxLen", "unicode/utf8.first", "unicode/utf8.acceptRanges", "internal/strconv.uint64pow10", "math/bits.deBruijn32tab", "math/bits.deBruijn64tab"], apart := false, laid := [("math/bits.deBruijn32tab", laid_math_bits_deBruijn32tab), ("math/bits.deBruijn64tab", laid_math_bits_deBruijn64tab), ("internal/strconv.uint64pow10", laid_internal_strconv_uint64pow10), ("unicode/utf8.acceptRanges", laid_unicode_utf8_acceptRanges), ("unicode/utf8.first", laid_unicode_utf8_first)] }
def OutlineShadowsSaid : Prop := outlineShadowsRow.holds Tryz.pinned (OpenSpec.ofChange outlineShadowsSpec)

/-- ITS FALSE NEIGHBOUR: 'it returns false'. Refute it at one input. -/
def outlineShadowsWrong : ChangeSpec := { name := "outlineShadows", fn := fun _ => fun
  | [d1, d2, d3] => { results := [.lit (.bool false)], args := [d1, d2, d3] }
  | _ => none }
def OutlineShadowsWrongFalsely : Prop := outlineShadowsRow.holds Tryz.pinned (OpenSpec.ofChange outlineShadowsWrong)

/-- 'kelirlaw01.OutlineReads': WHATEVER THE INPUT: true; the input reads as it did. -/
def outlineReadsSpec : ChangeSpec := { name := "outlineReads", fn := fun _ => fun
  | [d1, d2, d3, d4] => { results := [.lit (.bool true)], args := [d1, d2, d3, d4] }
  | _ => none }
def outlineReadsRow : OpenClaim := { program := "ytmbknoaneglilaagreatdoor", sum := "b2f927bd4f447fe58584bcb4401a938e087db1d9ca81237c8be3b22711d7dd7e", func := "kelir/kelirlaw01.OutlineReads", spec := "outlineReads", inPlace := ["internal/abi.NoEscape", "internal/bytealg.CountString", "internal/bytealg.IndexByteString", "internal/bytealg.IndexString", "internal/bytealg.MakeNoZero"], unfollowed := true, recurses := true, named := ["internal/bytealg.MaxLen", "unicode/utf8.first", "unicode/utf8.acceptRanges", "internal/strconv.uint64pow10", "math/bits.deBruijn32tab", "math/bits.deBruijn64tab"], apart := false, laid := [("math/bits.deBruijn32tab", laid_math_bits_deBruijn32tab), ("math/bits.deBruijn64tab", laid_math_bits_deBruijn64tab), ("internal/strconv.uint64pow10", laid_internal_strconv_uint64pow10), ("unicode/utf8.acceptRanges", laid_unicode_utf8_acceptRanges), ("unicode/utf8.first", laid_unicode_utf8_first)] }
def OutlineReadsSaid : Prop := outlineReadsRow.holds Tryz.pinned (OpenSpec.ofChange outlineReadsSpec)

/-- ITS FALSE NEIGHBOUR: 'it returns false'. Refute it at one input. -/
def outlineReadsWrong : ChangeSpec := { name := "outlineReads", fn := fun _ => fun
  | [d1, d2, d3, d4] => { results := [.lit (.bool false)], args := [d1, d2, d3, d4] }
  | _ => none }
def OutlineReadsWrongFalsely : Prop := outlineReadsRow.holds Tryz.pinned (OpenSpec.ofChange outlineReadsWrong)

/-- 'kelirlaw01.OutlineSeen': WHATEVER THE INPUT: true; the input reads as it did. -/
def outlineSeenSpec : ChangeSpec := { name := "outlineSeen", fn := fun _ => fun
  | [d1, d2, d3, d4, d5] => { results := [.lit (.bool true)], args := [d1, d2, d3, d4, d5] }
  | _ => none }
def outlineSeenRow : OpenClaim := { program := "ytmbknoaneglilaagreatdoor", sum := "b2f927bd4f447fe58584bcb4401a938e087db1d9ca81237c8be3b22711d7dd7e", func := "kelir/kelirlaw01.OutlineSeen", spec := "outlineSeen", inPlace := ["internal/abi.NoEscape", "internal/bytealg.CountString", "internal/bytealg.IndexByteString", "internal/bytealg.IndexString", "internal/bytealg.MakeNoZero"], unfollowed := true, recurses := true, named := ["internal/bytealg.MaxLen", "unicode/utf8.first", "unicode/utf8.acceptRanges", "internal/strconv.uint64pow10", "math/bits.deBruijn32tab", "math/bits.deBruijn64tab"], apart := false, laid := [("math/bits.deBruijn32tab", laid_math_bits_deBruijn32tab), ("math/bits.deBruijn64tab", laid_math_bits_deBruijn64tab), ("internal/strconv.uint64pow10", laid_internal_strconv_uint64pow10), ("unicode/utf8.acceptRanges", laid_unicode_utf8_acceptRanges), ("unicode/utf8.first", laid_unicode_utf8_first)] }
def OutlineSeenSaid : Prop := outlineSeenRow.holds Tryz.pinned (OpenSpec.ofChange outlineSeenSpec)

/-- ITS FALSE NEIGHBOUR: 'it returns false'. Refute it at one input. -/
def outlineSeenWrong : ChangeSpec := { name := "outlineSeen", fn := fun _ => fun
  | [d1, d2, d3, d4, d5] => { results := [.lit (.bool false)], args := [d1, d2, d3, d4, d5] }
  | _ => none }
def OutlineSeenWrongFalsely : Prop := outlineSeenRow.holds Tryz.pinned (OpenSpec.ofChange outlineSeenWrong)

/-- 'kelirlaw01.OutlineJoins': WHATEVER THE INPUT: true; the input reads as it did. -/
def outlineJoinsSpec : ChangeSpec := { name := "outlineJoins", fn := fun _ => fun
  | [d1, d2, d3, d4, d5] => { results := [.lit (.bool true)], args := [d1, d2, d3, d4, d5] }
  | _ => none }
def outlineJoinsRow : OpenClaim := { program := "ytmbknoaneglilaagreatdoor", sum := "b2f927bd4f447fe58584bcb4401a938e087db1d9ca81237c8be3b22711d7dd7e", func := "kelir/kelirlaw01.OutlineJoins", spec := "outlineJoins", inPlace := ["internal/abi.NoEscape", "internal/bytealg.CountString", "internal/bytealg.IndexByteString", "internal/bytealg.IndexString", "internal/bytealg.MakeNoZero"], unfollowed := true, recurses := true, named := ["internal/bytealg.MaxLen", "unicode/utf8.first", "unicode/utf8.acceptRanges", "internal/strconv.uint64pow10", "math/bits.deBruijn32tab", "math/bits.deBruijn64tab"], apart := false, laid := [("math/bits.deBruijn32tab", laid_math_bits_deBruijn32tab), ("math/bits.deBruijn64tab", laid_math_bits_deBruijn64tab), ("internal/strconv.uint64pow10", laid_internal_strconv_uint64pow10), ("unicode/utf8.acceptRanges", laid_unicode_utf8_acceptRanges), ("unicode/utf8.first", laid_unicode_utf8_first)] }
def OutlineJoinsSaid : Prop := outlineJoinsRow.holds Tryz.pinned (OpenSpec.ofChange outlineJoinsSpec)

/-- ITS FALSE NEIGHBOUR: 'it returns false'. Refute it at one input. -/
def outlineJoinsWrong : ChangeSpec := { name := "outlineJoins", fn := fun _ => fun
  | [d1, d2, d3, d4, d5] => { results := [.lit (.bool false)], args := [d1, d2, d3, d4, d5] }
  | _ => none }
def OutlineJoinsWrongFalsely : Prop := outlineJoinsRow.holds Tryz.pinned (OpenSpec.ofChange outlineJoinsWrong)

/-- 'kelirlaw01.OutlineMeeting': WHATEVER THE INPUT: true; the input reads as it did. -/
def outlineMeetingSpec : ChangeSpec := { name := "outlineMeeting", fn := fun _ => fun
  | [d1, d2, d3, d4, d5] => { results := [.lit (.bool true)], args := [d1, d2, d3, d4, d5] }
  | _ => none }
def outlineMeetingRow : OpenClaim := { program := "ytmbknoaneglilaagreatdoor", sum := "b2f927bd4f447fe58584bcb4401a938e087db1d9ca81237c8be3b22711d7dd7e", func := "kelir/kelirlaw01.OutlineMeeting", spec := "outlineMeeting", inPlace := ["internal/abi.NoEscape", "internal/bytealg.CountString", "internal/bytealg.IndexByteString", "internal/bytealg.IndexString", "internal/bytealg.MakeNoZero"], unfollowed := true, recurses := true, named := ["internal/bytealg.MaxLen", "unicode/utf8.first", "unicode/utf8.acceptRanges", "internal/strconv.uint64pow10", "math/bits.deBruijn32tab", "math/bits.deBruijn64tab"], apart := false, laid := [("math/bits.deBruijn32tab", laid_math_bits_deBruijn32tab), ("math/bits.deBruijn64tab", laid_math_bits_deBruijn64tab), ("internal/strconv.uint64pow10", laid_internal_strconv_uint64pow10), ("unicode/utf8.acceptRanges", laid_unicode_utf8_acceptRanges), ("unicode/utf8.first", laid_unicode_utf8_first)] }
def OutlineMeetingSaid : Prop := outlineMeetingRow.holds Tryz.pinned (OpenSpec.ofChange outlineMeetingSpec)

/-- ITS FALSE NEIGHBOUR: 'it returns false'. Refute it at one input. -/
def outlineMeetingWrong : ChangeSpec := { name := "outlineMeeting", fn := fun _ => fun
  | [d1, d2, d3, d4, d5] => { results := [.lit (.bool false)], args := [d1, d2, d3, d4, d5] }
  | _ => none }
def OutlineMeetingWrongFalsely : Prop := outlineMeetingRow.holds Tryz.pinned (OpenSpec.ofChange outlineMeetingWrong)

/- THE SECOND FORM. 'bulk': how many values and letters a reading holds, each counted each time it is reached (what is shared counts as often as it is met; a slice's spare places count too). A statement '..UptoSaid' is the law's where the arguments, and the package variables that the reading takes, are together of bulk at most 1048576: NARROWER than '..Said'. Prove '..Said' where nothing that the law and all that it calls make is longer than what came in: it says more and counts as full. Else prove '..UptoSaid'. A law counts once. -/
mutual
def uptoBulk {H : Type} : DataW H → Nat
  | .lit (.string bytes) => bytes.length + 1
  | .lit _ => 1
  | .nil => 1
  | .ptr d => uptoBulk d + 1
  | .slice elems spare => uptoBulkAll elems + uptoBulkAll spare + 1
  | .agg parts => uptoBulkAll parts + 1
  | .iface _ d => uptoBulk d + 1
  | .map entries => uptoBulkEntries entries + 1
  | .held _ => 1
def uptoBulkAll {H : Type} : List (DataW H) → Nat
  | [] => 0
  | d :: r => uptoBulk d + uptoBulkAll r
def uptoBulkEntries {H : Type} : List (Lit × DataW H) → Nat
  | [] => 0
  | x :: r => uptoBulkEntry x + uptoBulkEntries r
def uptoBulkEntry {H : Type} : Lit × DataW H → Nat
  | (.string bytes, d) => bytes.length + uptoBulk d + 1
  | (_, d) => uptoBulk d + 1
 end
def uptoSmall : (H : Type) → List (DataW H) → Bool := fun _ ds => decide (uptoBulkAll ds ≤ 1048576)
def OpenSpec.upto (s : _root_.Go.ChangeSpec) : _root_.Go.OpenSpec := { _root_.Go.OpenSpec.ofChange s with cond := some uptoSmall }

/-- 'kelirlaw01.OutlineRays', WHERE WHAT IT READS IS OF BULK AT MOST 1048576: true; the input reads as it did. -/
def outlineRaysUptoRow : OpenClaim := { program := "ytmbknoaneglilaagreatdoor", sum := "b2f927bd4f447fe58584bcb4401a938e087db1d9ca81237c8be3b22711d7dd7e", func := "kelir/kelirlaw01.OutlineRays", spec := "outlineRays", inPlace := ["internal/abi.NoEscape", "internal/bytealg.CountString", "internal/bytealg.IndexByteString", "internal/bytealg.IndexString", "internal/bytealg.MakeNoZero"], unfollowed := true, recurses := true, named := ["internal/bytealg.MaxLen", "unicode/utf8.first", "unicode/utf8.acceptRanges", "internal/strconv.uint64pow10", "math/bits.deBruijn32tab", "math/bits.deBruijn64tab"], apart := false, laid := [("math/bits.deBruijn32tab", laid_math_bits_deBruijn32tab), ("math/bits.deBruijn64tab", laid_math_bits_deBruijn64tab), ("internal/strconv.uint64pow10", laid_internal_strconv_uint64pow10), ("unicode/utf8.acceptRanges", laid_unicode_utf8_acceptRanges), ("unicode/utf8.first", laid_unicode_utf8_first)], narrowed := true }
def OutlineRaysUptoSaid : Prop := outlineRaysUptoRow.holds Tryz.pinned (OpenSpec.upto outlineRaysSpec)

/-- 'kelirlaw01.OutlineSelf', WHERE WHAT IT READS IS OF BULK AT MOST 1048576: true; the input reads as it did. -/
def outlineSelfUptoRow : OpenClaim := { program := "ytmbknoaneglilaagreatdoor", sum := "b2f927bd4f447fe58584bcb4401a938e087db1d9ca81237c8be3b22711d7dd7e", func := "kelir/kelirlaw01.OutlineSelf", spec := "outlineSelf", inPlace := ["internal/abi.NoEscape", "internal/bytealg.CountString", "internal/bytealg.IndexByteString", "internal/bytealg.IndexString", "internal/bytealg.MakeNoZero"], unfollowed := true, recurses := true, named := ["internal/bytealg.MaxLen", "unicode/utf8.first", "unicode/utf8.acceptRanges", "internal/strconv.uint64pow10", "math/bits.deBruijn32tab", "math/bits.deBruijn64tab"], apart := false, laid := [("math/bits.deBruijn32tab", laid_math_bits_deBruijn32tab), ("math/bits.deBruijn64tab", laid_math_bits_deBruijn64tab), ("internal/strconv.uint64pow10", laid_internal_strconv_uint64pow10), ("unicode/utf8.acceptRanges", laid_unicode_utf8_acceptRanges), ("unicode/utf8.first", laid_unicode_utf8_first)], narrowed := true }
def OutlineSelfUptoSaid : Prop := outlineSelfUptoRow.holds Tryz.pinned (OpenSpec.upto outlineSelfSpec)

/-- 'kelirlaw01.OutlineNexts', WHERE WHAT IT READS IS OF BULK AT MOST 1048576: true; the input reads as it did. -/
def outlineNextsUptoRow : OpenClaim := { program := "ytmbknoaneglilaagreatdoor", sum := "b2f927bd4f447fe58584bcb4401a938e087db1d9ca81237c8be3b22711d7dd7e", func := "kelir/kelirlaw01.OutlineNexts", spec := "outlineNexts", inPlace := ["internal/abi.NoEscape", "internal/bytealg.CountString", "internal/bytealg.IndexByteString", "internal/bytealg.IndexString", "internal/bytealg.MakeNoZero"], unfollowed := true, recurses := true, named := ["internal/bytealg.MaxLen", "unicode/utf8.first", "unicode/utf8.acceptRanges", "internal/strconv.uint64pow10", "math/bits.deBruijn32tab", "math/bits.deBruijn64tab"], apart := false, laid := [("math/bits.deBruijn32tab", laid_math_bits_deBruijn32tab), ("math/bits.deBruijn64tab", laid_math_bits_deBruijn64tab), ("internal/strconv.uint64pow10", laid_internal_strconv_uint64pow10), ("unicode/utf8.acceptRanges", laid_unicode_utf8_acceptRanges), ("unicode/utf8.first", laid_unicode_utf8_first)], narrowed := true }
def OutlineNextsUptoSaid : Prop := outlineNextsUptoRow.holds Tryz.pinned (OpenSpec.upto outlineNextsSpec)

/-- 'kelirlaw01.OutlineLooks', WHERE WHAT IT READS IS OF BULK AT MOST 1048576: true; the input reads as it did. -/
def outlineLooksUptoRow : OpenClaim := { program := "ytmbknoaneglilaagreatdoor", sum := "b2f927bd4f447fe58584bcb4401a938e087db1d9ca81237c8be3b22711d7dd7e", func := "kelir/kelirlaw01.OutlineLooks", spec := "outlineLooks", inPlace := ["internal/abi.NoEscape", "internal/bytealg.CountString", "internal/bytealg.IndexByteString", "internal/bytealg.IndexString", "internal/bytealg.MakeNoZero"], unfollowed := true, recurses := true, named := ["internal/bytealg.MaxLen", "unicode/utf8.first", "unicode/utf8.acceptRanges", "internal/strconv.uint64pow10", "math/bits.deBruijn32tab", "math/bits.deBruijn64tab"], apart := false, laid := [("math/bits.deBruijn32tab", laid_math_bits_deBruijn32tab), ("math/bits.deBruijn64tab", laid_math_bits_deBruijn64tab), ("internal/strconv.uint64pow10", laid_internal_strconv_uint64pow10), ("unicode/utf8.acceptRanges", laid_unicode_utf8_acceptRanges), ("unicode/utf8.first", laid_unicode_utf8_first)], narrowed := true }
def OutlineLooksUptoSaid : Prop := outlineLooksUptoRow.holds Tryz.pinned (OpenSpec.upto outlineLooksSpec)

/-- 'kelirlaw01.OutlineMistakes', WHERE WHAT IT READS IS OF BULK AT MOST 1048576: true; the input reads as it did. -/
def outlineMistakesUptoRow : OpenClaim := { program := "ytmbknoaneglilaagreatdoor", sum := "b2f927bd4f447fe58584bcb4401a938e087db1d9ca81237c8be3b22711d7dd7e", func := "kelir/kelirlaw01.OutlineMistakes", spec := "outlineMistakes", inPlace := ["internal/abi.NoEscape", "internal/bytealg.CountString", "internal/bytealg.IndexByteString", "internal/bytealg.IndexString", "internal/bytealg.MakeNoZero"], unfollowed := true, recurses := true, named := ["internal/bytealg.MaxLen", "unicode/utf8.first", "unicode/utf8.acceptRanges", "internal/strconv.uint64pow10", "math/bits.deBruijn32tab", "math/bits.deBruijn64tab"], apart := false, laid := [("math/bits.deBruijn32tab", laid_math_bits_deBruijn32tab), ("math/bits.deBruijn64tab", laid_math_bits_deBruijn64tab), ("internal/strconv.uint64pow10", laid_internal_strconv_uint64pow10), ("unicode/utf8.acceptRanges", laid_unicode_utf8_acceptRanges), ("unicode/utf8.first", laid_unicode_utf8_first)], narrowed := true }
def OutlineMistakesUptoSaid : Prop := outlineMistakesUptoRow.holds Tryz.pinned (OpenSpec.upto outlineMistakesSpec)

/-- 'kelirlaw01.OutlineTold', WHERE WHAT IT READS IS OF BULK AT MOST 1048576: true; the input reads as it did. -/
def outlineToldUptoRow : OpenClaim := { program := "ytmbknoaneglilaagreatdoor", sum := "b2f927bd4f447fe58584bcb4401a938e087db1d9ca81237c8be3b22711d7dd7e", func := "kelir/kelirlaw01.OutlineTold", spec := "outlineTold", inPlace := ["internal/abi.NoEscape", "internal/bytealg.CountString", "internal/bytealg.IndexByteString", "internal/bytealg.IndexString", "internal/bytealg.MakeNoZero"], unfollowed := true, recurses := true, named := ["internal/bytealg.MaxLen", "unicode/utf8.first", "unicode/utf8.acceptRanges", "internal/strconv.uint64pow10", "math/bits.deBruijn32tab", "math/bits.deBruijn64tab"], apart := false, laid := [("math/bits.deBruijn32tab", laid_math_bits_deBruijn32tab), ("math/bits.deBruijn64tab", laid_math_bits_deBruijn64tab), ("internal/strconv.uint64pow10", laid_internal_strconv_uint64pow10), ("unicode/utf8.acceptRanges", laid_unicode_utf8_acceptRanges), ("unicode/utf8.first", laid_unicode_utf8_first)], narrowed := true }
def OutlineToldUptoSaid : Prop := outlineToldUptoRow.holds Tryz.pinned (OpenSpec.upto outlineToldSpec)

/-- 'kelirlaw01.OutlineMore', WHERE WHAT IT READS IS OF BULK AT MOST 1048576: true; the input reads as it did. -/
def outlineMoreUptoRow : OpenClaim := { program := "ytmbknoaneglilaagreatdoor", sum := "b2f927bd4f447fe58584bcb4401a938e087db1d9ca81237c8be3b22711d7dd7e", func := "kelir/kelirlaw01.OutlineMore", spec := "outlineMore", inPlace := ["internal/abi.NoEscape", "internal/bytealg.CountString", "internal/bytealg.IndexByteString", "internal/bytealg.IndexString", "internal/bytealg.MakeNoZero"], unfollowed := true, recurses := true, named := ["internal/bytealg.MaxLen", "unicode/utf8.first", "unicode/utf8.acceptRanges", "internal/strconv.uint64pow10", "math/bits.deBruijn32tab", "math/bits.deBruijn64tab"], apart := false, laid := [("math/bits.deBruijn32tab", laid_math_bits_deBruijn32tab), ("math/bits.deBruijn64tab", laid_math_bits_deBruijn64tab), ("internal/strconv.uint64pow10", laid_internal_strconv_uint64pow10), ("unicode/utf8.acceptRanges", laid_unicode_utf8_acceptRanges), ("unicode/utf8.first", laid_unicode_utf8_first)], narrowed := true }
def OutlineMoreUptoSaid : Prop := outlineMoreUptoRow.holds Tryz.pinned (OpenSpec.upto outlineMoreSpec)

/-- 'kelirlaw01.OutlinePrints', WHERE WHAT IT READS IS OF BULK AT MOST 1048576: true; the input reads as it did. -/
def outlinePrintsUptoRow : OpenClaim := { program := "ytmbknoaneglilaagreatdoor", sum := "b2f927bd4f447fe58584bcb4401a938e087db1d9ca81237c8be3b22711d7dd7e", func := "kelir/kelirlaw01.OutlinePrints", spec := "outlinePrints", inPlace := ["internal/abi.NoEscape", "internal/bytealg.CountString", "internal/bytealg.IndexByteString", "internal/bytealg.IndexString", "internal/bytealg.MakeNoZero"], unfollowed := true, recurses := true, named := ["internal/bytealg.MaxLen", "unicode/utf8.first", "unicode/utf8.acceptRanges", "internal/strconv.uint64pow10", "math/bits.deBruijn32tab", "math/bits.deBruijn64tab"], apart := false, laid := [("math/bits.deBruijn32tab", laid_math_bits_deBruijn32tab), ("math/bits.deBruijn64tab", laid_math_bits_deBruijn64tab), ("internal/strconv.uint64pow10", laid_internal_strconv_uint64pow10), ("unicode/utf8.acceptRanges", laid_unicode_utf8_acceptRanges), ("unicode/utf8.first", laid_unicode_utf8_first)], narrowed := true }
def OutlinePrintsUptoSaid : Prop := outlinePrintsUptoRow.holds Tryz.pinned (OpenSpec.upto outlinePrintsSpec)

/-- 'kelirlaw01.OutlineBooks', WHERE WHAT IT READS IS OF BULK AT MOST 1048576: true; the input reads as it did. -/
def outlineBooksUptoRow : OpenClaim := { program := "ytmbknoaneglilaagreatdoor", sum := "b2f927bd4f447fe58584bcb4401a938e087db1d9ca81237c8be3b22711d7dd7e", func := "kelir/kelirlaw01.OutlineBooks", spec := "outlineBooks", inPlace := ["internal/abi.NoEscape", "internal/bytealg.CountString", "internal/bytealg.IndexByteString", "internal/bytealg.IndexString", "internal/bytealg.MakeNoZero"], unfollowed := true, recurses := true, named := ["internal/bytealg.MaxLen", "unicode/utf8.first", "unicode/utf8.acceptRanges", "internal/strconv.uint64pow10", "math/bits.deBruijn32tab", "math/bits.deBruijn64tab"], apart := false, laid := [("math/bits.deBruijn32tab", laid_math_bits_deBruijn32tab), ("math/bits.deBruijn64tab", laid_math_bits_deBruijn64tab), ("internal/strconv.uint64pow10", laid_internal_strconv_uint64pow10), ("unicode/utf8.acceptRanges", laid_unicode_utf8_acceptRanges), ("unicode/utf8.first", laid_unicode_utf8_first)], narrowed := true }
def OutlineBooksUptoSaid : Prop := outlineBooksUptoRow.holds Tryz.pinned (OpenSpec.upto outlineBooksSpec)

/-- 'kelirlaw01.OutlineSpoilt', WHERE WHAT IT READS IS OF BULK AT MOST 1048576: true; the input reads as it did. -/
def outlineSpoiltUptoRow : OpenClaim := { program := "ytmbknoaneglilaagreatdoor", sum := "b2f927bd4f447fe58584bcb4401a938e087db1d9ca81237c8be3b22711d7dd7e", func := "kelir/kelirlaw01.OutlineSpoilt", spec := "outlineSpoilt", inPlace := ["internal/abi.NoEscape", "internal/bytealg.CountString", "internal/bytealg.IndexByteString", "internal/bytealg.IndexString", "internal/bytealg.MakeNoZero"], unfollowed := true, recurses := true, named := ["internal/bytealg.MaxLen", "unicode/utf8.first", "unicode/utf8.acceptRanges", "internal/strconv.uint64pow10", "math/bits.deBruijn32tab", "math/bits.deBruijn64tab"], apart := false, laid := [("math/bits.deBruijn32tab", laid_math_bits_deBruijn32tab), ("math/bits.deBruijn64tab", laid_math_bits_deBruijn64tab), ("internal/strconv.uint64pow10", laid_internal_strconv_uint64pow10), ("unicode/utf8.acceptRanges", laid_unicode_utf8_acceptRanges), ("unicode/utf8.first", laid_unicode_utf8_first)], narrowed := true }
def OutlineSpoiltUptoSaid : Prop := outlineSpoiltUptoRow.holds Tryz.pinned (OpenSpec.upto outlineSpoiltSpec)

/-- 'kelirlaw01.OutlineFits', WHERE WHAT IT READS IS OF BULK AT MOST 1048576: true; the input reads as it did. -/
def outlineFitsUptoRow : OpenClaim := { program := "ytmbknoaneglilaagreatdoor", sum := "b2f927bd4f447fe58584bcb4401a938e087db1d9ca81237c8be3b22711d7dd7e", func := "kelir/kelirlaw01.OutlineFits", spec := "outlineFits", inPlace := ["internal/abi.NoEscape", "internal/bytealg.CountString", "internal/bytealg.IndexByteString", "internal/bytealg.IndexString", "internal/bytealg.MakeNoZero"], unfollowed := true, recurses := true, named := ["internal/bytealg.MaxLen", "unicode/utf8.first", "unicode/utf8.acceptRanges", "internal/strconv.uint64pow10", "math/bits.deBruijn32tab", "math/bits.deBruijn64tab"], apart := false, laid := [("math/bits.deBruijn32tab", laid_math_bits_deBruijn32tab), ("math/bits.deBruijn64tab", laid_math_bits_deBruijn64tab), ("internal/strconv.uint64pow10", laid_internal_strconv_uint64pow10), ("unicode/utf8.acceptRanges", laid_unicode_utf8_acceptRanges), ("unicode/utf8.first", laid_unicode_utf8_first)], narrowed := true }
def OutlineFitsUptoSaid : Prop := outlineFitsUptoRow.holds Tryz.pinned (OpenSpec.upto outlineFitsSpec)

/-- 'kelirlaw01.OutlineNear', WHERE WHAT IT READS IS OF BULK AT MOST 1048576: true; the input reads as it did. -/
def outlineNearUptoRow : OpenClaim := { program := "ytmbknoaneglilaagreatdoor", sum := "b2f927bd4f447fe58584bcb4401a938e087db1d9ca81237c8be3b22711d7dd7e", func := "kelir/kelirlaw01.OutlineNear", spec := "outlineNear", inPlace := ["internal/abi.NoEscape", "internal/bytealg.CountString", "internal/bytealg.IndexByteString", "internal/bytealg.IndexString", "internal/bytealg.MakeNoZero"], unfollowed := true, recurses := true, named := ["internal/bytealg.MaxLen", "unicode/utf8.first", "unicode/utf8.acceptRanges", "internal/strconv.uint64pow10", "math/bits.deBruijn32tab", "math/bits.deBruijn64tab"], apart := false, laid := [("math/bits.deBruijn32tab", laid_math_bits_deBruijn32tab), ("math/bits.deBruijn64tab", laid_math_bits_deBruijn64tab), ("internal/strconv.uint64pow10", laid_internal_strconv_uint64pow10), ("unicode/utf8.acceptRanges", laid_unicode_utf8_acceptRanges), ("unicode/utf8.first", laid_unicode_utf8_first)], narrowed := true }
def OutlineNearUptoSaid : Prop := outlineNearUptoRow.holds Tryz.pinned (OpenSpec.upto outlineNearSpec)

/-- 'kelirlaw01.OutlineCells', WHERE WHAT IT READS IS OF BULK AT MOST 1048576: true; the input reads as it did. -/
def outlineCellsUptoRow : OpenClaim := { program := "ytmbknoaneglilaagreatdoor", sum := "b2f927bd4f447fe58584bcb4401a938e087db1d9ca81237c8be3b22711d7dd7e", func := "kelir/kelirlaw01.OutlineCells", spec := "outlineCells", inPlace := ["internal/abi.NoEscape", "internal/bytealg.CountString", "internal/bytealg.IndexByteString", "internal/bytealg.IndexString", "internal/bytealg.MakeNoZero"], unfollowed := true, recurses := true, named := ["internal/bytealg.MaxLen", "unicode/utf8.first", "unicode/utf8.acceptRanges", "internal/strconv.uint64pow10", "math/bits.deBruijn32tab", "math/bits.deBruijn64tab"], apart := false, laid := [("math/bits.deBruijn32tab", laid_math_bits_deBruijn32tab), ("math/bits.deBruijn64tab", laid_math_bits_deBruijn64tab), ("internal/strconv.uint64pow10", laid_internal_strconv_uint64pow10), ("unicode/utf8.acceptRanges", laid_unicode_utf8_acceptRanges), ("unicode/utf8.first", laid_unicode_utf8_first)], narrowed := true }
def OutlineCellsUptoSaid : Prop := outlineCellsUptoRow.holds Tryz.pinned (OpenSpec.upto outlineCellsSpec)

/-- 'kelirlaw01.OutlineProof', WHERE WHAT IT READS IS OF BULK AT MOST 1048576: true; the input reads as it did. -/
def outlineProofUptoRow : OpenClaim := { program := "ytmbknoaneglilaagreatdoor", sum := "b2f927bd4f447fe58584bcb4401a938e087db1d9ca81237c8be3b22711d7dd7e", func := "kelir/kelirlaw01.OutlineProof", spec := "outlineProof", inPlace := ["internal/abi.NoEscape", "internal/bytealg.CountString", "internal/bytealg.IndexByteString", "internal/bytealg.IndexString", "internal/bytealg.MakeNoZero"], unfollowed := true, recurses := true, named := ["internal/bytealg.MaxLen", "unicode/utf8.first", "unicode/utf8.acceptRanges", "internal/strconv.uint64pow10", "math/bits.deBruijn32tab", "math/bits.deBruijn64tab"], apart := false, laid := [("math/bits.deBruijn32tab", laid_math_bits_deBruijn32tab), ("math/bits.deBruijn64tab", laid_math_bits_deBruijn64tab), ("internal/strconv.uint64pow10", laid_internal_strconv_uint64pow10), ("unicode/utf8.acceptRanges", laid_unicode_utf8_acceptRanges), ("unicode/utf8.first", laid_unicode_utf8_first)], narrowed := true }
def OutlineProofUptoSaid : Prop := outlineProofUptoRow.holds Tryz.pinned (OpenSpec.upto outlineProofSpec)

/-- 'kelirlaw01.OutlineFlames', WHERE WHAT IT READS IS OF BULK AT MOST 1048576: true; the input reads as it did. -/
def outlineFlamesUptoRow : OpenClaim := { program := "ytmbknoaneglilaagreatdoor", sum := "b2f927bd4f447fe58584bcb4401a938e087db1d9ca81237c8be3b22711d7dd7e", func := "kelir/kelirlaw01.OutlineFlames", spec := "outlineFlames", inPlace := ["internal/abi.NoEscape", "internal/bytealg.CountString", "internal/bytealg.IndexByteString", "internal/bytealg.IndexString", "internal/bytealg.MakeNoZero"], unfollowed := true, recurses := true, named := ["internal/bytealg.MaxLen", "unicode/utf8.first", "unicode/utf8.acceptRanges", "internal/strconv.uint64pow10", "math/bits.deBruijn32tab", "math/bits.deBruijn64tab"], apart := false, laid := [("math/bits.deBruijn32tab", laid_math_bits_deBruijn32tab), ("math/bits.deBruijn64tab", laid_math_bits_deBruijn64tab), ("internal/strconv.uint64pow10", laid_internal_strconv_uint64pow10), ("unicode/utf8.acceptRanges", laid_unicode_utf8_acceptRanges), ("unicode/utf8.first", laid_unicode_utf8_first)], narrowed := true }
def OutlineFlamesUptoSaid : Prop := outlineFlamesUptoRow.holds Tryz.pinned (OpenSpec.upto outlineFlamesSpec)

/-- 'kelirlaw01.OutlineShadows', WHERE WHAT IT READS IS OF BULK AT MOST 1048576: true; the input reads as it did. -/
def outlineShadowsUptoRow : OpenClaim := { program := "ytmbknoaneglilaagreatdoor", sum := "b2f927bd4f447fe58584bcb4401a938e087db1d9ca81237c8be3b22711d7dd7e", func := "kelir/kelirlaw01.OutlineShadows", spec := "outlineShadows", inPlace := ["internal/abi.NoEscape", "internal/bytealg.CountString", "internal/bytealg.IndexByteString", "internal/bytealg.IndexString", "internal/bytealg.MakeNoZero"], unfollowed := true, recurses := true, named := ["internal/bytealg.MaxLen", "unicode/utf8.first", "unicode/utf8.acceptRanges", "internal/strconv.uint64pow10", "math/bits.deBruijn32tab", "math/bits.deBruijn64tab"], apart := false, laid := [("math/bits.deBruijn32tab", laid_math_bits_deBruijn32tab), ("math/bits.deBruijn64tab", laid_math_bits_deBruijn64tab), ("internal/strconv.uint64pow10", laid_internal_strconv_uint64pow10), ("unicode/utf8.acceptRanges", laid_unicode_utf8_acceptRanges), ("unicode/utf8.first", laid_unicode_utf8_first)], narrowed := true }
def OutlineShadowsUptoSaid : Prop := outlineShadowsUptoRow.holds Tryz.pinned (OpenSpec.upto outlineShadowsSpec)

/-- 'kelirlaw01.OutlineReads', WHERE WHAT IT READS IS OF BULK AT MOST 1048576: true; the input reads as it did. -/
def outlineReadsUptoRow : OpenClaim := { program := "ytmbknoaneglilaagreatdoor", sum := "b2f927bd4f447fe58584bcb4401a938e087db1d9ca81237c8be3b22711d7dd7e", func := "kelir/kelirlaw01.OutlineReads", spec := "outlineReads", inPlace := ["internal/abi.NoEscape", "internal/bytealg.CountString", "internal/bytealg.IndexByteString", "internal/bytealg.IndexString", "internal/bytealg.MakeNoZero"], unfollowed := true, recurses := true, named := ["internal/bytealg.MaxLen", "unicode/utf8.first", "unicode/utf8.acceptRanges", "internal/strconv.uint64pow10", "math/bits.deBruijn32tab", "math/bits.deBruijn64tab"], apart := false, laid := [("math/bits.deBruijn32tab", laid_math_bits_deBruijn32tab), ("math/bits.deBruijn64tab", laid_math_bits_deBruijn64tab), ("internal/strconv.uint64pow10", laid_internal_strconv_uint64pow10), ("unicode/utf8.acceptRanges", laid_unicode_utf8_acceptRanges), ("unicode/utf8.first", laid_unicode_utf8_first)], narrowed := true }
def OutlineReadsUptoSaid : Prop := outlineReadsUptoRow.holds Tryz.pinned (OpenSpec.upto outlineReadsSpec)

/-- 'kelirlaw01.OutlineSeen', WHERE WHAT IT READS IS OF BULK AT MOST 1048576: true; the input reads as it did. -/
def outlineSeenUptoRow : OpenClaim := { program := "ytmbknoaneglilaagreatdoor", sum := "b2f927bd4f447fe58584bcb4401a938e087db1d9ca81237c8be3b22711d7dd7e", func := "kelir/kelirlaw01.OutlineSeen", spec := "outlineSeen", inPlace := ["internal/abi.NoEscape", "internal/bytealg.CountString", "internal/bytealg.IndexByteString", "internal/bytealg.IndexString", "internal/bytealg.MakeNoZero"], unfollowed := true, recurses := true, named := ["internal/bytealg.MaxLen", "unicode/utf8.first", "unicode/utf8.acceptRanges", "internal/strconv.uint64pow10", "math/bits.deBruijn32tab", "math/bits.deBruijn64tab"], apart := false, laid := [("math/bits.deBruijn32tab", laid_math_bits_deBruijn32tab), ("math/bits.deBruijn64tab", laid_math_bits_deBruijn64tab), ("internal/strconv.uint64pow10", laid_internal_strconv_uint64pow10), ("unicode/utf8.acceptRanges", laid_unicode_utf8_acceptRanges), ("unicode/utf8.first", laid_unicode_utf8_first)], narrowed := true }
def OutlineSeenUptoSaid : Prop := outlineSeenUptoRow.holds Tryz.pinned (OpenSpec.upto outlineSeenSpec)

/-- 'kelirlaw01.OutlineJoins', WHERE WHAT IT READS IS OF BULK AT MOST 1048576: true; the input reads as it did. -/
def outlineJoinsUptoRow : OpenClaim := { program := "ytmbknoaneglilaagreatdoor", sum := "b2f927bd4f447fe58584bcb4401a938e087db1d9ca81237c8be3b22711d7dd7e", func := "kelir/kelirlaw01.OutlineJoins", spec := "outlineJoins", inPlace := ["internal/abi.NoEscape", "internal/bytealg.CountString", "internal/bytealg.IndexByteString", "internal/bytealg.IndexString", "internal/bytealg.MakeNoZero"], unfollowed := true, recurses := true, named := ["internal/bytealg.MaxLen", "unicode/utf8.first", "unicode/utf8.acceptRanges", "internal/strconv.uint64pow10", "math/bits.deBruijn32tab", "math/bits.deBruijn64tab"], apart := false, laid := [("math/bits.deBruijn32tab", laid_math_bits_deBruijn32tab), ("math/bits.deBruijn64tab", laid_math_bits_deBruijn64tab), ("internal/strconv.uint64pow10", laid_internal_strconv_uint64pow10), ("unicode/utf8.acceptRanges", laid_unicode_utf8_acceptRanges), ("unicode/utf8.first", laid_unicode_utf8_first)], narrowed := true }
def OutlineJoinsUptoSaid : Prop := outlineJoinsUptoRow.holds Tryz.pinned (OpenSpec.upto outlineJoinsSpec)

/-- 'kelirlaw01.OutlineMeeting', WHERE WHAT IT READS IS OF BULK AT MOST 1048576: true; the input reads as it did. -/
def outlineMeetingUptoRow : OpenClaim := { program := "ytmbknoaneglilaagreatdoor", sum := "b2f927bd4f447fe58584bcb4401a938e087db1d9ca81237c8be3b22711d7dd7e", func := "kelir/kelirlaw01.OutlineMeeting", spec := "outlineMeeting", inPlace := ["internal/abi.NoEscape", "internal/bytealg.CountString", "internal/bytealg.IndexByteString", "internal/bytealg.IndexString", "internal/bytealg.MakeNoZero"], unfollowed := true, recurses := true, named := ["internal/bytealg.MaxLen", "unicode/utf8.first", "unicode/utf8.acceptRanges", "internal/strconv.uint64pow10", "math/bits.deBruijn32tab", "math/bits.deBruijn64tab"], apart := false, laid := [("math/bits.deBruijn32tab", laid_math_bits_deBruijn32tab), ("math/bits.deBruijn64tab", laid_math_bits_deBruijn64tab), ("internal/strconv.uint64pow10", laid_internal_strconv_uint64pow10), ("unicode/utf8.acceptRanges", laid_unicode_utf8_acceptRanges), ("unicode/utf8.first", laid_unicode_utf8_first)], narrowed := true }
def OutlineMeetingUptoSaid : Prop := outlineMeetingUptoRow.holds Tryz.pinned (OpenSpec.upto outlineMeetingSpec)

end Rows
end Go.Proofs.YtmbknoaneglilaaGreatDoor
