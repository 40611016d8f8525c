/-
  NARROWER THAN 'FOR EVERY INPUT', by the rows' own cells (each row's printed sentence says how): FnPlanPath: laid · FnPlanFits: laid · FnPlanOver: laid · FnExactPlanOver: laid · FnExactPlanPathOf: laid · FnPlanTake: laid · FnPlanMerge: laid · FnPlanPrint: laid · FnPlanTop: laid · FnExactPlanTake: laid · FnExactPlanMerge: laid · FnPlanText: laid · FnExactPlanTakeAll: laid.
  DERIVED. THE GIVEN ROWS OF THIS SEAT. 13 by the template 'for every input the law returns true; each argument reads behind the call as it read before'; 0 by the template 'total and deterministic' (their statements: YtefjaihaocdpcaaGreatDoorTotals.lean).
  GIVEN WITH THE SEED: the statements are not yours to turn. If you find one false, say at which input.
  Laid BY PROGRAM, IN A SANDBOX (cutbox-rows.mjs): the forced cells as the released guide's own fill.sh prints them over the translation 1483a8db51d0850b… (all of the seat's roots in one cut). By AI agents, Wed Nov 11 2026. No macro, syntax, notation, axiom, sorry.
-/
import Derived.Test.YtefjaihaocdpcaaGreatDoorChecked
import GoSem.PinnedTables
import GoSem.Claim
import GoSem.ClaimJoined
import GoSem.ClaimMapViews
import Derived.JoinedTies
import Derived.KernelRfl
namespace Go.Proofs.YtefjaihaocdpcaaGreatDoor
/- THE CELL 'sum', in the pinned program and in every row, IS THE sha256 OF THE DUMP (.gsa) THAT YtefjaihaocdpcaaGreatDoorProg.lean LOADS. Nothing in Lean hashes anything: it is a label: what it is worth is what the hold of that sum in a sandbox is worth. -/
noncomputable def Tryz.pinned : Pinned := { name := "ytefjaihaocdpcaagreatdoor", sum := "1483a8db51d0850b4d2cb329d3110da4c15e76bc663ef2b04440be187fd3d701", checked := Tryz.checked }
namespace Rows
def none {H : Type} : Left H := { results := [], args := [] }

/- WHAT THE LISTED PACKAGE-LEVEL VARIABLES READ AS WHEN THE CALL BEGINS. Each datum BY PROGRAM (the guide's laid-datum.mjs) off the statement by which the dump's own 'gosem.cut.vars' lays the variable. In a bare row this is a premise. The card (YtefjaihaocdpcaaGreatDoorCards.lean) ties it to the program's text. -/
def laid_math_bits_deBruijn32tab {H : Type} : DataW H := .agg [.lit (.int .u8 0), .lit (.int .u8 1), .lit (.int .u8 28), .lit (.int .u8 2), .lit (.int .u8 29), .lit (.int .u8 14), .lit (.int .u8 24), .lit (.int .u8 3), .lit (.int .u8 30), .lit (.int .u8 22), .lit (.int .u8 20), .lit (.int .u8 15), .lit (.int .u8 25), .lit (.int .u8 17), .lit (.int .u8 4), .lit (.int .u8 8), .lit (.int .u8 31), .lit (.int .u8 27), .lit (.int .u8 13), .lit (.int .u8 23), .lit (.int .u8 21), .lit (.int .u8 19), .lit (.int .u8 16), .lit (.int .u8 7), .lit (.int .u8 26), .lit (.int .u8 12), .lit (.int .u8 18), .lit (.int .u8 6), .lit (.int .u8 11), .lit (.int .u8 5), .lit (.int .u8 10), .lit (.int .u8 9)]
def laid_math_bits_deBruijn64tab {H : Type} : DataW H := .agg [.lit (.int .u8 0), .lit (.int .u8 1), .lit (.int .u8 56), .lit (.int .u8 2), .lit (.int .u8 57), .lit (.int .u8 49), .lit (.int .u8 28), .lit (.int .u8 3), .lit (.int .u8 61), .lit (.int .u8 58), .lit (.int .u8 42), .lit (.int .u8 50), .lit (.int .u8 38), .lit (.int .u8 29), .lit (.int .u8 17), .lit (.int .u8 4), .lit (.int .u8 62), .lit (.int .u8 47), .lit (.int .u8 59), .lit (.int .u8 36), .lit (.int .u8 45), .lit (.int .u8 43), .lit (.int .u8 51), .lit (.int .u8 22), .lit (.int .u8 53), .lit (.int .u8 39), .lit (.int .u8 33), .lit (.int .u8 30), .lit (.int .u8 24), .lit (.int .u8 18), .lit (.int .u8 12), .lit (.int .u8 5), .lit (.int .u8 63), .lit (.int .u8 55), .lit (.int .u8 48), .lit (.int .u8 27), .lit (.int .u8 60), .lit (.int .u8 41), .lit (.int .u8 37), .lit (.int .u8 16), .lit (.int .u8 46), .lit (.int .u8 35), .lit (.int .u8 44), .lit (.int .u8 21), .lit (.int .u8 52), .lit (.int .u8 32), .lit (.int .u8 23), .lit (.int .u8 11), .lit (.int .u8 54), .lit (.int .u8 26), .lit (.int .u8 40), .lit (.int .u8 15), .lit (.int .u8 34), .lit (.int .u8 20), .lit (.int .u8 31), .lit (.int .u8 10), .lit (.int .u8 25), .lit (.int .u8 14), .lit (.int .u8 19), .lit (.int .u8 9), .lit (.int .u8 13), .lit (.int .u8 8), .lit (.int .u8 7), .lit (.int .u8 6)]
def laid_internal_strconv_uint64pow10 {H : Type} : DataW H := .agg [.lit (.int .u64 1), .lit (.int .u64 10), .lit (.int .u64 100), .lit (.int .u64 1000), .lit (.int .u64 10000), .lit (.int .u64 100000), .lit (.int .u64 1000000), .lit (.int .u64 10000000), .lit (.int .u64 100000000), .lit (.int .u64 1000000000), .lit (.int .u64 10000000000), .lit (.int .u64 100000000000), .lit (.int .u64 1000000000000), .lit (.int .u64 10000000000000), .lit (.int .u64 100000000000000), .lit (.int .u64 1000000000000000), .lit (.int .u64 10000000000000000), .lit (.int .u64 100000000000000000), .lit (.int .u64 1000000000000000000), .lit (.int .u64 10000000000000000000)]
def laid_unicode_utf8_acceptRanges {H : Type} : DataW H := .agg [.agg [.lit (.int .u8 128), .lit (.int .u8 191)], .agg [.lit (.int .u8 160), .lit (.int .u8 191)], .agg [.lit (.int .u8 128), .lit (.int .u8 159)], .agg [.lit (.int .u8 144), .lit (.int .u8 191)], .agg [.lit (.int .u8 128), .lit (.int .u8 143)], .agg [.lit (.int .u8 0), .lit (.int .u8 0)], .agg [.lit (.int .u8 0), .lit (.int .u8 0)], .agg [.lit (.int .u8 0), .lit (.int .u8 0)], .agg [.lit (.int .u8 0), .lit (.int .u8 0)], .agg [.lit (.int .u8 0), .lit (.int .u8 0)], .agg [.lit (.int .u8 0), .lit (.int .u8 0)], .agg [.lit (.int .u8 0), .lit (.int .u8 0)], .agg [.lit (.int .u8 0), .lit (.int .u8 0)], .agg [.lit (.int .u8 0), .lit (.int .u8 0)], .agg [.lit (.int .u8 0), .lit (.int .u8 0)], .agg [.lit (.int .u8 0), .lit (.int .u8 0)]]
def laid_strconv_ErrRange {H : Type} : DataW H := .iface "*errors.errorString" (.ptr (.agg [.lit (.string [118, 97, 108, 117, 101, 32, 111, 117, 116, 32, 111, 102, 32, 114, 97, 110, 103, 101])]))
def laid_strconv_ErrSyntax {H : Type} : DataW H := .iface "*errors.errorString" (.ptr (.agg [.lit (.string [105, 110, 118, 97, 108, 105, 100, 32, 115, 121, 110, 116, 97, 120])]))
/-- One of Go's own tables, pinned by name: the form's constant. -/
def laid_unicode_utf8_first : DataW Unit := Go.Pinned.utf8First
def laid_loop_example_lapwing_impl_whatWords {H : Type} : DataW H := .slice [.lit (.string []), .lit (.string [107, 105, 110, 100]), .lit (.string [116, 105, 109, 101]), .lit (.string [108, 101, 118, 101, 108]), .lit (.string [114, 111, 117, 116, 101]), .lit (.string [115, 116, 97, 116, 101])] []

/-- 'laws.FnPlanPath': WHATEVER THE INPUT: true; the input reads as it did. -/
def fnPlanPathSpec : ChangeSpec := { name := "fnPlanPath", fn := fun _ => fun
  | [d] => { results := [.lit (.bool true)], args := [d] }
  | _ => none }
def fnPlanPathRow : OpenClaim := { program := "ytefjaihaocdpcaagreatdoor", sum := "1483a8db51d0850b4d2cb329d3110da4c15e76bc663ef2b04440be187fd3d701", func := "loop.example/lapwing/laws.FnPlanPath", spec := "fnPlanPath", inPlace := ["internal/bytealg.CountString", "internal/bytealg.IndexByteString", "internal/bytealg.IndexString"], unfollowed := true, recurses := true, named := ["unicode/utf8.first", "unicode/utf8.acceptRanges", "internal/bytealg.MaxLen", "strconv.ErrSyntax", "strconv.ErrRange", "internal/strconv.uint64pow10", "math/bits.deBruijn32tab", "math/bits.deBruijn64tab"], plainKeys := false, apart := false, laid := [("math/bits.deBruijn32tab", laid_math_bits_deBruijn32tab), ("math/bits.deBruijn64tab", laid_math_bits_deBruijn64tab), ("internal/strconv.uint64pow10", laid_internal_strconv_uint64pow10), ("unicode/utf8.acceptRanges", laid_unicode_utf8_acceptRanges), ("strconv.ErrRange", laid_strconv_ErrRange), ("strconv.ErrSyntax", laid_strconv_ErrSyntax), ("unicode/utf8.first", laid_unicode_utf8_first)] }
def FnPlanPathSaid : Prop := fnPlanPathRow.holds Tryz.pinned (OpenSpec.ofChange fnPlanPathSpec)

/-- ITS FALSE NEIGHBOUR: 'it returns false'. Refute it at one input. -/
def fnPlanPathWrong : ChangeSpec := { name := "fnPlanPath", fn := fun _ => fun
  | [d] => { results := [.lit (.bool false)], args := [d] }
  | _ => none }
def FnPlanPathWrongFalsely : Prop := fnPlanPathRow.holds Tryz.pinned (OpenSpec.ofChange fnPlanPathWrong)

/-- 'laws.FnPlanFits': WHATEVER THE INPUT: true; the input reads as it did. -/
def fnPlanFitsSpec : ChangeSpec := { name := "fnPlanFits", vars := ["loop.example/lapwing/impl.whatWords"], fn := fun _ => fun
  | [d1, d2, g1] => { results := [.lit (.bool true)], args := [d1, d2], vars := [g1] }
  | _ => none }
def fnPlanFitsRow : OpenClaim := { program := "ytefjaihaocdpcaagreatdoor", sum := "1483a8db51d0850b4d2cb329d3110da4c15e76bc663ef2b04440be187fd3d701", func := "loop.example/lapwing/laws.FnPlanFits", spec := "fnPlanFits", inPlace := ["internal/bytealg.CountString", "internal/bytealg.IndexByteString", "internal/bytealg.IndexString", "internal/bytealg.abigen_runtime_cmpstring"], unfollowed := true, recurses := true, named := ["unicode/utf8.first", "unicode/utf8.acceptRanges", "internal/bytealg.MaxLen", "strconv.ErrSyntax", "strconv.ErrRange", "internal/strconv.uint64pow10", "math/bits.deBruijn32tab", "math/bits.deBruijn64tab", "loop.example/lapwing/impl.whatWords"], plainKeys := false, apart := false, laid := [("math/bits.deBruijn32tab", laid_math_bits_deBruijn32tab), ("math/bits.deBruijn64tab", laid_math_bits_deBruijn64tab), ("internal/strconv.uint64pow10", laid_internal_strconv_uint64pow10), ("unicode/utf8.acceptRanges", laid_unicode_utf8_acceptRanges), ("strconv.ErrRange", laid_strconv_ErrRange), ("strconv.ErrSyntax", laid_strconv_ErrSyntax), ("loop.example/lapwing/impl.whatWords", laid_loop_example_lapwing_impl_whatWords), ("unicode/utf8.first", laid_unicode_utf8_first)] }
def FnPlanFitsSaid : Prop := fnPlanFitsRow.holds Tryz.pinned (OpenSpec.ofChange fnPlanFitsSpec)

/-- ITS FALSE NEIGHBOUR: 'it returns false'. Refute it at one input. -/
def fnPlanFitsWrong : ChangeSpec := { name := "fnPlanFits", vars := ["loop.example/lapwing/impl.whatWords"], fn := fun _ => fun
  | [d1, d2, g1] => { results := [.lit (.bool false)], args := [d1, d2], vars := [g1] }
  | _ => none }
def FnPlanFitsWrongFalsely : Prop := fnPlanFitsRow.holds Tryz.pinned (OpenSpec.ofChange fnPlanFitsWrong)

/-- 'laws.FnPlanOver': WHATEVER THE INPUT: true; the input reads as it did. -/
def fnPlanOverSpec : ChangeSpec := { name := "fnPlanOver", fn := fun _ => fun
  | [d1, d2] => { results := [.lit (.bool true)], args := [d1, d2] }
  | _ => none }
def fnPlanOverRow : OpenClaim := { program := "ytefjaihaocdpcaagreatdoor", sum := "1483a8db51d0850b4d2cb329d3110da4c15e76bc663ef2b04440be187fd3d701", func := "loop.example/lapwing/laws.FnPlanOver", spec := "fnPlanOver", inPlace := ["internal/bytealg.CountString", "internal/bytealg.IndexByteString", "internal/bytealg.IndexString"], unfollowed := true, recurses := true, named := ["unicode/utf8.first", "unicode/utf8.acceptRanges", "internal/bytealg.MaxLen", "strconv.ErrSyntax", "strconv.ErrRange", "internal/strconv.uint64pow10", "math/bits.deBruijn32tab", "math/bits.deBruijn64tab"], plainKeys := false, apart := false, laid := [("math/bits.deBruijn32tab", laid_math_bits_deBruijn32tab), ("math/bits.deBruijn64tab", laid_math_bits_deBruijn64tab), ("internal/strconv.uint64pow10", laid_internal_strconv_uint64pow10), ("unicode/utf8.acceptRanges", laid_unicode_utf8_acceptRanges), ("strconv.ErrRange", laid_strconv_ErrRange), ("strconv.ErrSyntax", laid_strconv_ErrSyntax), ("unicode/utf8.first", laid_unicode_utf8_first)] }
def FnPlanOverSaid : Prop := fnPlanOverRow.holds Tryz.pinned (OpenSpec.ofChange fnPlanOverSpec)

/-- ITS FALSE NEIGHBOUR: 'it returns false'. Refute it at one input. -/
def fnPlanOverWrong : ChangeSpec := { name := "fnPlanOver", fn := fun _ => fun
  | [d1, d2] => { results := [.lit (.bool false)], args := [d1, d2] }
  | _ => none }
def FnPlanOverWrongFalsely : Prop := fnPlanOverRow.holds Tryz.pinned (OpenSpec.ofChange fnPlanOverWrong)

/-- 'laws.FnExactPlanOver': WHATEVER THE INPUT: true; the input reads as it did. -/
def fnExactPlanOverSpec : ChangeSpec := { name := "fnExactPlanOver", fn := fun _ => fun
  | [d1, d2, d3] => { results := [.lit (.bool true)], args := [d1, d2, d3] }
  | _ => none }
def fnExactPlanOverRow : OpenClaim := { program := "ytefjaihaocdpcaagreatdoor", sum := "1483a8db51d0850b4d2cb329d3110da4c15e76bc663ef2b04440be187fd3d701", func := "loop.example/lapwing/laws.FnExactPlanOver", spec := "fnExactPlanOver", inPlace := ["internal/bytealg.CountString", "internal/bytealg.IndexByteString", "internal/bytealg.IndexString"], unfollowed := true, recurses := true, named := ["unicode/utf8.first", "unicode/utf8.acceptRanges", "internal/bytealg.MaxLen", "strconv.ErrSyntax", "strconv.ErrRange", "internal/strconv.uint64pow10", "math/bits.deBruijn32tab", "math/bits.deBruijn64tab"], plainKeys := false, apart := false, laid := [("math/bits.deBruijn32tab", laid_math_bits_deBruijn32tab), ("math/bits.deBruijn64tab", laid_math_bits_deBruijn64tab), ("internal/strconv.uint64pow10", laid_internal_strconv_uint64pow10), ("unicode/utf8.acceptRanges", laid_unicode_utf8_acceptRanges), ("strconv.ErrRange", laid_strconv_ErrRange), ("strconv.ErrSyntax", laid_strconv_ErrSyntax), ("unicode/utf8.first", laid_unicode_utf8_first)] }
def FnExactPlanOverSaid : Prop := fnExactPlanOverRow.holds Tryz.pinned (OpenSpec.ofChange fnExactPlanOverSpec)

/-- ITS FALSE NEIGHBOUR: 'it returns false'. Refute it at one input. -/
def fnExactPlanOverWrong : ChangeSpec := { name := "fnExactPlanOver", fn := fun _ => fun
  | [d1, d2, d3] => { results := [.lit (.bool false)], args := [d1, d2, d3] }
  | _ => none }
def FnExactPlanOverWrongFalsely : Prop := fnExactPlanOverRow.holds Tryz.pinned (OpenSpec.ofChange fnExactPlanOverWrong)

/-- 'laws.FnExactPlanPathOf': WHATEVER THE INPUT: true; the input reads as it did. -/
def fnExactPlanPathOfSpec : ChangeSpec := { name := "fnExactPlanPathOf", fn := fun _ => fun
  | [d1, d2] => { results := [.lit (.bool true)], args := [d1, d2] }
  | _ => none }
def fnExactPlanPathOfRow : OpenClaim := { program := "ytefjaihaocdpcaagreatdoor", sum := "1483a8db51d0850b4d2cb329d3110da4c15e76bc663ef2b04440be187fd3d701", func := "loop.example/lapwing/laws.FnExactPlanPathOf", spec := "fnExactPlanPathOf", inPlace := ["internal/bytealg.CountString", "internal/bytealg.IndexByteString", "internal/bytealg.IndexString"], unfollowed := true, recurses := true, named := ["unicode/utf8.first", "unicode/utf8.acceptRanges", "internal/bytealg.MaxLen", "strconv.ErrSyntax", "strconv.ErrRange", "internal/strconv.uint64pow10", "math/bits.deBruijn32tab", "math/bits.deBruijn64tab"], plainKeys := false, apart := false, laid := [("math/bits.deBruijn32tab", laid_math_bits_deBruijn32tab), ("math/bits.deBruijn64tab", laid_math_bits_deBruijn64tab), ("internal/strconv.uint64pow10", laid_internal_strconv_uint64pow10), ("unicode/utf8.acceptRanges", laid_unicode_utf8_acceptRanges), ("strconv.ErrRange", laid_strconv_ErrRange), ("strconv.ErrSyntax", laid_strconv_ErrSyntax), ("unicode/utf8.first", laid_unicode_utf8_first)] }
def FnExactPlanPathOfSaid : Prop := fnExactPlanPathOfRow.holds Tryz.pinned (OpenSpec.ofChange fnExactPlanPathOfSpec)

/-- ITS FALSE NEIGHBOUR: 'it returns false'. Refute it at one input. -/
def fnExactPlanPathOfWrong : ChangeSpec := { name := "fnExactPlanPathOf", fn := fun _ => fun
  | [d1, d2] => { results := [.lit (.bool false)], args := [d1, d2] }
  | _ => none }
def FnExactPlanPathOfWrongFalsely : Prop := fnExactPlanPathOfRow.holds Tryz.pinned (OpenSpec.ofChange fnExactPlanPathOfWrong)

/-- 'laws.FnPlanTake': WHATEVER THE INPUT: true; the input reads as it did. -/
def fnPlanTakeSpec : ChangeSpec := { name := "fnPlanTake", fn := fun _ => fun
  | [d] => { results := [.lit (.bool true)], args := [d] }
  | _ => none }
def fnPlanTakeRow : OpenClaim := { program := "ytefjaihaocdpcaagreatdoor", sum := "1483a8db51d0850b4d2cb329d3110da4c15e76bc663ef2b04440be187fd3d701", func := "loop.example/lapwing/laws.FnPlanTake", spec := "fnPlanTake", inPlace := ["internal/bytealg.CountString", "internal/bytealg.IndexByteString", "internal/bytealg.IndexString", "internal/bytealg.abigen_runtime_cmpstring"], unfollowed := true, recurses := true, named := ["unicode/utf8.first", "unicode/utf8.acceptRanges", "internal/bytealg.MaxLen", "strconv.ErrSyntax", "strconv.ErrRange", "internal/strconv.uint64pow10", "math/bits.deBruijn32tab", "math/bits.deBruijn64tab"], plainKeys := false, apart := false, laid := [("math/bits.deBruijn32tab", laid_math_bits_deBruijn32tab), ("math/bits.deBruijn64tab", laid_math_bits_deBruijn64tab), ("internal/strconv.uint64pow10", laid_internal_strconv_uint64pow10), ("unicode/utf8.acceptRanges", laid_unicode_utf8_acceptRanges), ("strconv.ErrRange", laid_strconv_ErrRange), ("strconv.ErrSyntax", laid_strconv_ErrSyntax), ("unicode/utf8.first", laid_unicode_utf8_first)] }
def FnPlanTakeSaid : Prop := fnPlanTakeRow.holds Tryz.pinned (OpenSpec.ofChange fnPlanTakeSpec)

/-- ITS FALSE NEIGHBOUR: 'it returns false'. Refute it at one input. -/
def fnPlanTakeWrong : ChangeSpec := { name := "fnPlanTake", fn := fun _ => fun
  | [d] => { results := [.lit (.bool false)], args := [d] }
  | _ => none }
def FnPlanTakeWrongFalsely : Prop := fnPlanTakeRow.holds Tryz.pinned (OpenSpec.ofChange fnPlanTakeWrong)

/-- 'laws.FnPlanMerge': WHATEVER THE INPUT: true; the input reads as it did. -/
def fnPlanMergeSpec : ChangeSpec := { name := "fnPlanMerge", fn := fun _ => fun
  | [d1, d2] => { results := [.lit (.bool true)], args := [d1, d2] }
  | _ => none }
def fnPlanMergeRow : OpenClaim := { program := "ytefjaihaocdpcaagreatdoor", sum := "1483a8db51d0850b4d2cb329d3110da4c15e76bc663ef2b04440be187fd3d701", func := "loop.example/lapwing/laws.FnPlanMerge", spec := "fnPlanMerge", inPlace := ["internal/bytealg.CountString", "internal/bytealg.IndexByteString", "internal/bytealg.IndexString", "internal/bytealg.abigen_runtime_cmpstring"], unfollowed := true, recurses := true, named := ["unicode/utf8.first", "unicode/utf8.acceptRanges", "internal/bytealg.MaxLen", "strconv.ErrSyntax", "strconv.ErrRange", "internal/strconv.uint64pow10", "math/bits.deBruijn32tab", "math/bits.deBruijn64tab"], plainKeys := false, apart := false, laid := [("math/bits.deBruijn32tab", laid_math_bits_deBruijn32tab), ("math/bits.deBruijn64tab", laid_math_bits_deBruijn64tab), ("internal/strconv.uint64pow10", laid_internal_strconv_uint64pow10), ("unicode/utf8.acceptRanges", laid_unicode_utf8_acceptRanges), ("strconv.ErrRange", laid_strconv_ErrRange), ("strconv.ErrSyntax", laid_strconv_ErrSyntax), ("unicode/utf8.first", laid_unicode_utf8_first)] }
def FnPlanMergeSaid : Prop := fnPlanMergeRow.holds Tryz.pinned (OpenSpec.ofChange fnPlanMergeSpec)

/-- ITS FALSE NEIGHBOUR: 'it returns false'. Refute it at one input. -/
def fnPlanMergeWrong : ChangeSpec := { name := "fnPlanMerge", fn := fun _ => fun
  | [d1, d2] => { results := [.lit (.bool false)], args := [d1, d2] }
  | _ => none }
def FnPlanMergeWrongFalsely : Prop := fnPlanMergeRow.holds Tryz.pinned (OpenSpec.ofChange fnPlanMergeWrong)

/-- 'laws.FnPlanPrint': WHATEVER THE INPUT: true; the input reads as it did. -/
def fnPlanPrintSpec : ChangeSpec := { name := "fnPlanPrint", vars := ["loop.example/lapwing/impl.whatWords"], fn := fun _ => fun
  | [d, g1] => { results := [.lit (.bool true)], args := [d], vars := [g1] }
  | _ => none }
def fnPlanPrintRow : OpenClaim := { program := "ytefjaihaocdpcaagreatdoor", sum := "1483a8db51d0850b4d2cb329d3110da4c15e76bc663ef2b04440be187fd3d701", func := "loop.example/lapwing/laws.FnPlanPrint", spec := "fnPlanPrint", inPlace := ["internal/bytealg.CountString", "internal/bytealg.IndexByteString", "internal/bytealg.IndexString", "internal/abi.NoEscape", "internal/bytealg.abigen_runtime_cmpstring"], unfollowed := true, recurses := true, named := ["unicode/utf8.first", "unicode/utf8.acceptRanges", "internal/bytealg.MaxLen", "strconv.ErrSyntax", "strconv.ErrRange", "internal/strconv.uint64pow10", "math/bits.deBruijn32tab", "math/bits.deBruijn64tab", "loop.example/lapwing/impl.whatWords"], plainKeys := false, apart := false, laid := [("math/bits.deBruijn32tab", laid_math_bits_deBruijn32tab), ("math/bits.deBruijn64tab", laid_math_bits_deBruijn64tab), ("internal/strconv.uint64pow10", laid_internal_strconv_uint64pow10), ("unicode/utf8.acceptRanges", laid_unicode_utf8_acceptRanges), ("strconv.ErrRange", laid_strconv_ErrRange), ("strconv.ErrSyntax", laid_strconv_ErrSyntax), ("loop.example/lapwing/impl.whatWords", laid_loop_example_lapwing_impl_whatWords), ("unicode/utf8.first", laid_unicode_utf8_first)] }
def FnPlanPrintSaid : Prop := fnPlanPrintRow.holds Tryz.pinned (OpenSpec.ofChange fnPlanPrintSpec)

/-- ITS FALSE NEIGHBOUR: 'it returns false'. Refute it at one input. -/
def fnPlanPrintWrong : ChangeSpec := { name := "fnPlanPrint", vars := ["loop.example/lapwing/impl.whatWords"], fn := fun _ => fun
  | [d, g1] => { results := [.lit (.bool false)], args := [d], vars := [g1] }
  | _ => none }
def FnPlanPrintWrongFalsely : Prop := fnPlanPrintRow.holds Tryz.pinned (OpenSpec.ofChange fnPlanPrintWrong)

/-- 'laws.FnPlanTop': WHATEVER THE INPUT: true; the input reads as it did. -/
def fnPlanTopSpec : ChangeSpec := { name := "fnPlanTop", fn := fun _ => fun
  | [d] => { results := [.lit (.bool true)], args := [d] }
  | _ => none }
def fnPlanTopRow : OpenClaim := { program := "ytefjaihaocdpcaagreatdoor", sum := "1483a8db51d0850b4d2cb329d3110da4c15e76bc663ef2b04440be187fd3d701", func := "loop.example/lapwing/laws.FnPlanTop", spec := "fnPlanTop", inPlace := ["internal/bytealg.CountString", "internal/bytealg.IndexByteString", "internal/bytealg.IndexString", "internal/bytealg.abigen_runtime_cmpstring"], unfollowed := true, recurses := true, named := ["unicode/utf8.first", "unicode/utf8.acceptRanges", "internal/bytealg.MaxLen", "strconv.ErrSyntax", "strconv.ErrRange", "internal/strconv.uint64pow10", "math/bits.deBruijn32tab", "math/bits.deBruijn64tab"], plainKeys := false, apart := false, laid := [("math/bits.deBruijn32tab", laid_math_bits_deBruijn32tab), ("math/bits.deBruijn64tab", laid_math_bits_deBruijn64tab), ("internal/strconv.uint64pow10", laid_internal_strconv_uint64pow10), ("unicode/utf8.acceptRanges", laid_unicode_utf8_acceptRanges), ("strconv.ErrRange", laid_strconv_ErrRange), ("strconv.ErrSyntax", laid_strconv_ErrSyntax), ("unicode/utf8.first", laid_unicode_utf8_first)] }
def FnPlanTopSaid : Prop := fnPlanTopRow.holds Tryz.pinned (OpenSpec.ofChange fnPlanTopSpec)

/-- ITS FALSE NEIGHBOUR: 'it returns false'. Refute it at one input. -/
def fnPlanTopWrong : ChangeSpec := { name := "fnPlanTop", fn := fun _ => fun
  | [d] => { results := [.lit (.bool false)], args := [d] }
  | _ => none }
def FnPlanTopWrongFalsely : Prop := fnPlanTopRow.holds Tryz.pinned (OpenSpec.ofChange fnPlanTopWrong)

/-- 'laws.FnExactPlanTake': WHATEVER THE INPUT: true; the input reads as it did. -/
def fnExactPlanTakeSpec : ChangeSpec := { name := "fnExactPlanTake", fn := fun _ => fun
  | [d1, d2] => { results := [.lit (.bool true)], args := [d1, d2] }
  | _ => none }
def fnExactPlanTakeRow : OpenClaim := { program := "ytefjaihaocdpcaagreatdoor", sum := "1483a8db51d0850b4d2cb329d3110da4c15e76bc663ef2b04440be187fd3d701", func := "loop.example/lapwing/laws.FnExactPlanTake", spec := "fnExactPlanTake", inPlace := ["internal/bytealg.CountString", "internal/bytealg.IndexByteString", "internal/bytealg.IndexString", "internal/bytealg.abigen_runtime_cmpstring"], unfollowed := true, recurses := true, named := ["unicode/utf8.first", "unicode/utf8.acceptRanges", "internal/bytealg.MaxLen", "strconv.ErrSyntax", "strconv.ErrRange", "internal/strconv.uint64pow10", "math/bits.deBruijn32tab", "math/bits.deBruijn64tab"], plainKeys := false, apart := false, laid := [("math/bits.deBruijn32tab", laid_math_bits_deBruijn32tab), ("math/bits.deBruijn64tab", laid_math_bits_deBruijn64tab), ("internal/strconv.uint64pow10", laid_internal_strconv_uint64pow10), ("unicode/utf8.acceptRanges", laid_unicode_utf8_acceptRanges), ("strconv.ErrRange", laid_strconv_ErrRange), ("strconv.ErrSyntax", laid_strconv_ErrSyntax), ("unicode/utf8.first", laid_unicode_utf8_first)] }
def FnExactPlanTakeSaid : Prop := fnExactPlanTakeRow.holds Tryz.pinned (OpenSpec.ofChange fnExactPlanTakeSpec)

/-- ITS FALSE NEIGHBOUR: 'it returns false'. Refute it at one input. -/
def fnExactPlanTakeWrong : ChangeSpec := { name := "fnExactPlanTake", fn := fun _ => fun
  | [d1, d2] => { results := [.lit (.bool false)], args := [d1, d2] }
  | _ => none }
def FnExactPlanTakeWrongFalsely : Prop := fnExactPlanTakeRow.holds Tryz.pinned (OpenSpec.ofChange fnExactPlanTakeWrong)

/-- 'laws.FnExactPlanMerge': WHATEVER THE INPUT: true; the input reads as it did. -/
def fnExactPlanMergeSpec : ChangeSpec := { name := "fnExactPlanMerge", fn := fun _ => fun
  | [d1, d2] => { results := [.lit (.bool true)], args := [d1, d2] }
  | _ => none }
def fnExactPlanMergeRow : OpenClaim := { program := "ytefjaihaocdpcaagreatdoor", sum := "1483a8db51d0850b4d2cb329d3110da4c15e76bc663ef2b04440be187fd3d701", func := "loop.example/lapwing/laws.FnExactPlanMerge", spec := "fnExactPlanMerge", inPlace := ["internal/bytealg.CountString", "internal/bytealg.IndexByteString", "internal/bytealg.IndexString", "internal/bytealg.abigen_runtime_cmpstring"], unfollowed := true, recurses := true, named := ["unicode/utf8.first", "unicode/utf8.acceptRanges", "internal/bytealg.MaxLen", "strconv.ErrSyntax", "strconv.ErrRange", "internal/strconv.uint64pow10", "math/bits.deBruijn32tab", "math/bits.deBruijn64tab"], plainKeys := false, apart := false, laid := [("math/bits.deBruijn32tab", laid_math_bits_deBruijn32tab), ("math/bits.deBruijn64tab", laid_math_bits_deBruijn64tab), ("internal/strconv.uint64pow10", laid_internal_strconv_uint64pow10), ("unicode/utf8.acceptRanges", laid_unicode_utf8_acceptRanges), ("strconv.ErrRange", laid_strconv_ErrRange), ("strconv.ErrSyntax", laid_strconv_ErrSyntax), ("unicode/utf8.first", laid_unicode_utf8_first)] }
def FnExactPlanMergeSaid : Prop := fnExactPlanMergeRow.holds Tryz.pinned (OpenSpec.ofChange fnExactPlanMergeSpec)

/-- ITS FALSE NEIGHBOUR: 'it returns false'. Refute it at one input. -/
def fnExactPlanMergeWrong : ChangeSpec := { name := "fnExactPlanMerge", fn := fun _ => fun
  | [d1, d2] => { results := [.lit (.bool false)], args := [d1, d2] }
  | _ => none }
def FnExactPlanMergeWrongFalsely : Prop := fnExactPlanMergeRow.holds Tryz.pinned (OpenSpec.ofChange fnExactPlanMergeWrong)

/-- 'laws.FnPlanText': WHATEVER THE INPUT: true; the input reads as it did. -/
def fnPlanTextSpec : ChangeSpec := { name := "fnPlanText", vars := ["loop.example/lapwing/impl.whatWords"], fn := fun _ => fun
  | [d, g1] => { results := [.lit (.bool true)], args := [d], vars := [g1] }
  | _ => none }
def fnPlanTextRow : OpenClaim := { program := "ytefjaihaocdpcaagreatdoor", sum := "1483a8db51d0850b4d2cb329d3110da4c15e76bc663ef2b04440be187fd3d701", func := "loop.example/lapwing/laws.FnPlanText", spec := "fnPlanText", inPlace := ["internal/bytealg.CountString", "internal/bytealg.IndexByteString", "internal/bytealg.IndexString", "internal/bytealg.abigen_runtime_cmpstring", "internal/abi.NoEscape"], unfollowed := true, recurses := true, named := ["unicode/utf8.first", "unicode/utf8.acceptRanges", "internal/bytealg.MaxLen", "loop.example/lapwing/impl.whatWords", "strconv.ErrSyntax", "strconv.ErrRange", "internal/strconv.uint64pow10", "math/bits.deBruijn32tab", "math/bits.deBruijn64tab"], plainKeys := false, apart := false, laid := [("math/bits.deBruijn32tab", laid_math_bits_deBruijn32tab), ("math/bits.deBruijn64tab", laid_math_bits_deBruijn64tab), ("internal/strconv.uint64pow10", laid_internal_strconv_uint64pow10), ("unicode/utf8.acceptRanges", laid_unicode_utf8_acceptRanges), ("strconv.ErrRange", laid_strconv_ErrRange), ("strconv.ErrSyntax", laid_strconv_ErrSyntax), ("loop.example/lapwing/impl.whatWords", laid_loop_example_lapwing_impl_whatWords), ("unicode/utf8.first", laid_unicode_utf8_first)] }
def FnPlanTextSaid : Prop := fnPlanTextRow.holds Tryz.pinned (OpenSpec.ofChange fnPlanTextSpec)

/-- ITS FALSE NEIGHBOUR: 'it returns false'. Refute it at one input. -/
def fnPlanTextWrong : ChangeSpec := { name := "fnPlanText", vars := ["loop.example/lapwing/impl.whatWords"], fn := fun _ => fun
  | [d, g1] => { results := [.lit (.bool false)], args := [d], vars := [g1] }
  | _ => none }
def FnPlanTextWrongFalsely : Prop := fnPlanTextRow.holds Tryz.pinned (OpenSpec.ofChange fnPlanTextWrong)

/-- 'laws.FnExactPlanTakeAll': WHATEVER THE INPUT: true; the input reads as it did. -/
def fnExactPlanTakeAllSpec : ChangeSpec := { name := "fnExactPlanTakeAll", fn := fun _ => fun
  | [d1, d2] => { results := [.lit (.bool true)], args := [d1, d2] }
  | _ => none }
def fnExactPlanTakeAllRow : OpenClaim := { program := "ytefjaihaocdpcaagreatdoor", sum := "1483a8db51d0850b4d2cb329d3110da4c15e76bc663ef2b04440be187fd3d701", func := "loop.example/lapwing/laws.FnExactPlanTakeAll", spec := "fnExactPlanTakeAll", inPlace := ["internal/bytealg.CountString", "internal/bytealg.IndexByteString", "internal/bytealg.IndexString", "internal/bytealg.abigen_runtime_cmpstring"], unfollowed := true, recurses := true, named := ["unicode/utf8.first", "unicode/utf8.acceptRanges", "internal/bytealg.MaxLen", "strconv.ErrSyntax", "strconv.ErrRange", "internal/strconv.uint64pow10", "math/bits.deBruijn32tab", "math/bits.deBruijn64tab"], plainKeys := false, apart := false, laid := [("math/bits.deBruijn32tab", laid_math_bits_deBruijn32tab), ("math/bits.deBruijn64tab", laid_math_bits_deBruijn64tab), ("internal/strconv.uint64pow10", laid_internal_strconv_uint64pow10), ("unicode/utf8.acceptRanges", laid_unicode_utf8_acceptRanges), ("strconv.ErrRange", laid_strconv_ErrRange), ("strconv.ErrSyntax", laid_strconv_ErrSyntax), ("unicode/utf8.first", laid_unicode_utf8_first)] }
def FnExactPlanTakeAllSaid : Prop := fnExactPlanTakeAllRow.holds Tryz.pinned (OpenSpec.ofChange fnExactPlanTakeAllSpec)

/-- ITS FALSE NEIGHBOUR: 'it returns false'. Refute it at one input. -/
def fnExactPlanTakeAllWrong : ChangeSpec := { name := "fnExactPlanTakeAll", fn := fun _ => fun
  | [d1, d2] => { results := [.lit (.bool false)], args := [d1, d2] }
  | _ => none }
def FnExactPlanTakeAllWrongFalsely : Prop := fnExactPlanTakeAllRow.holds Tryz.pinned (OpenSpec.ofChange fnExactPlanTakeAllWrong)

/- THE SECOND FORM. 'bulk': how many values and letters a reading holds, each counted each time it is reached (what is shared counts as often as it is met; a slice's spare places count too). A statement '..UptoSaid' is the law's where the arguments, and the package variables that the reading takes, are together of bulk at most 1048576: NARROWER than '..Said'. Prove '..Said' where nothing that the law and all that it calls make is longer than what came in: it says more and counts as full. Else prove '..UptoSaid'. A law counts once. -/
mutual
def uptoBulk {H : Type} : DataW H → Nat
  | .lit (.string bytes) => bytes.length + 1
  | .lit _ => 1
  | .nil => 1
  | .ptr d => uptoBulk d + 1
  | .slice elems spare => uptoBulkAll elems + uptoBulkAll spare + 1
  | .agg parts => uptoBulkAll parts + 1
  | .iface _ d => uptoBulk d + 1
  | .map entries => uptoBulkEntries entries + 1
  | .held _ => 1
def uptoBulkAll {H : Type} : List (DataW H) → Nat
  | [] => 0
  | d :: r => uptoBulk d + uptoBulkAll r
def uptoBulkEntries {H : Type} : List (Lit × DataW H) → Nat
  | [] => 0
  | x :: r => uptoBulkEntry x + uptoBulkEntries r
def uptoBulkEntry {H : Type} : Lit × DataW H → Nat
  | (.string bytes, d) => bytes.length + uptoBulk d + 1
  | (_, d) => uptoBulk d + 1
 end
def uptoSmall : (H : Type) → List (DataW H) → Bool := fun _ ds => decide (uptoBulkAll ds ≤ 1048576)
def OpenSpec.upto (s : _root_.Go.ChangeSpec) : _root_.Go.OpenSpec := { _root_.Go.OpenSpec.ofChange s with cond := some uptoSmall }

/-- 'laws.FnPlanPath', WHERE WHAT IT READS IS OF BULK AT MOST 1048576: true; the input reads as it did. -/
def fnPlanPathUptoRow : OpenClaim := { program := "ytefjaihaocdpcaagreatdoor", sum := "1483a8db51d0850b4d2cb329d3110da4c15e76bc663ef2b04440be187fd3d701", func := "loop.example/lapwing/laws.FnPlanPath", spec := "fnPlanPath", inPlace := ["internal/bytealg.CountString", "internal/bytealg.IndexByteString", "internal/bytealg.IndexString"], unfollowed := true, recurses := true, named := ["unicode/utf8.first", "unicode/utf8.acceptRanges", "internal/bytealg.MaxLen", "strconv.ErrSyntax", "strconv.ErrRange", "internal/strconv.uint64pow10", "math/bits.deBruijn32tab", "math/bits.deBruijn64tab"], plainKeys := false, apart := false, laid := [("math/bits.deBruijn32tab", laid_math_bits_deBruijn32tab), ("math/bits.deBruijn64tab", laid_math_bits_deBruijn64tab), ("internal/strconv.uint64pow10", laid_internal_strconv_uint64pow10), ("unicode/utf8.acceptRanges", laid_unicode_utf8_acceptRanges), ("strconv.ErrRange", laid_strconv_ErrRange), ("strconv.ErrSyntax", laid_strconv_ErrSyntax), ("unicode/utf8.first", laid_unicode_utf8_first)], narrowed := true }
def FnPlanPathUptoSaid : Prop := fnPlanPathUptoRow.holds Tryz.pinned (OpenSpec.upto fnPlanPathSpec)

/-- 'laws.FnPlanFits', WHERE WHAT IT READS IS OF BULK AT MOST 1048576: true; the input reads as it did. -/
def fnPlanFitsUptoRow : OpenClaim := { program := "ytefjaihaocdpcaagreatdoor", sum := "1483a8db51d0850b4d2cb329d3110da4c15e76bc663ef2b04440be187fd3d701", func := "loop.example/lapwing/laws.FnPlanFits", spec := "fnPlanFits", inPlace := ["internal/bytealg.CountString", "internal/bytealg.IndexByteString", "internal/bytealg.IndexString", "internal/bytealg.abigen_runtime_cmpstring"], unfollowed := true, recurses := true, named := ["unicode/utf8.first", "unicode/utf8.acceptRanges", "internal/bytealg.MaxLen", "strconv.ErrSyntax", "strconv.ErrRange", "internal/strconv.uint64pow10", "math/bits.deBruijn32tab", "math/bits.deBruijn64tab", "loop.example/lapwing/impl.whatWords"], plainKeys := false, apart := false, laid := [("math/bits.deBruijn32tab", laid_math_bits_deBruijn32tab), ("math/bits.deBruijn64tab", laid_math_bits_deBruijn64tab), ("internal/strconv.uint64pow10", laid_internal_strconv_uint64pow10), ("unicode/utf8.acceptRanges", laid_unicode_utf8_acceptRanges), ("strconv.ErrRange", laid_strconv_ErrRange), ("strconv.ErrSyntax", laid_strconv_ErrSyntax), ("loop.example/lapwing/impl.whatWords", laid_loop_example_lapwing_impl_whatWords), ("unicode/utf8.first", laid_unicode_utf8_first)], narrowed := true }
def FnPlanFitsUptoSaid : Prop := fnPlanFitsUptoRow.holds Tryz.pinned (OpenSpec.upto fnPlanFitsSpec)

/-- 'laws.FnPlanOver', WHERE WHAT IT READS IS OF BULK AT MOST 1048576: true; the input reads as it did. -/
def fnPlanOverUptoRow : OpenClaim := { program := "ytefjaihaocdpcaagreatdoor", sum := "1483a8db51d0850b4d2cb329d3110da4c15e76bc663ef2b04440be187fd3d701", func := "loop.example/lapwing/laws.FnPlanOver", spec := "fnPlanOver", inPlace := ["internal/bytealg.CountString", "internal/bytealg.IndexByteString", "internal/bytealg.IndexString"], unfollowed := true, recurses := true, named := ["unicode/utf8.first", "unicode/utf8.acceptRanges", "internal/bytealg.MaxLen", "strconv.ErrSyntax", "strconv.ErrRange", "internal/strconv.uint64pow10", "math/bits.deBruijn32tab", "math/bits.deBruijn64tab"], plainKeys := false, apart := false, laid := [("math/bits.deBruijn32tab", laid_math_bits_deBruijn32tab), ("math/bits.deBruijn64tab", laid_math_bits_deBruijn64tab), ("internal/strconv.uint64pow10", laid_internal_strconv_uint64pow10), ("unicode/utf8.acceptRanges", laid_unicode_utf8_acceptRanges), ("strconv.ErrRange", laid_strconv_ErrRange), ("strconv.ErrSyntax", laid_strconv_ErrSyntax), ("unicode/utf8.first", laid_unicode_utf8_first)], narrowed := true }
def FnPlanOverUptoSaid : Prop := fnPlanOverUptoRow.holds Tryz.pinned (OpenSpec.upto fnPlanOverSpec)

/-- 'laws.FnExactPlanOver', WHERE WHAT IT READS IS OF BULK AT MOST 1048576: true; the input reads as it did. -/
def fnExactPlanOverUptoRow : OpenClaim := { program := "ytefjaihaocdpcaagreatdoor", sum := "1483a8db51d0850b4d2cb329d3110da4c15e76bc663ef2b04440be187fd3d701", func := "loop.example/lapwing/laws.FnExactPlanOver", spec := "fnExactPlanOver", inPlace := ["internal/bytealg.CountString", "internal/bytealg.IndexByteString", "internal/bytealg.IndexString"], unfollowed := true, recurses := true, named := ["unicode/utf8.first", "unicode/utf8.acceptRanges", "internal/bytealg.MaxLen", "strconv.ErrSyntax", "strconv.ErrRange", "internal/strconv.uint64pow10", "math/bits.deBruijn32tab", "math/bits.deBruijn64tab"], plainKeys := false, apart := false, laid := [("math/bits.deBruijn32tab", laid_math_bits_deBruijn32tab), ("math/bits.deBruijn64tab", laid_math_bits_deBruijn64tab), ("internal/strconv.uint64pow10", laid_internal_strconv_uint64pow10), ("unicode/utf8.acceptRanges", laid_unicode_utf8_acceptRanges), ("strconv.ErrRange", laid_strconv_ErrRange), ("strconv.ErrSyntax", laid_strconv_ErrSyntax), ("unicode/utf8.first", laid_unicode_utf8_first)], narrowed := true }
def FnExactPlanOverUptoSaid : Prop := fnExactPlanOverUptoRow.holds Tryz.pinned (OpenSpec.upto fnExactPlanOverSpec)

/-- 'laws.FnExactPlanPathOf', WHERE WHAT IT READS IS OF BULK AT MOST 1048576: true; the input reads as it did. -/
def fnExactPlanPathOfUptoRow : OpenClaim := { program := "ytefjaihaocdpcaagreatdoor", sum := "1483a8db51d0850b4d2cb329d3110da4c15e76bc663ef2b04440be187fd3d701", func := "loop.example/lapwing/laws.FnExactPlanPathOf", spec := "fnExactPlanPathOf", inPlace := ["internal/bytealg.CountString", "internal/bytealg.IndexByteString", "internal/bytealg.IndexString"], unfollowed := true, recurses := true, named := ["unicode/utf8.first", "unicode/utf8.acceptRanges", "internal/bytealg.MaxLen", "strconv.ErrSyntax", "strconv.ErrRange", "internal/strconv.uint64pow10", "math/bits.deBruijn32tab", "math/bits.deBruijn64tab"], plainKeys := false, apart := false, laid := [("math/bits.deBruijn32tab", laid_math_bits_deBruijn32tab), ("math/bits.deBruijn64tab", laid_math_bits_deBruijn64tab), ("internal/strconv.uint64pow10", laid_internal_strconv_uint64pow10), ("unicode/utf8.acceptRanges", laid_unicode_utf8_acceptRanges), ("strconv.ErrRange", laid_strconv_ErrRange), ("strconv.ErrSyntax", laid_strconv_ErrSyntax), ("unicode/utf8.first", laid_unicode_utf8_first)], narrowed := true }
def FnExactPlanPathOfUptoSaid : Prop := fnExactPlanPathOfUptoRow.holds Tryz.pinned (OpenSpec.upto fnExactPlanPathOfSpec)

/-- 'laws.FnPlanTake', WHERE WHAT IT READS IS OF BULK AT MOST 1048576: true; the input reads as it did. -/
def fnPlanTakeUptoRow : OpenClaim := { program := "ytefjaihaocdpcaagreatdoor", sum := "1483a8db51d0850b4d2cb329d3110da4c15e76bc663ef2b04440be187fd3d701", func := "loop.example/lapwing/laws.FnPlanTake", spec := "fnPlanTake", inPlace := ["internal/bytealg.CountString", "internal/bytealg.IndexByteString", "internal/bytealg.IndexString", "internal/bytealg.abigen_runtime_cmpstring"], unfollowed := true, recurses := true, named := ["unicode/utf8.first", "unicode/utf8.acceptRanges", "internal/bytealg.MaxLen", "strconv.ErrSyntax", "strconv.ErrRange", "internal/strconv.uint64pow10", "math/bits.deBruijn32tab", "math/bits.deBruijn64tab"], plainKeys := false, apart := false, laid := [("math/bits.deBruijn32tab", laid_math_bits_deBruijn32tab), ("math/bits.deBruijn64tab", laid_math_bits_deBruijn64tab), ("internal/strconv.uint64pow10", laid_internal_strconv_uint64pow10), ("unicode/utf8.acceptRanges", laid_unicode_utf8_acceptRanges), ("strconv.ErrRange", laid_strconv_ErrRange), ("strconv.ErrSyntax", laid_strconv_ErrSyntax), ("unicode/utf8.first", laid_unicode_utf8_first)], narrowed := true }
def FnPlanTakeUptoSaid : Prop := fnPlanTakeUptoRow.holds Tryz.pinned (OpenSpec.upto fnPlanTakeSpec)

/-- 'laws.FnPlanMerge', WHERE WHAT IT READS IS OF BULK AT MOST 1048576: true; the input reads as it did. -/
def fnPlanMergeUptoRow : OpenClaim := { program := "ytefjaihaocdpcaagreatdoor", sum := "1483a8db51d0850b4d2cb329d3110da4c15e76bc663ef2b04440be187fd3d701", func := "loop.example/lapwing/laws.FnPlanMerge", spec := "fnPlanMerge", inPlace := ["internal/bytealg.CountString", "internal/bytealg.IndexByteString", "internal/bytealg.IndexString", "internal/bytealg.abigen_runtime_cmpstring"], unfollowed := true, recurses := true, named := ["unicode/utf8.first", "unicode/utf8.acceptRanges", "internal/bytealg.MaxLen", "strconv.ErrSyntax", "strconv.ErrRange", "internal/strconv.uint64pow10", "math/bits.deBruijn32tab", "math/bits.deBruijn64tab"], plainKeys := false, apart := false, laid := [("math/bits.deBruijn32tab", laid_math_bits_deBruijn32tab), ("math/bits.deBruijn64tab", laid_math_bits_deBruijn64tab), ("internal/strconv.uint64pow10", laid_internal_strconv_uint64pow10), ("unicode/utf8.acceptRanges", laid_unicode_utf8_acceptRanges), ("strconv.ErrRange", laid_strconv_ErrRange), ("strconv.ErrSyntax", laid_strconv_ErrSyntax), ("unicode/utf8.first", laid_unicode_utf8_first)], narrowed := true }
def FnPlanMergeUptoSaid : Prop := fnPlanMergeUptoRow.holds Tryz.pinned (OpenSpec.upto fnPlanMergeSpec)

/-- 'laws.FnPlanPrint', WHERE WHAT IT READS IS OF BULK AT MOST 1048576: true; the input reads as it did. -/
def fnPlanPrintUptoRow : OpenClaim := { program := "ytefjaihaocdpcaagreatdoor", sum := "1483a8db51d0850b4d2cb329d3110da4c15e76bc663ef2b04440be187fd3d701", func := "loop.example/lapwing/laws.FnPlanPrint", spec := "fnPlanPrint", inPlace := ["internal/bytealg.CountString", "internal/bytealg.IndexByteString", "internal/bytealg.IndexString", "internal/abi.NoEscape", "internal/bytealg.abigen_runtime_cmpstring"], unfollowed := true, recurses := true, named := ["unicode/utf8.first", "unicode/utf8.acceptRanges", "internal/bytealg.MaxLen", "strconv.ErrSyntax", "strconv.ErrRange", "internal/strconv.uint64pow10", "math/bits.deBruijn32tab", "math/bits.deBruijn64tab", "loop.example/lapwing/impl.whatWords"], plainKeys := false, apart := false, laid := [("math/bits.deBruijn32tab", laid_math_bits_deBruijn32tab), ("math/bits.deBruijn64tab", laid_math_bits_deBruijn64tab), ("internal/strconv.uint64pow10", laid_internal_strconv_uint64pow10), ("unicode/utf8.acceptRanges", laid_unicode_utf8_acceptRanges), ("strconv.ErrRange", laid_strconv_ErrRange), ("strconv.ErrSyntax", laid_strconv_ErrSyntax), ("loop.example/lapwing/impl.whatWords", laid_loop_example_lapwing_impl_whatWords), ("unicode/utf8.first", laid_unicode_utf8_first)], narrowed := true }
def FnPlanPrintUptoSaid : Prop := fnPlanPrintUptoRow.holds Tryz.pinned (OpenSpec.upto fnPlanPrintSpec)

/-- 'laws.FnPlanTop', WHERE WHAT IT READS IS OF BULK AT MOST 1048576: true; the input reads as it did. -/
def fnPlanTopUptoRow : OpenClaim := { program := "ytefjaihaocdpcaagreatdoor", sum := "1483a8db51d0850b4d2cb329d3110da4c15e76bc663ef2b04440be187fd3d701", func := "loop.example/lapwing/laws.FnPlanTop", spec := "fnPlanTop", inPlace := ["internal/bytealg.CountString", "internal/bytealg.IndexByteString", "internal/bytealg.IndexString", "internal/bytealg.abigen_runtime_cmpstring"], unfollowed := true, recurses := true, named := ["unicode/utf8.first", "unicode/utf8.acceptRanges", "internal/bytealg.MaxLen", "strconv.ErrSyntax", "strconv.ErrRange", "internal/strconv.uint64pow10", "math/bits.deBruijn32tab", "math/bits.deBruijn64tab"], plainKeys := false, apart := false, laid := [("math/bits.deBruijn32tab", laid_math_bits_deBruijn32tab), ("math/bits.deBruijn64tab", laid_math_bits_deBruijn64tab), ("internal/strconv.uint64pow10", laid_internal_strconv_uint64pow10), ("unicode/utf8.acceptRanges", laid_unicode_utf8_acceptRanges), ("strconv.ErrRange", laid_strconv_ErrRange), ("strconv.ErrSyntax", laid_strconv_ErrSyntax), ("unicode/utf8.first", laid_unicode_utf8_first)], narrowed := true }
def FnPlanTopUptoSaid : Prop := fnPlanTopUptoRow.holds Tryz.pinned (OpenSpec.upto fnPlanTopSpec)

/-- 'laws.FnExactPlanTake', WHERE WHAT IT READS IS OF BULK AT MOST 1048576: true; the input reads as it did. -/
def fnExactPlanTakeUptoRow : OpenClaim := { program := "ytefjaihaocdpcaagreatdoor", sum := "1483a8db51d0850b4d2cb329d3110da4c15e76bc663ef2b04440be187fd3d701", func := "loop.example/lapwing/laws.FnExactPlanTake", spec := "fnExactPlanTake", inPlace := ["internal/bytealg.CountString", "internal/bytealg.IndexByteString", "internal/bytealg.IndexString", "internal/bytealg.abigen_runtime_cmpstring"], unfollowed := true, recurses := true, named := ["unicode/utf8.first", "unicode/utf8.acceptRanges", "internal/bytealg.MaxLen", "strconv.ErrSyntax", "strconv.ErrRange", "internal/strconv.uint64pow10", "math/bits.deBruijn32tab", "math/bits.deBruijn64tab"], plainKeys := false, apart := false, laid := [("math/bits.deBruijn32tab", laid_math_bits_deBruijn32tab), ("math/bits.deBruijn64tab", laid_math_bits_deBruijn64tab), ("internal/strconv.uint64pow10", laid_internal_strconv_uint64pow10), ("unicode/utf8.acceptRanges", laid_unicode_utf8_acceptRanges), ("strconv.ErrRange", laid_strconv_ErrRange), ("strconv.ErrSyntax", laid_strconv_ErrSyntax), ("unicode/utf8.first", laid_unicode_utf8_first)], narrowed := true }
def FnExactPlanTakeUptoSaid : Prop := fnExactPlanTakeUptoRow.holds Tryz.pinned (OpenSpec.upto fnExactPlanTakeSpec)

/-- 'laws.FnExactPlanMerge', WHERE WHAT IT READS IS OF BULK AT MOST 1048576: true; the input reads as it did. -/
def fnExactPlanMergeUptoRow : OpenClaim := { program := "ytefjaihaocdpcaagreatdoor", sum := "1483a8db51d0850b4d2cb329d3110da4c15e76bc663ef2b04440be187fd3d701", func := "loop.example/lapwing/laws.FnExactPlanMerge", spec := "fnExactPlanMerge", inPlace := ["internal/bytealg.CountString", "internal/bytealg.IndexByteString", "internal/bytealg.IndexString", "internal/bytealg.abigen_runtime_cmpstring"], unfollowed := true, recurses := true, named := ["unicode/utf8.first", "unicode/utf8.acceptRanges", "internal/bytealg.MaxLen", "strconv.ErrSyntax", "strconv.ErrRange", "internal/strconv.uint64pow10", "math/bits.deBruijn32tab", "math/bits.deBruijn64tab"], plainKeys := false, apart := false, laid := [("math/bits.deBruijn32tab", laid_math_bits_deBruijn32tab), ("math/bits.deBruijn64tab", laid_math_bits_deBruijn64tab), ("internal/strconv.uint64pow10", laid_internal_strconv_uint64pow10), ("unicode/utf8.acceptRanges", laid_unicode_utf8_acceptRanges), ("strconv.ErrRange", laid_strconv_ErrRange), ("strconv.ErrSyntax", laid_strconv_ErrSyntax), ("unicode/utf8.first", laid_unicode_utf8_first)], narrowed := true }
def FnExactPlanMergeUptoSaid : Prop := fnExactPlanMergeUptoRow.holds Tryz.pinned (OpenSpec.upto fnExactPlanMergeSpec)

/-- 'laws.FnPlanText', WHERE WHAT IT READS IS OF BULK AT MOST 1048576: true; the input reads as it did. -/
def fnPlanTextUptoRow : OpenClaim := { program := "ytefjaihaocdpcaagreatdoor", sum := "1483a8db51d0850b4d2cb329d3110da4c15e76bc663ef2b04440be187fd3d701", func := "loop.example/lapwing/laws.FnPlanText", spec := "fnPlanText", inPlace := ["internal/bytealg.CountString", "internal/bytealg.IndexByteString", "internal/bytealg.IndexString", "internal/bytealg.abigen_runtime_cmpstring", "internal/abi.NoEscape"], unfollowed := true, recurses := true, named := ["unicode/utf8.first", "unicode/utf8.acceptRanges", "internal/bytealg.MaxLen", "loop.example/lapwing/impl.whatWords", "strconv.ErrSyntax", "strconv.ErrRange", "internal/strconv.uint64pow10", "math/bits.deBruijn32tab", "math/bits.deBruijn64tab"], plainKeys := false, apart := false, laid := [("math/bits.deBruijn32tab", laid_math_bits_deBruijn32tab), ("math/bits.deBruijn64tab", laid_math_bits_deBruijn64tab), ("internal/strconv.uint64pow10", laid_internal_strconv_uint64pow10), ("unicode/utf8.acceptRanges", laid_unicode_utf8_acceptRanges), ("strconv.ErrRange", laid_strconv_ErrRange), ("strconv.ErrSyntax", laid_strconv_ErrSyntax), ("loop.example/lapwing/impl.whatWords", laid_loop_example_lapwing_impl_whatWords), ("unicode/utf8.first", laid_unicode_utf8_first)], narrowed := true }
def FnPlanTextUptoSaid : Prop := fnPlanTextUptoRow.holds Tryz.pinned (OpenSpec.upto fnPlanTextSpec)

/-- 'laws.FnExactPlanTakeAll', WHERE WHAT IT READS IS OF BULK AT MOST 1048576: true; the input reads as it did. -/
def fnExactPlanTakeAllUptoRow : OpenClaim := { program := "ytefjaihaocdpcaagreatdoor", sum := "1483a8db51d0850b4d2cb329d3110da4c15e76bc663ef2b04440be187fd3d701", func := "loop.example/lapwing/laws.FnExactPlanTakeAll", spec := "fnExactPlanTakeAll", inPlace := ["internal/bytealg.CountString", "internal/bytealg.IndexByteString", "internal/bytealg.IndexString", "internal/bytealg.abigen_runtime_cmpstring"], unfollowed := true, recurses := true, named := ["unicode/utf8.first", "unicode/utf8.acceptRanges", "internal/bytealg.MaxLen", "strconv.ErrSyntax", "strconv.ErrRange", "internal/strconv.uint64pow10", "math/bits.deBruijn32tab", "math/bits.deBruijn64tab"], plainKeys := false, apart := false, laid := [("math/bits.deBruijn32tab", laid_math_bits_deBruijn32tab), ("math/bits.deBruijn64tab", laid_math_bits_deBruijn64tab), ("internal/strconv.uint64pow10", laid_internal_strconv_uint64pow10), ("unicode/utf8.acceptRanges", laid_unicode_utf8_acceptRanges), ("strconv.ErrRange", laid_strconv_ErrRange), ("strconv.ErrSyntax", laid_strconv_ErrSyntax), ("unicode/utf8.first", laid_unicode_utf8_first)], narrowed := true }
def FnExactPlanTakeAllUptoSaid : Prop := fnExactPlanTakeAllUptoRow.holds Tryz.pinned (OpenSpec.upto fnExactPlanTakeAllSpec)

end Rows
end Go.Proofs.YtefjaihaocdpcaaGreatDoor
