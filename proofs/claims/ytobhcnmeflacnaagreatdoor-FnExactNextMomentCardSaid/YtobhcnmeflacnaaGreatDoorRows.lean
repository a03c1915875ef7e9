/-
  NARROWER THAN 'FOR EVERY INPUT', by the rows' own cells (each row's printed sentence says how): FnExactIsValidState: loops, laid · FnExactIsFulfilled: loops, laid · FnExactReorderParties: loops, laid · FnExactIdlePermissions: loops, laid · FnExactHoldsNow: loops, laid · FnExactNextMoment: loops, laid · FnExactPowerFor: loops, laid · FnExactIsForbidden: loops, laid · FnExactFormatClause: loops, laid · FnExactFormatTrace: loops, laid · FnExactFormatContract: loops, laid · FnExactMovesOf: loops, laid.
  DERIVED. THE GIVEN ROWS OF THIS SEAT. 12 by the template 'for every input the law returns true; each argument reads behind the call as it read before'; 0 by the template 'total and deterministic' (their statements: YtobhcnmeflacnaaGreatDoorTotals.lean).
  GIVEN WITH THE SEED: the statements are not yours to turn. If you find one false, say at which input.
  Laid BY PROGRAM, IN A SANDBOX (cutbox-rows.mjs): the forced cells as the released guide's own fill.sh prints them over the translation 1a919850bccdbb16… (all of the seat's roots in one cut). By AI agents, Wed Nov 11 2026. No macro, syntax, notation, axiom, sorry.
-/
import Derived.Test.YtobhcnmeflacnaaGreatDoorChecked
import GoSem.PinnedTables
import GoSem.Claim
import GoSem.ClaimJoined
import GoSem.ClaimMapViews
import Derived.JoinedTies
import Derived.KernelRfl
namespace Go.Proofs.YtobhcnmeflacnaaGreatDoor
/- THE CELL 'sum', in the pinned program and in every row, IS THE sha256 OF THE DUMP (.gsa) THAT YtobhcnmeflacnaaGreatDoorProg.lean LOADS. Nothing in Lean hashes anything: it is a label: what it is worth is what the hold of that sum in a sandbox is worth. -/
noncomputable def Tryz.pinned : Pinned := { name := "ytobhcnmeflacnaagreatdoor", sum := "1a919850bccdbb163c6daad93f75f5b6b7a03cc95442b1d6f5999f68a0be27e8", checked := Tryz.checked }
namespace Rows
def none {H : Type} : Left H := { results := [], args := [] }

/- WHAT THE LISTED PACKAGE-LEVEL VARIABLES READ AS WHEN THE CALL BEGINS. Each datum BY PROGRAM (the guide's laid-datum.mjs) off the statement by which the dump's own 'gosem.cut.vars' lays the variable. In a bare row this is a premise. The card (YtobhcnmeflacnaaGreatDoorCards.lean) ties it to the program's text. -/
def laid_unicode_utf8_acceptRanges {H : Type} : DataW H := .agg [.agg [.lit (.int .u8 128), .lit (.int .u8 191)], .agg [.lit (.int .u8 160), .lit (.int .u8 191)], .agg [.lit (.int .u8 128), .lit (.int .u8 159)], .agg [.lit (.int .u8 144), .lit (.int .u8 191)], .agg [.lit (.int .u8 128), .lit (.int .u8 143)], .agg [.lit (.int .u8 0), .lit (.int .u8 0)], .agg [.lit (.int .u8 0), .lit (.int .u8 0)], .agg [.lit (.int .u8 0), .lit (.int .u8 0)], .agg [.lit (.int .u8 0), .lit (.int .u8 0)], .agg [.lit (.int .u8 0), .lit (.int .u8 0)], .agg [.lit (.int .u8 0), .lit (.int .u8 0)], .agg [.lit (.int .u8 0), .lit (.int .u8 0)], .agg [.lit (.int .u8 0), .lit (.int .u8 0)], .agg [.lit (.int .u8 0), .lit (.int .u8 0)], .agg [.lit (.int .u8 0), .lit (.int .u8 0)], .agg [.lit (.int .u8 0), .lit (.int .u8 0)]]
/-- One of Go's own tables, pinned by name: the form's constant. -/
def laid_unicode_utf8_first : DataW Unit := Go.Pinned.utf8First
def laid_math_bits_deBruijn32tab {H : Type} : DataW H := .agg [.lit (.int .u8 0), .lit (.int .u8 1), .lit (.int .u8 28), .lit (.int .u8 2), .lit (.int .u8 29), .lit (.int .u8 14), .lit (.int .u8 24), .lit (.int .u8 3), .lit (.int .u8 30), .lit (.int .u8 22), .lit (.int .u8 20), .lit (.int .u8 15), .lit (.int .u8 25), .lit (.int .u8 17), .lit (.int .u8 4), .lit (.int .u8 8), .lit (.int .u8 31), .lit (.int .u8 27), .lit (.int .u8 13), .lit (.int .u8 23), .lit (.int .u8 21), .lit (.int .u8 19), .lit (.int .u8 16), .lit (.int .u8 7), .lit (.int .u8 26), .lit (.int .u8 12), .lit (.int .u8 18), .lit (.int .u8 6), .lit (.int .u8 11), .lit (.int .u8 5), .lit (.int .u8 10), .lit (.int .u8 9)]
def laid_math_bits_deBruijn64tab {H : Type} : DataW H := .agg [.lit (.int .u8 0), .lit (.int .u8 1), .lit (.int .u8 56), .lit (.int .u8 2), .lit (.int .u8 57), .lit (.int .u8 49), .lit (.int .u8 28), .lit (.int .u8 3), .lit (.int .u8 61), .lit (.int .u8 58), .lit (.int .u8 42), .lit (.int .u8 50), .lit (.int .u8 38), .lit (.int .u8 29), .lit (.int .u8 17), .lit (.int .u8 4), .lit (.int .u8 62), .lit (.int .u8 47), .lit (.int .u8 59), .lit (.int .u8 36), .lit (.int .u8 45), .lit (.int .u8 43), .lit (.int .u8 51), .lit (.int .u8 22), .lit (.int .u8 53), .lit (.int .u8 39), .lit (.int .u8 33), .lit (.int .u8 30), .lit (.int .u8 24), .lit (.int .u8 18), .lit (.int .u8 12), .lit (.int .u8 5), .lit (.int .u8 63), .lit (.int .u8 55), .lit (.int .u8 48), .lit (.int .u8 27), .lit (.int .u8 60), .lit (.int .u8 41), .lit (.int .u8 37), .lit (.int .u8 16), .lit (.int .u8 46), .lit (.int .u8 35), .lit (.int .u8 44), .lit (.int .u8 21), .lit (.int .u8 52), .lit (.int .u8 32), .lit (.int .u8 23), .lit (.int .u8 11), .lit (.int .u8 54), .lit (.int .u8 26), .lit (.int .u8 40), .lit (.int .u8 15), .lit (.int .u8 34), .lit (.int .u8 20), .lit (.int .u8 31), .lit (.int .u8 10), .lit (.int .u8 25), .lit (.int .u8 14), .lit (.int .u8 19), .lit (.int .u8 9), .lit (.int .u8 13), .lit (.int .u8 8), .lit (.int .u8 7), .lit (.int .u8 6)]
def laid_internal_strconv_uint64pow10 {H : Type} : DataW H := .agg [.lit (.int .u64 1), .lit (.int .u64 10), .lit (.int .u64 100), .lit (.int .u64 1000), .lit (.int .u64 10000), .lit (.int .u64 100000), .lit (.int .u64 1000000), .lit (.int .u64 10000000), .lit (.int .u64 100000000), .lit (.int .u64 1000000000), .lit (.int .u64 10000000000), .lit (.int .u64 100000000000), .lit (.int .u64 1000000000000), .lit (.int .u64 10000000000000), .lit (.int .u64 100000000000000), .lit (.int .u64 1000000000000000), .lit (.int .u64 10000000000000000), .lit (.int .u64 100000000000000000), .lit (.int .u64 1000000000000000000), .lit (.int .u64 10000000000000000000)]

/-- 'laws.FnExactIsValidState': WHATEVER THE INPUT: true; the input reads as it did. -/
def fnExactIsValidStateSpec : ChangeSpec := { name := "fnExactIsValidState", fn := fun _ => fun
  | [d1, d2] => { results := [.lit (.bool true)], args := [d1, d2] }
  | _ => none }
def fnExactIsValidStateRow : OpenClaim := { program := "ytobhcnmeflacnaagreatdoor", sum := "1a919850bccdbb163c6daad93f75f5b6b7a03cc95442b1d6f5999f68a0be27e8", func := "loop.example/g00902/laws.FnExactIsValidState", spec := "fnExactIsValidState", inPlace := ["internal/bytealg.CountString", "internal/bytealg.IndexByteString", "internal/bytealg.IndexString"], unfollowed := true, recurses := true, named := ["unicode/utf8.first", "unicode/utf8.acceptRanges", "internal/bytealg.MaxLen"], loops := true, apart := false, laid := [("unicode/utf8.acceptRanges", laid_unicode_utf8_acceptRanges), ("unicode/utf8.first", laid_unicode_utf8_first)] }
def FnExactIsValidStateSaid : Prop := fnExactIsValidStateRow.holds Tryz.pinned (OpenSpec.ofChange fnExactIsValidStateSpec)

/-- ITS FALSE NEIGHBOUR: 'it returns false'. Refute it at one input. -/
def fnExactIsValidStateWrong : ChangeSpec := { name := "fnExactIsValidState", fn := fun _ => fun
  | [d1, d2] => { results := [.lit (.bool false)], args := [d1, d2] }
  | _ => none }
def FnExactIsValidStateWrongFalsely : Prop := fnExactIsValidStateRow.holds Tryz.pinned (OpenSpec.ofChange fnExactIsValidStateWrong)

/-- 'laws.FnExactIsFulfilled': WHATEVER THE INPUT: true; the input reads as it did. -/
def fnExactIsFulfilledSpec : ChangeSpec := { name := "fnExactIsFulfilled", fn := fun _ => fun
  | [d1, d2] => { results := [.lit (.bool true)], args := [d1, d2] }
  | _ => none }
def fnExactIsFulfilledRow : OpenClaim := { program := "ytobhcnmeflacnaagreatdoor", sum := "1a919850bccdbb163c6daad93f75f5b6b7a03cc95442b1d6f5999f68a0be27e8", func := "loop.example/g00902/laws.FnExactIsFulfilled", spec := "fnExactIsFulfilled", inPlace := ["internal/bytealg.CountString", "internal/bytealg.IndexByteString", "internal/bytealg.IndexString"], unfollowed := true, recurses := true, named := ["unicode/utf8.first", "unicode/utf8.acceptRanges", "internal/bytealg.MaxLen"], loops := true, apart := false, laid := [("unicode/utf8.acceptRanges", laid_unicode_utf8_acceptRanges), ("unicode/utf8.first", laid_unicode_utf8_first)] }
def FnExactIsFulfilledSaid : Prop := fnExactIsFulfilledRow.holds Tryz.pinned (OpenSpec.ofChange fnExactIsFulfilledSpec)

/-- ITS FALSE NEIGHBOUR: 'it returns false'. Refute it at one input. -/
def fnExactIsFulfilledWrong : ChangeSpec := { name := "fnExactIsFulfilled", fn := fun _ => fun
  | [d1, d2] => { results := [.lit (.bool false)], args := [d1, d2] }
  | _ => none }
def FnExactIsFulfilledWrongFalsely : Prop := fnExactIsFulfilledRow.holds Tryz.pinned (OpenSpec.ofChange fnExactIsFulfilledWrong)

/-- 'laws.FnExactReorderParties': WHATEVER THE INPUT: true; the input reads as it did. -/
def fnExactReorderPartiesSpec : ChangeSpec := { name := "fnExactReorderParties", fn := fun _ => fun
  | [d1, d2] => { results := [.lit (.bool true)], args := [d1, d2] }
  | _ => none }
def fnExactReorderPartiesRow : OpenClaim := { program := "ytobhcnmeflacnaagreatdoor", sum := "1a919850bccdbb163c6daad93f75f5b6b7a03cc95442b1d6f5999f68a0be27e8", func := "loop.example/g00902/laws.FnExactReorderParties", spec := "fnExactReorderParties", inPlace := ["internal/bytealg.CountString", "internal/bytealg.IndexByteString", "internal/bytealg.IndexString"], unfollowed := true, recurses := true, named := ["unicode/utf8.first", "unicode/utf8.acceptRanges", "internal/bytealg.MaxLen"], loops := true, apart := false, laid := [("unicode/utf8.acceptRanges", laid_unicode_utf8_acceptRanges), ("unicode/utf8.first", laid_unicode_utf8_first)] }
def FnExactReorderPartiesSaid : Prop := fnExactReorderPartiesRow.holds Tryz.pinned (OpenSpec.ofChange fnExactReorderPartiesSpec)

/-- ITS FALSE NEIGHBOUR: 'it returns false'. Refute it at one input. -/
def fnExactReorderPartiesWrong : ChangeSpec := { name := "fnExactReorderParties", fn := fun _ => fun
  | [d1, d2] => { results := [.lit (.bool false)], args := [d1, d2] }
  | _ => none }
def FnExactReorderPartiesWrongFalsely : Prop := fnExactReorderPartiesRow.holds Tryz.pinned (OpenSpec.ofChange fnExactReorderPartiesWrong)

/-- 'laws.FnExactIdlePermissions': WHATEVER THE INPUT: true; the input reads as it did. -/
def fnExactIdlePermissionsSpec : ChangeSpec := { name := "fnExactIdlePermissions", fn := fun _ => fun
  | [d] => { results := [.lit (.bool true)], args := [d] }
  | _ => none }
def fnExactIdlePermissionsRow : OpenClaim := { program := "ytobhcnmeflacnaagreatdoor", sum := "1a919850bccdbb163c6daad93f75f5b6b7a03cc95442b1d6f5999f68a0be27e8", func := "loop.example/g00902/laws.FnExactIdlePermissions", spec := "fnExactIdlePermissions", inPlace := ["internal/bytealg.CountString", "internal/bytealg.IndexByteString", "internal/bytealg.IndexString"], unfollowed := true, recurses := true, named := ["unicode/utf8.first", "unicode/utf8.acceptRanges", "internal/bytealg.MaxLen"], loops := true, apart := false, laid := [("unicode/utf8.acceptRanges", laid_unicode_utf8_acceptRanges), ("unicode/utf8.first", laid_unicode_utf8_first)] }
def FnExactIdlePermissionsSaid : Prop := fnExactIdlePermissionsRow.holds Tryz.pinned (OpenSpec.ofChange fnExactIdlePermissionsSpec)

/-- ITS FALSE NEIGHBOUR: 'it returns false'. Refute it at one input. -/
def fnExactIdlePermissionsWrong : ChangeSpec := { name := "fnExactIdlePermissions", fn := fun _ => fun
  | [d] => { results := [.lit (.bool false)], args := [d] }
  | _ => none }
def FnExactIdlePermissionsWrongFalsely : Prop := fnExactIdlePermissionsRow.holds Tryz.pinned (OpenSpec.ofChange fnExactIdlePermissionsWrong)

/-- 'laws.FnExactHoldsNow': WHATEVER THE INPUT: true; the input reads as it did. -/
def fnExactHoldsNowSpec : ChangeSpec := { name := "fnExactHoldsNow", fn := fun _ => fun
  | [d1, d2, d3] => { results := [.lit (.bool true)], args := [d1, d2, d3] }
  | _ => none }
def fnExactHoldsNowRow : OpenClaim := { program := "ytobhcnmeflacnaagreatdoor", sum := "1a919850bccdbb163c6daad93f75f5b6b7a03cc95442b1d6f5999f68a0be27e8", func := "loop.example/g00902/laws.FnExactHoldsNow", spec := "fnExactHoldsNow", inPlace := ["internal/bytealg.CountString", "internal/bytealg.IndexByteString", "internal/bytealg.IndexString"], unfollowed := true, recurses := true, named := ["unicode/utf8.first", "unicode/utf8.acceptRanges", "internal/bytealg.MaxLen"], loops := true, apart := false, laid := [("unicode/utf8.acceptRanges", laid_unicode_utf8_acceptRanges), ("unicode/utf8.first", laid_unicode_utf8_first)] }
def FnExactHoldsNowSaid : Prop := fnExactHoldsNowRow.holds Tryz.pinned (OpenSpec.ofChange fnExactHoldsNowSpec)

/-- ITS FALSE NEIGHBOUR: 'it returns false'. Refute it at one input. -/
def fnExactHoldsNowWrong : ChangeSpec := { name := "fnExactHoldsNow", fn := fun _ => fun
  | [d1, d2, d3] => { results := [.lit (.bool false)], args := [d1, d2, d3] }
  | _ => none }
def FnExactHoldsNowWrongFalsely : Prop := fnExactHoldsNowRow.holds Tryz.pinned (OpenSpec.ofChange fnExactHoldsNowWrong)

/-- 'laws.FnExactNextMoment': WHATEVER THE INPUT: true; the input reads as it did. -/
def fnExactNextMomentSpec : ChangeSpec := { name := "fnExactNextMoment", fn := fun _ => fun
  | [d1, d2] => { results := [.lit (.bool true)], args := [d1, d2] }
  | _ => none }
def fnExactNextMomentRow : OpenClaim := { program := "ytobhcnmeflacnaagreatdoor", sum := "1a919850bccdbb163c6daad93f75f5b6b7a03cc95442b1d6f5999f68a0be27e8", func := "loop.example/g00902/laws.FnExactNextMoment", spec := "fnExactNextMoment", inPlace := ["internal/bytealg.CountString", "internal/bytealg.IndexByteString", "internal/bytealg.IndexString"], unfollowed := true, recurses := true, named := ["unicode/utf8.first", "unicode/utf8.acceptRanges", "internal/bytealg.MaxLen"], loops := true, apart := false, laid := [("unicode/utf8.acceptRanges", laid_unicode_utf8_acceptRanges), ("unicode/utf8.first", laid_unicode_utf8_first)] }
def FnExactNextMomentSaid : Prop := fnExactNextMomentRow.holds Tryz.pinned (OpenSpec.ofChange fnExactNextMomentSpec)

/-- ITS FALSE NEIGHBOUR: 'it returns false'. Refute it at one input. -/
def fnExactNextMomentWrong : ChangeSpec := { name := "fnExactNextMoment", fn := fun _ => fun
  | [d1, d2] => { results := [.lit (.bool false)], args := [d1, d2] }
  | _ => none }
def FnExactNextMomentWrongFalsely : Prop := fnExactNextMomentRow.holds Tryz.pinned (OpenSpec.ofChange fnExactNextMomentWrong)

/-- 'laws.FnExactPowerFor': WHATEVER THE INPUT: true; the input reads as it did. -/
def fnExactPowerForSpec : ChangeSpec := { name := "fnExactPowerFor", fn := fun _ => fun
  | [d1, d2, d3, d4] => { results := [.lit (.bool true)], args := [d1, d2, d3, d4] }
  | _ => none }
def fnExactPowerForRow : OpenClaim := { program := "ytobhcnmeflacnaagreatdoor", sum := "1a919850bccdbb163c6daad93f75f5b6b7a03cc95442b1d6f5999f68a0be27e8", func := "loop.example/g00902/laws.FnExactPowerFor", spec := "fnExactPowerFor", inPlace := ["internal/bytealg.CountString", "internal/bytealg.IndexByteString", "internal/bytealg.IndexString"], unfollowed := true, recurses := true, named := ["unicode/utf8.first", "unicode/utf8.acceptRanges", "internal/bytealg.MaxLen"], loops := true, apart := false, laid := [("unicode/utf8.acceptRanges", laid_unicode_utf8_acceptRanges), ("unicode/utf8.first", laid_unicode_utf8_first)] }
def FnExactPowerForSaid : Prop := fnExactPowerForRow.holds Tryz.pinned (OpenSpec.ofChange fnExactPowerForSpec)

/-- ITS FALSE NEIGHBOUR: 'it returns false'. Refute it at one input. -/
def fnExactPowerForWrong : ChangeSpec := { name := "fnExactPowerFor", fn := fun _ => fun
  | [d1, d2, d3, d4] => { results := [.lit (.bool false)], args := [d1, d2, d3, d4] }
  | _ => none }
def FnExactPowerForWrongFalsely : Prop := fnExactPowerForRow.holds Tryz.pinned (OpenSpec.ofChange fnExactPowerForWrong)

/-- 'laws.FnExactIsForbidden': WHATEVER THE INPUT: true; the input reads as it did. -/
def fnExactIsForbiddenSpec : ChangeSpec := { name := "fnExactIsForbidden", fn := fun _ => fun
  | [d1, d2, d3, d4] => { results := [.lit (.bool true)], args := [d1, d2, d3, d4] }
  | _ => none }
def fnExactIsForbiddenRow : OpenClaim := { program := "ytobhcnmeflacnaagreatdoor", sum := "1a919850bccdbb163c6daad93f75f5b6b7a03cc95442b1d6f5999f68a0be27e8", func := "loop.example/g00902/laws.FnExactIsForbidden", spec := "fnExactIsForbidden", inPlace := ["internal/bytealg.CountString", "internal/bytealg.IndexByteString", "internal/bytealg.IndexString"], unfollowed := true, recurses := true, named := ["unicode/utf8.first", "unicode/utf8.acceptRanges", "internal/bytealg.MaxLen"], loops := true, apart := false, laid := [("unicode/utf8.acceptRanges", laid_unicode_utf8_acceptRanges), ("unicode/utf8.first", laid_unicode_utf8_first)] }
def FnExactIsForbiddenSaid : Prop := fnExactIsForbiddenRow.holds Tryz.pinned (OpenSpec.ofChange fnExactIsForbiddenSpec)

/-- ITS FALSE NEIGHBOUR: 'it returns false'. Refute it at one input. -/
def fnExactIsForbiddenWrong : ChangeSpec := { name := "fnExactIsForbidden", fn := fun _ => fun
  | [d1, d2, d3, d4] => { results := [.lit (.bool false)], args := [d1, d2, d3, d4] }
  | _ => none }
def FnExactIsForbiddenWrongFalsely : Prop := fnExactIsForbiddenRow.holds Tryz.pinned (OpenSpec.ofChange fnExactIsForbiddenWrong)

/-- 'laws.FnExactFormatClause': WHATEVER THE INPUT: true; the input reads as it did. -/
def fnExactFormatClauseSpec : ChangeSpec := { name := "fnExactFormatClause", fn := fun _ => fun
  | [d1, d2] => { results := [.lit (.bool true)], args := [d1, d2] }
  | _ => none }
def fnExactFormatClauseRow : OpenClaim := { program := "ytobhcnmeflacnaagreatdoor", sum := "1a919850bccdbb163c6daad93f75f5b6b7a03cc95442b1d6f5999f68a0be27e8", func := "loop.example/g00902/laws.FnExactFormatClause", spec := "fnExactFormatClause", inPlace := ["internal/bytealg.CountString", "internal/bytealg.IndexByteString", "internal/bytealg.IndexString"], unfollowed := true, recurses := true, named := ["unicode/utf8.first", "unicode/utf8.acceptRanges", "internal/bytealg.MaxLen", "internal/strconv.uint64pow10", "math/bits.deBruijn32tab", "math/bits.deBruijn64tab"], loops := true, apart := false, laid := [("math/bits.deBruijn32tab", laid_math_bits_deBruijn32tab), ("math/bits.deBruijn64tab", laid_math_bits_deBruijn64tab), ("internal/strconv.uint64pow10", laid_internal_strconv_uint64pow10), ("unicode/utf8.acceptRanges", laid_unicode_utf8_acceptRanges), ("unicode/utf8.first", laid_unicode_utf8_first)] }
def FnExactFormatClauseSaid : Prop := fnExactFormatClauseRow.holds Tryz.pinned (OpenSpec.ofChange fnExactFormatClauseSpec)

/-- ITS FALSE NEIGHBOUR: 'it returns false'. Refute it at one input. -/
def fnExactFormatClauseWrong : ChangeSpec := { name := "fnExactFormatClause", fn := fun _ => fun
  | [d1, d2] => { results := [.lit (.bool false)], args := [d1, d2] }
  | _ => none }
def FnExactFormatClauseWrongFalsely : Prop := fnExactFormatClauseRow.holds Tryz.pinned (OpenSpec.ofChange fnExactFormatClauseWrong)

/-- 'laws.FnExactFormatTrace': WHATEVER THE INPUT: true; the input reads as it did. -/
def fnExactFormatTraceSpec : ChangeSpec := { name := "fnExactFormatTrace", fn := fun _ => fun
  | [d1, d2] => { results := [.lit (.bool true)], args := [d1, d2] }
  | _ => none }
def fnExactFormatTraceRow : OpenClaim := { program := "ytobhcnmeflacnaagreatdoor", sum := "1a919850bccdbb163c6daad93f75f5b6b7a03cc95442b1d6f5999f68a0be27e8", func := "loop.example/g00902/laws.FnExactFormatTrace", spec := "fnExactFormatTrace", inPlace := ["internal/bytealg.CountString", "internal/bytealg.IndexByteString", "internal/bytealg.IndexString", "internal/abi.NoEscape"], unfollowed := true, recurses := true, named := ["unicode/utf8.first", "unicode/utf8.acceptRanges", "internal/bytealg.MaxLen", "internal/strconv.uint64pow10", "math/bits.deBruijn32tab", "math/bits.deBruijn64tab"], loops := true, apart := false, laid := [("math/bits.deBruijn32tab", laid_math_bits_deBruijn32tab), ("math/bits.deBruijn64tab", laid_math_bits_deBruijn64tab), ("internal/strconv.uint64pow10", laid_internal_strconv_uint64pow10), ("unicode/utf8.acceptRanges", laid_unicode_utf8_acceptRanges), ("unicode/utf8.first", laid_unicode_utf8_first)] }
def FnExactFormatTraceSaid : Prop := fnExactFormatTraceRow.holds Tryz.pinned (OpenSpec.ofChange fnExactFormatTraceSpec)

/-- ITS FALSE NEIGHBOUR: 'it returns false'. Refute it at one input. -/
def fnExactFormatTraceWrong : ChangeSpec := { name := "fnExactFormatTrace", fn := fun _ => fun
  | [d1, d2] => { results := [.lit (.bool false)], args := [d1, d2] }
  | _ => none }
def FnExactFormatTraceWrongFalsely : Prop := fnExactFormatTraceRow.holds Tryz.pinned (OpenSpec.ofChange fnExactFormatTraceWrong)

/-- 'laws.FnExactFormatContract': WHATEVER THE INPUT: true; the input reads as it did. -/
def fnExactFormatContractSpec : ChangeSpec := { name := "fnExactFormatContract", fn := fun _ => fun
  | [d] => { results := [.lit (.bool true)], args := [d] }
  | _ => none }
def fnExactFormatContractRow : OpenClaim := { program := "ytobhcnmeflacnaagreatdoor", sum := "1a919850bccdbb163c6daad93f75f5b6b7a03cc95442b1d6f5999f68a0be27e8", func := "loop.example/g00902/laws.FnExactFormatContract", spec := "fnExactFormatContract", inPlace := ["internal/bytealg.CountString", "internal/bytealg.IndexByteString", "internal/bytealg.IndexString", "internal/abi.NoEscape", "internal/bytealg.MakeNoZero"], unfollowed := true, recurses := true, named := ["unicode/utf8.first", "unicode/utf8.acceptRanges", "internal/bytealg.MaxLen", "internal/strconv.uint64pow10", "math/bits.deBruijn32tab", "math/bits.deBruijn64tab"], loops := true, apart := false, laid := [("math/bits.deBruijn32tab", laid_math_bits_deBruijn32tab), ("math/bits.deBruijn64tab", laid_math_bits_deBruijn64tab), ("internal/strconv.uint64pow10", laid_internal_strconv_uint64pow10), ("unicode/utf8.acceptRanges", laid_unicode_utf8_acceptRanges), ("unicode/utf8.first", laid_unicode_utf8_first)] }
def FnExactFormatContractSaid : Prop := fnExactFormatContractRow.holds Tryz.pinned (OpenSpec.ofChange fnExactFormatContractSpec)

/-- ITS FALSE NEIGHBOUR: 'it returns false'. Refute it at one input. -/
def fnExactFormatContractWrong : ChangeSpec := { name := "fnExactFormatContract", fn := fun _ => fun
  | [d] => { results := [.lit (.bool false)], args := [d] }
  | _ => none }
def FnExactFormatContractWrongFalsely : Prop := fnExactFormatContractRow.holds Tryz.pinned (OpenSpec.ofChange fnExactFormatContractWrong)

/-- 'laws.FnExactMovesOf': WHATEVER THE INPUT: true; the input reads as it did. -/
def fnExactMovesOfSpec : ChangeSpec := { name := "fnExactMovesOf", fn := fun _ => fun
  | [d] => { results := [.lit (.bool true)], args := [d] }
  | _ => none }
def fnExactMovesOfRow : OpenClaim := { program := "ytobhcnmeflacnaagreatdoor", sum := "1a919850bccdbb163c6daad93f75f5b6b7a03cc95442b1d6f5999f68a0be27e8", func := "loop.example/g00902/laws.FnExactMovesOf", spec := "fnExactMovesOf", inPlace := ["internal/bytealg.CountString", "internal/bytealg.IndexByteString", "internal/bytealg.IndexString"], unfollowed := true, recurses := true, named := ["unicode/utf8.first", "unicode/utf8.acceptRanges", "internal/bytealg.MaxLen"], loops := true, apart := false, laid := [("unicode/utf8.acceptRanges", laid_unicode_utf8_acceptRanges), ("unicode/utf8.first", laid_unicode_utf8_first)] }
def FnExactMovesOfSaid : Prop := fnExactMovesOfRow.holds Tryz.pinned (OpenSpec.ofChange fnExactMovesOfSpec)

/-- ITS FALSE NEIGHBOUR: 'it returns false'. Refute it at one input. -/
def fnExactMovesOfWrong : ChangeSpec := { name := "fnExactMovesOf", fn := fun _ => fun
  | [d] => { results := [.lit (.bool false)], args := [d] }
  | _ => none }
def FnExactMovesOfWrongFalsely : Prop := fnExactMovesOfRow.holds Tryz.pinned (OpenSpec.ofChange fnExactMovesOfWrong)

/- THE SECOND FORM. 'bulk': how many values and letters a reading holds, each counted each time it is reached (what is shared counts as often as it is met; a slice's spare places count too). A statement '..UptoSaid' is the law's where the arguments, and the package variables that the reading takes, are together of bulk at most 1048576: NARROWER than '..Said'. Prove '..Said' where nothing that the law and all that it calls make is longer than what came in: it says more and counts as full. Else prove '..UptoSaid'. A law counts once. -/
mutual
def uptoBulk {H : Type} : DataW H → Nat
  | .lit (.string bytes) => bytes.length + 1
  | .lit _ => 1
  | .nil => 1
  | .ptr d => uptoBulk d + 1
  | .slice elems spare => uptoBulkAll elems + uptoBulkAll spare + 1
  | .agg parts => uptoBulkAll parts + 1
  | .iface _ d => uptoBulk d + 1
  | .map entries => uptoBulkEntries entries + 1
  | .held _ => 1
def uptoBulkAll {H : Type} : List (DataW H) → Nat
  | [] => 0
  | d :: r => uptoBulk d + uptoBulkAll r
def uptoBulkEntries {H : Type} : List (Lit × DataW H) → Nat
  | [] => 0
  | x :: r => uptoBulkEntry x + uptoBulkEntries r
def uptoBulkEntry {H : Type} : Lit × DataW H → Nat
  | (.string bytes, d) => bytes.length + uptoBulk d + 1
  | (_, d) => uptoBulk d + 1
 end
def uptoSmall : (H : Type) → List (DataW H) → Bool := fun _ ds => decide (uptoBulkAll ds ≤ 1048576)
def OpenSpec.upto (s : _root_.Go.ChangeSpec) : _root_.Go.OpenSpec := { _root_.Go.OpenSpec.ofChange s with cond := some uptoSmall }

/-- 'laws.FnExactIsValidState', WHERE WHAT IT READS IS OF BULK AT MOST 1048576: true; the input reads as it did. -/
def fnExactIsValidStateUptoRow : OpenClaim := { program := "ytobhcnmeflacnaagreatdoor", sum := "1a919850bccdbb163c6daad93f75f5b6b7a03cc95442b1d6f5999f68a0be27e8", func := "loop.example/g00902/laws.FnExactIsValidState", spec := "fnExactIsValidState", inPlace := ["internal/bytealg.CountString", "internal/bytealg.IndexByteString", "internal/bytealg.IndexString"], unfollowed := true, recurses := true, named := ["unicode/utf8.first", "unicode/utf8.acceptRanges", "internal/bytealg.MaxLen"], loops := true, apart := false, laid := [("unicode/utf8.acceptRanges", laid_unicode_utf8_acceptRanges), ("unicode/utf8.first", laid_unicode_utf8_first)], narrowed := true }
def FnExactIsValidStateUptoSaid : Prop := fnExactIsValidStateUptoRow.holds Tryz.pinned (OpenSpec.upto fnExactIsValidStateSpec)

/-- 'laws.FnExactIsFulfilled', WHERE WHAT IT READS IS OF BULK AT MOST 1048576: true; the input reads as it did. -/
def fnExactIsFulfilledUptoRow : OpenClaim := { program := "ytobhcnmeflacnaagreatdoor", sum := "1a919850bccdbb163c6daad93f75f5b6b7a03cc95442b1d6f5999f68a0be27e8", func := "loop.example/g00902/laws.FnExactIsFulfilled", spec := "fnExactIsFulfilled", inPlace := ["internal/bytealg.CountString", "internal/bytealg.IndexByteString", "internal/bytealg.IndexString"], unfollowed := true, recurses := true, named := ["unicode/utf8.first", "unicode/utf8.acceptRanges", "internal/bytealg.MaxLen"], loops := true, apart := false, laid := [("unicode/utf8.acceptRanges", laid_unicode_utf8_acceptRanges), ("unicode/utf8.first", laid_unicode_utf8_first)], narrowed := true }
def FnExactIsFulfilledUptoSaid : Prop := fnExactIsFulfilledUptoRow.holds Tryz.pinned (OpenSpec.upto fnExactIsFulfilledSpec)

/-- 'laws.FnExactReorderParties', WHERE WHAT IT READS IS OF BULK AT MOST 1048576: true; the input reads as it did. -/
def fnExactReorderPartiesUptoRow : OpenClaim := { program := "ytobhcnmeflacnaagreatdoor", sum := "1a919850bccdbb163c6daad93f75f5b6b7a03cc95442b1d6f5999f68a0be27e8", func := "loop.example/g00902/laws.FnExactReorderParties", spec := "fnExactReorderParties", inPlace := ["internal/bytealg.CountString", "internal/bytealg.IndexByteString", "internal/bytealg.IndexString"], unfollowed := true, recurses := true, named := ["unicode/utf8.first", "unicode/utf8.acceptRanges", "internal/bytealg.MaxLen"], loops := true, apart := false, laid := [("unicode/utf8.acceptRanges", laid_unicode_utf8_acceptRanges), ("unicode/utf8.first", laid_unicode_utf8_first)], narrowed := true }
def FnExactReorderPartiesUptoSaid : Prop := fnExactReorderPartiesUptoRow.holds Tryz.pinned (OpenSpec.upto fnExactReorderPartiesSpec)

/-- 'laws.FnExactIdlePermissions', WHERE WHAT IT READS IS OF BULK AT MOST 1048576: true; the input reads as it did. -/
def fnExactIdlePermissionsUptoRow : OpenClaim := { program := "ytobhcnmeflacnaagreatdoor", sum := "1a919850bccdbb163c6daad93f75f5b6b7a03cc95442b1d6f5999f68a0be27e8", func := "loop.example/g00902/laws.FnExactIdlePermissions", spec := "fnExactIdlePermissions", inPlace := ["internal/bytealg.CountString", "internal/bytealg.IndexByteString", "internal/bytealg.IndexString"], unfollowed := true, recurses := true, named := ["unicode/utf8.first", "unicode/utf8.acceptRanges", "internal/bytealg.MaxLen"], loops := true, apart := false, laid := [("unicode/utf8.acceptRanges", laid_unicode_utf8_acceptRanges), ("unicode/utf8.first", laid_unicode_utf8_first)], narrowed := true }
def FnExactIdlePermissionsUptoSaid : Prop := fnExactIdlePermissionsUptoRow.holds Tryz.pinned (OpenSpec.upto fnExactIdlePermissionsSpec)

/-- 'laws.FnExactHoldsNow', WHERE WHAT IT READS IS OF BULK AT MOST 1048576: true; the input reads as it did. -/
def fnExactHoldsNowUptoRow : OpenClaim := { program := "ytobhcnmeflacnaagreatdoor", sum := "1a919850bccdbb163c6daad93f75f5b6b7a03cc95442b1d6f5999f68a0be27e8", func := "loop.example/g00902/laws.FnExactHoldsNow", spec := "fnExactHoldsNow", inPlace := ["internal/bytealg.CountString", "internal/bytealg.IndexByteString", "internal/bytealg.IndexString"], unfollowed := true, recurses := true, named := ["unicode/utf8.first", "unicode/utf8.acceptRanges", "internal/bytealg.MaxLen"], loops := true, apart := false, laid := [("unicode/utf8.acceptRanges", laid_unicode_utf8_acceptRanges), ("unicode/utf8.first", laid_unicode_utf8_first)], narrowed := true }
def FnExactHoldsNowUptoSaid : Prop := fnExactHoldsNowUptoRow.holds Tryz.pinned (OpenSpec.upto fnExactHoldsNowSpec)

/-- 'laws.FnExactNextMoment', WHERE WHAT IT READS IS OF BULK AT MOST 1048576: true; the input reads as it did. -/
def fnExactNextMomentUptoRow : OpenClaim := { program := "ytobhcnmeflacnaagreatdoor", sum := "1a919850bccdbb163c6daad93f75f5b6b7a03cc95442b1d6f5999f68a0be27e8", func := "loop.example/g00902/laws.FnExactNextMoment", spec := "fnExactNextMoment", inPlace := ["internal/bytealg.CountString", "internal/bytealg.IndexByteString", "internal/bytealg.IndexString"], unfollowed := true, recurses := true, named := ["unicode/utf8.first", "unicode/utf8.acceptRanges", "internal/bytealg.MaxLen"], loops := true, apart := false, laid := [("unicode/utf8.acceptRanges", laid_unicode_utf8_acceptRanges), ("unicode/utf8.first", laid_unicode_utf8_first)], narrowed := true }
def FnExactNextMomentUptoSaid : Prop := fnExactNextMomentUptoRow.holds Tryz.pinned (OpenSpec.upto fnExactNextMomentSpec)

/-- 'laws.FnExactPowerFor', WHERE WHAT IT READS IS OF BULK AT MOST 1048576: true; the input reads as it did. -/
def fnExactPowerForUptoRow : OpenClaim := { program := "ytobhcnmeflacnaagreatdoor", sum := "1a919850bccdbb163c6daad93f75f5b6b7a03cc95442b1d6f5999f68a0be27e8", func := "loop.example/g00902/laws.FnExactPowerFor", spec := "fnExactPowerFor", inPlace := ["internal/bytealg.CountString", "internal/bytealg.IndexByteString", "internal/bytealg.IndexString"], unfollowed := true, recurses := true, named := ["unicode/utf8.first", "unicode/utf8.acceptRanges", "internal/bytealg.MaxLen"], loops := true, apart := false, laid := [("unicode/utf8.acceptRanges", laid_unicode_utf8_acceptRanges), ("unicode/utf8.first", laid_unicode_utf8_first)], narrowed := true }
def FnExactPowerForUptoSaid : Prop := fnExactPowerForUptoRow.holds Tryz.pinned (OpenSpec.upto fnExactPowerForSpec)

/-- 'laws.FnExactIsForbidden', WHERE WHAT IT READS IS OF BULK AT MOST 1048576: true; the input reads as it did. -/
def fnExactIsForbiddenUptoRow : OpenClaim := { program := "ytobhcnmeflacnaagreatdoor", sum := "1a919850bccdbb163c6daad93f75f5b6b7a03cc95442b1d6f5999f68a0be27e8", func := "loop.example/g00902/laws.FnExactIsForbidden", spec := "fnExactIsForbidden", inPlace := ["internal/bytealg.CountString", "internal/bytealg.IndexByteString", "internal/bytealg.IndexString"], unfollowed := true, recurses := true, named := ["unicode/utf8.first", "unicode/utf8.acceptRanges", "internal/bytealg.MaxLen"], loops := true, apart := false, laid := [("unicode/utf8.acceptRanges", laid_unicode_utf8_acceptRanges), ("unicode/utf8.first", laid_unicode_utf8_first)], narrowed := true }
def FnExactIsForbiddenUptoSaid : Prop := fnExactIsForbiddenUptoRow.holds Tryz.pinned (OpenSpec.upto fnExactIsForbiddenSpec)

/-- 'laws.FnExactFormatClause', WHERE WHAT IT READS IS OF BULK AT MOST 1048576: true; the input reads as it did. -/
def fnExactFormatClauseUptoRow : OpenClaim := { program := "ytobhcnmeflacnaagreatdoor", sum := "1a919850bccdbb163c6daad93f75f5b6b7a03cc95442b1d6f5999f68a0be27e8", func := "loop.example/g00902/laws.FnExactFormatClause", spec := "fnExactFormatClause", inPlace := ["internal/bytealg.CountString", "internal/bytealg.IndexByteString", "internal/bytealg.IndexString"], unfollowed := true, recurses := true, named := ["unicode/utf8.first", "unicode/utf8.acceptRanges", "internal/bytealg.MaxLen", "internal/strconv.uint64pow10", "math/bits.deBruijn32tab", "math/bits.deBruijn64tab"], loops := true, apart := false, laid := [("math/bits.deBruijn32tab", laid_math_bits_deBruijn32tab), ("math/bits.deBruijn64tab", laid_math_bits_deBruijn64tab), ("internal/strconv.uint64pow10", laid_internal_strconv_uint64pow10), ("unicode/utf8.acceptRanges", laid_unicode_utf8_acceptRanges), ("unicode/utf8.first", laid_unicode_utf8_first)], narrowed := true }
def FnExactFormatClauseUptoSaid : Prop := fnExactFormatClauseUptoRow.holds Tryz.pinned (OpenSpec.upto fnExactFormatClauseSpec)

/-- 'laws.FnExactFormatTrace', WHERE WHAT IT READS IS OF BULK AT MOST 1048576: true; the input reads as it did. -/
def fnExactFormatTraceUptoRow : OpenClaim := { program := "ytobhcnmeflacnaagreatdoor", sum := "1a919850bccdbb163c6daad93f75f5b6b7a03cc95442b1d6f5999f68a0be27e8", func := "loop.example/g00902/laws.FnExactFormatTrace", spec := "fnExactFormatTrace", inPlace := ["internal/bytealg.CountString", "internal/bytealg.IndexByteString", "internal/bytealg.IndexString", "internal/abi.NoEscape"], unfollowed := true, recurses := true, named := ["unicode/utf8.first", "unicode/utf8.acceptRanges", "internal/bytealg.MaxLen", "internal/strconv.uint64pow10", "math/bits.deBruijn32tab", "math/bits.deBruijn64tab"], loops := true, apart := false, laid := [("math/bits.deBruijn32tab", laid_math_bits_deBruijn32tab), ("math/bits.deBruijn64tab", laid_math_bits_deBruijn64tab), ("internal/strconv.uint64pow10", laid_internal_strconv_uint64pow10), ("unicode/utf8.acceptRanges", laid_unicode_utf8_acceptRanges), ("unicode/utf8.first", laid_unicode_utf8_first)], narrowed := true }
def FnExactFormatTraceUptoSaid : Prop := fnExactFormatTraceUptoRow.holds Tryz.pinned (OpenSpec.upto fnExactFormatTraceSpec)

/-- 'laws.FnExactFormatContract', WHERE WHAT IT READS IS OF BULK AT MOST 1048576: true; the input reads as it did. -/
def fnExactFormatContractUptoRow : OpenClaim := { program := "ytobhcnmeflacnaagreatdoor", sum := "1a919850bccdbb163c6daad93f75f5b6b7a03cc95442b1d6f5999f68a0be27e8", func := "loop.example/g00902/laws.FnExactFormatContract", spec := "fnExactFormatContract", inPlace := ["internal/bytealg.CountString", "internal/bytealg.IndexByteString", "internal/bytealg.IndexString", "internal/abi.NoEscape", "internal/bytealg.MakeNoZero"], unfollowed := true, recurses := true, named := ["unicode/utf8.first", "unicode/utf8.acceptRanges", "internal/bytealg.MaxLen", "internal/strconv.uint64pow10", "math/bits.deBruijn32tab", "math/bits.deBruijn64tab"], loops := true, apart := false, laid := [("math/bits.deBruijn32tab", laid_math_bits_deBruijn32tab), ("math/bits.deBruijn64tab", laid_math_bits_deBruijn64tab), ("internal/strconv.uint64pow10", laid_internal_strconv_uint64pow10), ("unicode/utf8.acceptRanges", laid_unicode_utf8_acceptRanges), ("unicode/utf8.first", laid_unicode_utf8_first)], narrowed := true }
def FnExactFormatContractUptoSaid : Prop := fnExactFormatContractUptoRow.holds Tryz.pinned (OpenSpec.upto fnExactFormatContractSpec)

/-- 'laws.FnExactMovesOf', WHERE WHAT IT READS IS OF BULK AT MOST 1048576: true; the input reads as it did. -/
def fnExactMovesOfUptoRow : OpenClaim := { program := "ytobhcnmeflacnaagreatdoor", sum := "1a919850bccdbb163c6daad93f75f5b6b7a03cc95442b1d6f5999f68a0be27e8", func := "loop.example/g00902/laws.FnExactMovesOf", spec := "fnExactMovesOf", inPlace := ["internal/bytealg.CountString", "internal/bytealg.IndexByteString", "internal/bytealg.IndexString"], unfollowed := true, recurses := true, named := ["unicode/utf8.first", "unicode/utf8.acceptRanges", "internal/bytealg.MaxLen"], loops := true, apart := false, laid := [("unicode/utf8.acceptRanges", laid_unicode_utf8_acceptRanges), ("unicode/utf8.first", laid_unicode_utf8_first)], narrowed := true }
def FnExactMovesOfUptoSaid : Prop := fnExactMovesOfUptoRow.holds Tryz.pinned (OpenSpec.upto fnExactMovesOfSpec)

end Rows
end Go.Proofs.YtobhcnmeflacnaaGreatDoor
