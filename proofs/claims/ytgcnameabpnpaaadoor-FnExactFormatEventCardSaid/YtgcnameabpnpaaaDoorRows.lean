/-
  NARROWER THAN 'FOR EVERY INPUT', by the rows' own cells (each row's printed sentence says how): FnExactIsValidEvents: laid · FnExactCountActions: laid · FnExactShiftEvents: laid · FnExactEventsBetween: laid · FnExactEventDays: laid · FnExactFormatEvent: laid · FnExactSortEvents: laid · FnExactMergeEvents: laid · FnExactFormatEvents: laid · FnEvents: laid.
  DERIVED. THE GIVEN ROWS OF THIS SEAT. 10 by the template 'for every input the law returns true; each argument reads behind the call as it read before'; 0 by the template 'total and deterministic' (their statements: YtgcnameabpnpaaaDoorTotals.lean).
  GIVEN WITH THE SEED: the statements are not yours to turn. If you find one false, say at which input.
  Laid BY PROGRAM, IN A SANDBOX (cutbox-rows.mjs): the forced cells as the released guide's own fill.sh prints them over the translation b26083dd0318ada0… (all of the seat's roots in one cut). By AI agents, Wed Nov 11 2026. No macro, syntax, notation, axiom, sorry.
-/
import Derived.Test.YtgcnameabpnpaaaDoorChecked
import GoSem.PinnedTables
import GoSem.Claim
import GoSem.ClaimJoined
import GoSem.ClaimMapViews
import Derived.JoinedTies
import Derived.KernelRfl
namespace Go.Proofs.YtgcnameabpnpaaaDoor
/- THE CELL 'sum', in the pinned program and in every row, IS THE sha256 OF THE DUMP (.gsa) THAT YtgcnameabpnpaaaDoorProg.lean LOADS. Nothing in Lean hashes anything: it is a label: what it is worth is what the hold of that sum in a sandbox is worth. -/
noncomputable def Tryd.pinned : Pinned := { name := "ytgcnameabpnpaaadoor", sum := "b26083dd0318ada0f77118a2736673b60e352d4303a7e653a3dcb4b3a315ea5e", checked := Tryd.checked }
namespace Rows
def none {H : Type} : Left H := { results := [], args := [] }

/- WHAT THE LISTED PACKAGE-LEVEL VARIABLES READ AS WHEN THE CALL BEGINS. Each datum BY PROGRAM (the guide's laid-datum.mjs) off the statement by which the dump's own 'gosem.cut.vars' lays the variable. In a bare row this is a premise. The card (YtgcnameabpnpaaaDoorCards.lean) ties it to the program's text. -/
def laid_unicode_utf8_acceptRanges {H : Type} : DataW H := .agg [.agg [.lit (.int .u8 128), .lit (.int .u8 191)], .agg [.lit (.int .u8 160), .lit (.int .u8 191)], .agg [.lit (.int .u8 128), .lit (.int .u8 159)], .agg [.lit (.int .u8 144), .lit (.int .u8 191)], .agg [.lit (.int .u8 128), .lit (.int .u8 143)], .agg [.lit (.int .u8 0), .lit (.int .u8 0)], .agg [.lit (.int .u8 0), .lit (.int .u8 0)], .agg [.lit (.int .u8 0), .lit (.int .u8 0)], .agg [.lit (.int .u8 0), .lit (.int .u8 0)], .agg [.lit (.int .u8 0), .lit (.int .u8 0)], .agg [.lit (.int .u8 0), .lit (.int .u8 0)], .agg [.lit (.int .u8 0), .lit (.int .u8 0)], .agg [.lit (.int .u8 0), .lit (.int .u8 0)], .agg [.lit (.int .u8 0), .lit (.int .u8 0)], .agg [.lit (.int .u8 0), .lit (.int .u8 0)], .agg [.lit (.int .u8 0), .lit (.int .u8 0)]]
/-- One of Go's own tables, pinned by name: the form's constant. -/
def laid_unicode_utf8_first : DataW Unit := Go.Pinned.utf8First
def laid_math_bits_deBruijn32tab {H : Type} : DataW H := .agg [.lit (.int .u8 0), .lit (.int .u8 1), .lit (.int .u8 28), .lit (.int .u8 2), .lit (.int .u8 29), .lit (.int .u8 14), .lit (.int .u8 24), .lit (.int .u8 3), .lit (.int .u8 30), .lit (.int .u8 22), .lit (.int .u8 20), .lit (.int .u8 15), .lit (.int .u8 25), .lit (.int .u8 17), .lit (.int .u8 4), .lit (.int .u8 8), .lit (.int .u8 31), .lit (.int .u8 27), .lit (.int .u8 13), .lit (.int .u8 23), .lit (.int .u8 21), .lit (.int .u8 19), .lit (.int .u8 16), .lit (.int .u8 7), .lit (.int .u8 26), .lit (.int .u8 12), .lit (.int .u8 18), .lit (.int .u8 6), .lit (.int .u8 11), .lit (.int .u8 5), .lit (.int .u8 10), .lit (.int .u8 9)]
def laid_math_bits_deBruijn64tab {H : Type} : DataW H := .agg [.lit (.int .u8 0), .lit (.int .u8 1), .lit (.int .u8 56), .lit (.int .u8 2), .lit (.int .u8 57), .lit (.int .u8 49), .lit (.int .u8 28), .lit (.int .u8 3), .lit (.int .u8 61), .lit (.int .u8 58), .lit (.int .u8 42), .lit (.int .u8 50), .lit (.int .u8 38), .lit (.int .u8 29), .lit (.int .u8 17), .lit (.int .u8 4), .lit (.int .u8 62), .lit (.int .u8 47), .lit (.int .u8 59), .lit (.int .u8 36), .lit (.int .u8 45), .lit (.int .u8 43), .lit (.int .u8 51), .lit (.int .u8 22), .lit (.int .u8 53), .lit (.int .u8 39), .lit (.int .u8 33), .lit (.int .u8 30), .lit (.int .u8 24), .lit (.int .u8 18), .lit (.int .u8 12), .lit (.int .u8 5), .lit (.int .u8 63), .lit (.int .u8 55), .lit (.int .u8 48), .lit (.int .u8 27), .lit (.int .u8 60), .lit (.int .u8 41), .lit (.int .u8 37), .lit (.int .u8 16), .lit (.int .u8 46), .lit (.int .u8 35), .lit (.int .u8 44), .lit (.int .u8 21), .lit (.int .u8 52), .lit (.int .u8 32), .lit (.int .u8 23), .lit (.int .u8 11), .lit (.int .u8 54), .lit (.int .u8 26), .lit (.int .u8 40), .lit (.int .u8 15), .lit (.int .u8 34), .lit (.int .u8 20), .lit (.int .u8 31), .lit (.int .u8 10), .lit (.int .u8 25), .lit (.int .u8 14), .lit (.int .u8 19), .lit (.int .u8 9), .lit (.int .u8 13), .lit (.int .u8 8), .lit (.int .u8 7), .lit (.int .u8 6)]
def laid_internal_strconv_uint64pow10 {H : Type} : DataW H := .agg [.lit (.int .u64 1), .lit (.int .u64 10), .lit (.int .u64 100), .lit (.int .u64 1000), .lit (.int .u64 10000), .lit (.int .u64 100000), .lit (.int .u64 1000000), .lit (.int .u64 10000000), .lit (.int .u64 100000000), .lit (.int .u64 1000000000), .lit (.int .u64 10000000000), .lit (.int .u64 100000000000), .lit (.int .u64 1000000000000), .lit (.int .u64 10000000000000), .lit (.int .u64 100000000000000), .lit (.int .u64 1000000000000000), .lit (.int .u64 10000000000000000), .lit (.int .u64 100000000000000000), .lit (.int .u64 1000000000000000000), .lit (.int .u64 10000000000000000000)]

/-- 'laws.FnExactIsValidEvents': WHATEVER THE INPUT: true; the input reads as it did. -/
def fnExactIsValidEventsSpec : ChangeSpec := { name := "fnExactIsValidEvents", fn := fun _ => fun
  | [d1, d2] => { results := [.lit (.bool true)], args := [d1, d2] }
  | _ => none }
def fnExactIsValidEventsRow : OpenClaim := { program := "ytgcnameabpnpaaadoor", sum := "b26083dd0318ada0f77118a2736673b60e352d4303a7e653a3dcb4b3a315ea5e", func := "loop.example/g00902/laws.FnExactIsValidEvents", spec := "fnExactIsValidEvents", inPlace := ["internal/bytealg.CountString", "internal/bytealg.IndexByteString", "internal/bytealg.IndexString"], unfollowed := true, recurses := true, named := ["unicode/utf8.first", "unicode/utf8.acceptRanges", "internal/bytealg.MaxLen"], apart := false, laid := [("unicode/utf8.acceptRanges", laid_unicode_utf8_acceptRanges), ("unicode/utf8.first", laid_unicode_utf8_first)] }
def FnExactIsValidEventsSaid : Prop := fnExactIsValidEventsRow.holds Tryd.pinned (OpenSpec.ofChange fnExactIsValidEventsSpec)

/-- ITS FALSE NEIGHBOUR: 'it returns false'. Refute it at one input. -/
def fnExactIsValidEventsWrong : ChangeSpec := { name := "fnExactIsValidEvents", fn := fun _ => fun
  | [d1, d2] => { results := [.lit (.bool false)], args := [d1, d2] }
  | _ => none }
def FnExactIsValidEventsWrongFalsely : Prop := fnExactIsValidEventsRow.holds Tryd.pinned (OpenSpec.ofChange fnExactIsValidEventsWrong)

/-- 'laws.FnExactCountActions': WHATEVER THE INPUT: true; the input reads as it did. -/
def fnExactCountActionsSpec : ChangeSpec := { name := "fnExactCountActions", fn := fun _ => fun
  | [d1, d2, d3, d4] => { results := [.lit (.bool true)], args := [d1, d2, d3, d4] }
  | _ => none }
def fnExactCountActionsRow : OpenClaim := { program := "ytgcnameabpnpaaadoor", sum := "b26083dd0318ada0f77118a2736673b60e352d4303a7e653a3dcb4b3a315ea5e", func := "loop.example/g00902/laws.FnExactCountActions", spec := "fnExactCountActions", inPlace := ["internal/bytealg.CountString", "internal/bytealg.IndexByteString", "internal/bytealg.IndexString"], unfollowed := true, recurses := true, named := ["unicode/utf8.first", "unicode/utf8.acceptRanges", "internal/bytealg.MaxLen"], apart := false, laid := [("unicode/utf8.acceptRanges", laid_unicode_utf8_acceptRanges), ("unicode/utf8.first", laid_unicode_utf8_first)] }
def FnExactCountActionsSaid : Prop := fnExactCountActionsRow.holds Tryd.pinned (OpenSpec.ofChange fnExactCountActionsSpec)

/-- ITS FALSE NEIGHBOUR: 'it returns false'. Refute it at one input. -/
def fnExactCountActionsWrong : ChangeSpec := { name := "fnExactCountActions", fn := fun _ => fun
  | [d1, d2, d3, d4] => { results := [.lit (.bool false)], args := [d1, d2, d3, d4] }
  | _ => none }
def FnExactCountActionsWrongFalsely : Prop := fnExactCountActionsRow.holds Tryd.pinned (OpenSpec.ofChange fnExactCountActionsWrong)

/-- 'laws.FnExactShiftEvents': WHATEVER THE INPUT: true; the input reads as it did. -/
def fnExactShiftEventsSpec : ChangeSpec := { name := "fnExactShiftEvents", fn := fun _ => fun
  | [d1, d2, d3] => { results := [.lit (.bool true)], args := [d1, d2, d3] }
  | _ => none }
def fnExactShiftEventsRow : OpenClaim := { program := "ytgcnameabpnpaaadoor", sum := "b26083dd0318ada0f77118a2736673b60e352d4303a7e653a3dcb4b3a315ea5e", func := "loop.example/g00902/laws.FnExactShiftEvents", spec := "fnExactShiftEvents", inPlace := ["internal/bytealg.CountString", "internal/bytealg.IndexByteString", "internal/bytealg.IndexString"], unfollowed := true, recurses := true, named := ["unicode/utf8.first", "unicode/utf8.acceptRanges", "internal/bytealg.MaxLen"], apart := false, laid := [("unicode/utf8.acceptRanges", laid_unicode_utf8_acceptRanges), ("unicode/utf8.first", laid_unicode_utf8_first)] }
def FnExactShiftEventsSaid : Prop := fnExactShiftEventsRow.holds Tryd.pinned (OpenSpec.ofChange fnExactShiftEventsSpec)

/-- ITS FALSE NEIGHBOUR: 'it returns false'. Refute it at one input. -/
def fnExactShiftEventsWrong : ChangeSpec := { name := "fnExactShiftEvents", fn := fun _ => fun
  | [d1, d2, d3] => { results := [.lit (.bool false)], args := [d1, d2, d3] }
  | _ => none }
def FnExactShiftEventsWrongFalsely : Prop := fnExactShiftEventsRow.holds Tryd.pinned (OpenSpec.ofChange fnExactShiftEventsWrong)

/-- 'laws.FnExactEventsBetween': WHATEVER THE INPUT: true; the input reads as it did. -/
def fnExactEventsBetweenSpec : ChangeSpec := { name := "fnExactEventsBetween", fn := fun _ => fun
  | [d1, d2, d3, d4] => { results := [.lit (.bool true)], args := [d1, d2, d3, d4] }
  | _ => none }
def fnExactEventsBetweenRow : OpenClaim := { program := "ytgcnameabpnpaaadoor", sum := "b26083dd0318ada0f77118a2736673b60e352d4303a7e653a3dcb4b3a315ea5e", func := "loop.example/g00902/laws.FnExactEventsBetween", spec := "fnExactEventsBetween", inPlace := ["internal/bytealg.CountString", "internal/bytealg.IndexByteString", "internal/bytealg.IndexString"], unfollowed := true, recurses := true, named := ["unicode/utf8.first", "unicode/utf8.acceptRanges", "internal/bytealg.MaxLen"], apart := false, laid := [("unicode/utf8.acceptRanges", laid_unicode_utf8_acceptRanges), ("unicode/utf8.first", laid_unicode_utf8_first)] }
def FnExactEventsBetweenSaid : Prop := fnExactEventsBetweenRow.holds Tryd.pinned (OpenSpec.ofChange fnExactEventsBetweenSpec)

/-- ITS FALSE NEIGHBOUR: 'it returns false'. Refute it at one input. -/
def fnExactEventsBetweenWrong : ChangeSpec := { name := "fnExactEventsBetween", fn := fun _ => fun
  | [d1, d2, d3, d4] => { results := [.lit (.bool false)], args := [d1, d2, d3, d4] }
  | _ => none }
def FnExactEventsBetweenWrongFalsely : Prop := fnExactEventsBetweenRow.holds Tryd.pinned (OpenSpec.ofChange fnExactEventsBetweenWrong)

/-- 'laws.FnExactEventDays': WHATEVER THE INPUT: true; the input reads as it did. -/
def fnExactEventDaysSpec : ChangeSpec := { name := "fnExactEventDays", fn := fun _ => fun
  | [d1, d2] => { results := [.lit (.bool true)], args := [d1, d2] }
  | _ => none }
def fnExactEventDaysRow : OpenClaim := { program := "ytgcnameabpnpaaadoor", sum := "b26083dd0318ada0f77118a2736673b60e352d4303a7e653a3dcb4b3a315ea5e", func := "loop.example/g00902/laws.FnExactEventDays", spec := "fnExactEventDays", inPlace := ["internal/bytealg.CountString", "internal/bytealg.IndexByteString", "internal/bytealg.IndexString"], unfollowed := true, recurses := true, named := ["unicode/utf8.first", "unicode/utf8.acceptRanges", "internal/bytealg.MaxLen"], apart := false, laid := [("unicode/utf8.acceptRanges", laid_unicode_utf8_acceptRanges), ("unicode/utf8.first", laid_unicode_utf8_first)] }
def FnExactEventDaysSaid : Prop := fnExactEventDaysRow.holds Tryd.pinned (OpenSpec.ofChange fnExactEventDaysSpec)

/-- ITS FALSE NEIGHBOUR: 'it returns false'. Refute it at one input. -/
def fnExactEventDaysWrong : ChangeSpec := { name := "fnExactEventDays", fn := fun _ => fun
  | [d1, d2] => { results := [.lit (.bool false)], args := [d1, d2] }
  | _ => none }
def FnExactEventDaysWrongFalsely : Prop := fnExactEventDaysRow.holds Tryd.pinned (OpenSpec.ofChange fnExactEventDaysWrong)

/-- 'laws.FnExactFormatEvent': WHATEVER THE INPUT: true; the input reads as it did. -/
def fnExactFormatEventSpec : ChangeSpec := { name := "fnExactFormatEvent", fn := fun _ => fun
  | [d1, d2] => { results := [.lit (.bool true)], args := [d1, d2] }
  | _ => none }
def fnExactFormatEventRow : OpenClaim := { program := "ytgcnameabpnpaaadoor", sum := "b26083dd0318ada0f77118a2736673b60e352d4303a7e653a3dcb4b3a315ea5e", func := "loop.example/g00902/laws.FnExactFormatEvent", spec := "fnExactFormatEvent", inPlace := ["internal/bytealg.CountString", "internal/bytealg.IndexByteString", "internal/bytealg.IndexString"], recurses := true, named := ["unicode/utf8.first", "unicode/utf8.acceptRanges", "internal/bytealg.MaxLen", "internal/strconv.uint64pow10", "math/bits.deBruijn32tab", "math/bits.deBruijn64tab"], apart := false, laid := [("math/bits.deBruijn32tab", laid_math_bits_deBruijn32tab), ("math/bits.deBruijn64tab", laid_math_bits_deBruijn64tab), ("internal/strconv.uint64pow10", laid_internal_strconv_uint64pow10), ("unicode/utf8.acceptRanges", laid_unicode_utf8_acceptRanges), ("unicode/utf8.first", laid_unicode_utf8_first)] }
def FnExactFormatEventSaid : Prop := fnExactFormatEventRow.holds Tryd.pinned (OpenSpec.ofChange fnExactFormatEventSpec)

/-- ITS FALSE NEIGHBOUR: 'it returns false'. Refute it at one input. -/
def fnExactFormatEventWrong : ChangeSpec := { name := "fnExactFormatEvent", fn := fun _ => fun
  | [d1, d2] => { results := [.lit (.bool false)], args := [d1, d2] }
  | _ => none }
def FnExactFormatEventWrongFalsely : Prop := fnExactFormatEventRow.holds Tryd.pinned (OpenSpec.ofChange fnExactFormatEventWrong)

/-- 'laws.FnExactSortEvents': WHATEVER THE INPUT: true; the input reads as it did. -/
def fnExactSortEventsSpec : ChangeSpec := { name := "fnExactSortEvents", fn := fun _ => fun
  | [d1, d2] => { results := [.lit (.bool true)], args := [d1, d2] }
  | _ => none }
def fnExactSortEventsRow : OpenClaim := { program := "ytgcnameabpnpaaadoor", sum := "b26083dd0318ada0f77118a2736673b60e352d4303a7e653a3dcb4b3a315ea5e", func := "loop.example/g00902/laws.FnExactSortEvents", spec := "fnExactSortEvents", inPlace := ["internal/bytealg.CountString", "internal/bytealg.IndexByteString", "internal/bytealg.IndexString"], unfollowed := true, recurses := true, named := ["unicode/utf8.first", "unicode/utf8.acceptRanges", "internal/bytealg.MaxLen"], apart := false, laid := [("unicode/utf8.acceptRanges", laid_unicode_utf8_acceptRanges), ("unicode/utf8.first", laid_unicode_utf8_first)] }
def FnExactSortEventsSaid : Prop := fnExactSortEventsRow.holds Tryd.pinned (OpenSpec.ofChange fnExactSortEventsSpec)

/-- ITS FALSE NEIGHBOUR: 'it returns false'. Refute it at one input. -/
def fnExactSortEventsWrong : ChangeSpec := { name := "fnExactSortEvents", fn := fun _ => fun
  | [d1, d2] => { results := [.lit (.bool false)], args := [d1, d2] }
  | _ => none }
def FnExactSortEventsWrongFalsely : Prop := fnExactSortEventsRow.holds Tryd.pinned (OpenSpec.ofChange fnExactSortEventsWrong)

/-- 'laws.FnExactMergeEvents': WHATEVER THE INPUT: true; the input reads as it did. -/
def fnExactMergeEventsSpec : ChangeSpec := { name := "fnExactMergeEvents", fn := fun _ => fun
  | [d1, d2, d3] => { results := [.lit (.bool true)], args := [d1, d2, d3] }
  | _ => none }
def fnExactMergeEventsRow : OpenClaim := { program := "ytgcnameabpnpaaadoor", sum := "b26083dd0318ada0f77118a2736673b60e352d4303a7e653a3dcb4b3a315ea5e", func := "loop.example/g00902/laws.FnExactMergeEvents", spec := "fnExactMergeEvents", inPlace := ["internal/bytealg.CountString", "internal/bytealg.IndexByteString", "internal/bytealg.IndexString"], unfollowed := true, recurses := true, named := ["unicode/utf8.first", "unicode/utf8.acceptRanges", "internal/bytealg.MaxLen"], apart := false, laid := [("unicode/utf8.acceptRanges", laid_unicode_utf8_acceptRanges), ("unicode/utf8.first", laid_unicode_utf8_first)] }
def FnExactMergeEventsSaid : Prop := fnExactMergeEventsRow.holds Tryd.pinned (OpenSpec.ofChange fnExactMergeEventsSpec)

/-- ITS FALSE NEIGHBOUR: 'it returns false'. Refute it at one input. -/
def fnExactMergeEventsWrong : ChangeSpec := { name := "fnExactMergeEvents", fn := fun _ => fun
  | [d1, d2, d3] => { results := [.lit (.bool false)], args := [d1, d2, d3] }
  | _ => none }
def FnExactMergeEventsWrongFalsely : Prop := fnExactMergeEventsRow.holds Tryd.pinned (OpenSpec.ofChange fnExactMergeEventsWrong)

/-- 'laws.FnExactFormatEvents': WHATEVER THE INPUT: true; the input reads as it did. -/
def fnExactFormatEventsSpec : ChangeSpec := { name := "fnExactFormatEvents", fn := fun _ => fun
  | [d1, d2] => { results := [.lit (.bool true)], args := [d1, d2] }
  | _ => none }
def fnExactFormatEventsRow : OpenClaim := { program := "ytgcnameabpnpaaadoor", sum := "b26083dd0318ada0f77118a2736673b60e352d4303a7e653a3dcb4b3a315ea5e", func := "loop.example/g00902/laws.FnExactFormatEvents", spec := "fnExactFormatEvents", inPlace := ["internal/bytealg.CountString", "internal/bytealg.IndexByteString", "internal/bytealg.IndexString", "internal/abi.NoEscape"], unfollowed := true, recurses := true, named := ["unicode/utf8.first", "unicode/utf8.acceptRanges", "internal/bytealg.MaxLen", "internal/strconv.uint64pow10", "math/bits.deBruijn32tab", "math/bits.deBruijn64tab"], apart := false, laid := [("math/bits.deBruijn32tab", laid_math_bits_deBruijn32tab), ("math/bits.deBruijn64tab", laid_math_bits_deBruijn64tab), ("internal/strconv.uint64pow10", laid_internal_strconv_uint64pow10), ("unicode/utf8.acceptRanges", laid_unicode_utf8_acceptRanges), ("unicode/utf8.first", laid_unicode_utf8_first)] }
def FnExactFormatEventsSaid : Prop := fnExactFormatEventsRow.holds Tryd.pinned (OpenSpec.ofChange fnExactFormatEventsSpec)

/-- ITS FALSE NEIGHBOUR: 'it returns false'. Refute it at one input. -/
def fnExactFormatEventsWrong : ChangeSpec := { name := "fnExactFormatEvents", fn := fun _ => fun
  | [d1, d2] => { results := [.lit (.bool false)], args := [d1, d2] }
  | _ => none }
def FnExactFormatEventsWrongFalsely : Prop := fnExactFormatEventsRow.holds Tryd.pinned (OpenSpec.ofChange fnExactFormatEventsWrong)

/-- 'laws.FnEvents': WHATEVER THE INPUT: true; the input reads as it did. -/
def fnEventsSpec : ChangeSpec := { name := "fnEvents", fn := fun _ => fun
  | [d] => { results := [.lit (.bool true)], args := [d] }
  | _ => none }
def fnEventsRow : OpenClaim := { program := "ytgcnameabpnpaaadoor", sum := "b26083dd0318ada0f77118a2736673b60e352d4303a7e653a3dcb4b3a315ea5e", func := "loop.example/g00902/laws.FnEvents", spec := "fnEvents", inPlace := ["internal/bytealg.CountString", "internal/bytealg.IndexByteString", "internal/bytealg.IndexString"], unfollowed := true, recurses := true, named := ["unicode/utf8.first", "unicode/utf8.acceptRanges", "internal/bytealg.MaxLen"], apart := false, laid := [("unicode/utf8.acceptRanges", laid_unicode_utf8_acceptRanges), ("unicode/utf8.first", laid_unicode_utf8_first)] }
def FnEventsSaid : Prop := fnEventsRow.holds Tryd.pinned (OpenSpec.ofChange fnEventsSpec)

/-- ITS FALSE NEIGHBOUR: 'it returns false'. Refute it at one input. -/
def fnEventsWrong : ChangeSpec := { name := "fnEvents", fn := fun _ => fun
  | [d] => { results := [.lit (.bool false)], args := [d] }
  | _ => none }
def FnEventsWrongFalsely : Prop := fnEventsRow.holds Tryd.pinned (OpenSpec.ofChange fnEventsWrong)

/- THE SECOND FORM. 'bulk': how many values and letters a reading holds, each counted each time it is reached (what is shared counts as often as it is met; a slice's spare places count too). A statement '..UptoSaid' is the law's where the arguments, and the package variables that the reading takes, are together of bulk at most 1048576: NARROWER than '..Said'. Prove '..Said' where nothing that the law and all that it calls make is longer than what came in: it says more and counts as full. Else prove '..UptoSaid'. A law counts once. -/
mutual
def uptoBulk {H : Type} : DataW H → Nat
  | .lit (.string bytes) => bytes.length + 1
  | .lit _ => 1
  | .nil => 1
  | .ptr d => uptoBulk d + 1
  | .slice elems spare => uptoBulkAll elems + uptoBulkAll spare + 1
  | .agg parts => uptoBulkAll parts + 1
  | .iface _ d => uptoBulk d + 1
  | .map entries => uptoBulkEntries entries + 1
  | .held _ => 1
def uptoBulkAll {H : Type} : List (DataW H) → Nat
  | [] => 0
  | d :: r => uptoBulk d + uptoBulkAll r
def uptoBulkEntries {H : Type} : List (Lit × DataW H) → Nat
  | [] => 0
  | x :: r => uptoBulkEntry x + uptoBulkEntries r
def uptoBulkEntry {H : Type} : Lit × DataW H → Nat
  | (.string bytes, d) => bytes.length + uptoBulk d + 1
  | (_, d) => uptoBulk d + 1
 end
def uptoSmall : (H : Type) → List (DataW H) → Bool := fun _ ds => decide (uptoBulkAll ds ≤ 1048576)
def OpenSpec.upto (s : _root_.Go.ChangeSpec) : _root_.Go.OpenSpec := { _root_.Go.OpenSpec.ofChange s with cond := some uptoSmall }

/-- 'laws.FnExactIsValidEvents', WHERE WHAT IT READS IS OF BULK AT MOST 1048576: true; the input reads as it did. -/
def fnExactIsValidEventsUptoRow : OpenClaim := { program := "ytgcnameabpnpaaadoor", sum := "b26083dd0318ada0f77118a2736673b60e352d4303a7e653a3dcb4b3a315ea5e", func := "loop.example/g00902/laws.FnExactIsValidEvents", spec := "fnExactIsValidEvents", inPlace := ["internal/bytealg.CountString", "internal/bytealg.IndexByteString", "internal/bytealg.IndexString"], unfollowed := true, recurses := true, named := ["unicode/utf8.first", "unicode/utf8.acceptRanges", "internal/bytealg.MaxLen"], apart := false, laid := [("unicode/utf8.acceptRanges", laid_unicode_utf8_acceptRanges), ("unicode/utf8.first", laid_unicode_utf8_first)], narrowed := true }
def FnExactIsValidEventsUptoSaid : Prop := fnExactIsValidEventsUptoRow.holds Tryd.pinned (OpenSpec.upto fnExactIsValidEventsSpec)

/-- 'laws.FnExactCountActions', WHERE WHAT IT READS IS OF BULK AT MOST 1048576: true; the input reads as it did. -/
def fnExactCountActionsUptoRow : OpenClaim := { program := "ytgcnameabpnpaaadoor", sum := "b26083dd0318ada0f77118a2736673b60e352d4303a7e653a3dcb4b3a315ea5e", func := "loop.example/g00902/laws.FnExactCountActions", spec := "fnExactCountActions", inPlace := ["internal/bytealg.CountString", "internal/bytealg.IndexByteString", "internal/bytealg.IndexString"], unfollowed := true, recurses := true, named := ["unicode/utf8.first", "unicode/utf8.acceptRanges", "internal/bytealg.MaxLen"], apart := false, laid := [("unicode/utf8.acceptRanges", laid_unicode_utf8_acceptRanges), ("unicode/utf8.first", laid_unicode_utf8_first)], narrowed := true }
def FnExactCountActionsUptoSaid : Prop := fnExactCountActionsUptoRow.holds Tryd.pinned (OpenSpec.upto fnExactCountActionsSpec)

/-- 'laws.FnExactShiftEvents', WHERE WHAT IT READS IS OF BULK AT MOST 1048576: true; the input reads as it did. -/
def fnExactShiftEventsUptoRow : OpenClaim := { program := "ytgcnameabpnpaaadoor", sum := "b26083dd0318ada0f77118a2736673b60e352d4303a7e653a3dcb4b3a315ea5e", func := "loop.example/g00902/laws.FnExactShiftEvents", spec := "fnExactShiftEvents", inPlace := ["internal/bytealg.CountString", "internal/bytealg.IndexByteString", "internal/bytealg.IndexString"], unfollowed := true, recurses := true, named := ["unicode/utf8.first", "unicode/utf8.acceptRanges", "internal/bytealg.MaxLen"], apart := false, laid := [("unicode/utf8.acceptRanges", laid_unicode_utf8_acceptRanges), ("unicode/utf8.first", laid_unicode_utf8_first)], narrowed := true }
def FnExactShiftEventsUptoSaid : Prop := fnExactShiftEventsUptoRow.holds Tryd.pinned (OpenSpec.upto fnExactShiftEventsSpec)

/-- 'laws.FnExactEventsBetween', WHERE WHAT IT READS IS OF BULK AT MOST 1048576: true; the input reads as it did. -/
def fnExactEventsBetweenUptoRow : OpenClaim := { program := "ytgcnameabpnpaaadoor", sum := "b26083dd0318ada0f77118a2736673b60e352d4303a7e653a3dcb4b3a315ea5e", func := "loop.example/g00902/laws.FnExactEventsBetween", spec := "fnExactEventsBetween", inPlace := ["internal/bytealg.CountString", "internal/bytealg.IndexByteString", "internal/bytealg.IndexString"], unfollowed := true, recurses := true, named := ["unicode/utf8.first", "unicode/utf8.acceptRanges", "internal/bytealg.MaxLen"], apart := false, laid := [("unicode/utf8.acceptRanges", laid_unicode_utf8_acceptRanges), ("unicode/utf8.first", laid_unicode_utf8_first)], narrowed := true }
def FnExactEventsBetweenUptoSaid : Prop := fnExactEventsBetweenUptoRow.holds Tryd.pinned (OpenSpec.upto fnExactEventsBetweenSpec)

/-- 'laws.FnExactEventDays', WHERE WHAT IT READS IS OF BULK AT MOST 1048576: true; the input reads as it did. -/
def fnExactEventDaysUptoRow : OpenClaim := { program := "ytgcnameabpnpaaadoor", sum := "b26083dd0318ada0f77118a2736673b60e352d4303a7e653a3dcb4b3a315ea5e", func := "loop.example/g00902/laws.FnExactEventDays", spec := "fnExactEventDays", inPlace := ["internal/bytealg.CountString", "internal/bytealg.IndexByteString", "internal/bytealg.IndexString"], unfollowed := true, recurses := true, named := ["unicode/utf8.first", "unicode/utf8.acceptRanges", "internal/bytealg.MaxLen"], apart := false, laid := [("unicode/utf8.acceptRanges", laid_unicode_utf8_acceptRanges), ("unicode/utf8.first", laid_unicode_utf8_first)], narrowed := true }
def FnExactEventDaysUptoSaid : Prop := fnExactEventDaysUptoRow.holds Tryd.pinned (OpenSpec.upto fnExactEventDaysSpec)

/-- 'laws.FnExactFormatEvent', WHERE WHAT IT READS IS OF BULK AT MOST 1048576: true; the input reads as it did. -/
def fnExactFormatEventUptoRow : OpenClaim := { program := "ytgcnameabpnpaaadoor", sum := "b26083dd0318ada0f77118a2736673b60e352d4303a7e653a3dcb4b3a315ea5e", func := "loop.example/g00902/laws.FnExactFormatEvent", spec := "fnExactFormatEvent", inPlace := ["internal/bytealg.CountString", "internal/bytealg.IndexByteString", "internal/bytealg.IndexString"], recurses := true, named := ["unicode/utf8.first", "unicode/utf8.acceptRanges", "internal/bytealg.MaxLen", "internal/strconv.uint64pow10", "math/bits.deBruijn32tab", "math/bits.deBruijn64tab"], apart := false, laid := [("math/bits.deBruijn32tab", laid_math_bits_deBruijn32tab), ("math/bits.deBruijn64tab", laid_math_bits_deBruijn64tab), ("internal/strconv.uint64pow10", laid_internal_strconv_uint64pow10), ("unicode/utf8.acceptRanges", laid_unicode_utf8_acceptRanges), ("unicode/utf8.first", laid_unicode_utf8_first)], narrowed := true }
def FnExactFormatEventUptoSaid : Prop := fnExactFormatEventUptoRow.holds Tryd.pinned (OpenSpec.upto fnExactFormatEventSpec)

/-- 'laws.FnExactSortEvents', WHERE WHAT IT READS IS OF BULK AT MOST 1048576: true; the input reads as it did. -/
def fnExactSortEventsUptoRow : OpenClaim := { program := "ytgcnameabpnpaaadoor", sum := "b26083dd0318ada0f77118a2736673b60e352d4303a7e653a3dcb4b3a315ea5e", func := "loop.example/g00902/laws.FnExactSortEvents", spec := "fnExactSortEvents", inPlace := ["internal/bytealg.CountString", "internal/bytealg.IndexByteString", "internal/bytealg.IndexString"], unfollowed := true, recurses := true, named := ["unicode/utf8.first", "unicode/utf8.acceptRanges", "internal/bytealg.MaxLen"], apart := false, laid := [("unicode/utf8.acceptRanges", laid_unicode_utf8_acceptRanges), ("unicode/utf8.first", laid_unicode_utf8_first)], narrowed := true }
def FnExactSortEventsUptoSaid : Prop := fnExactSortEventsUptoRow.holds Tryd.pinned (OpenSpec.upto fnExactSortEventsSpec)

/-- 'laws.FnExactMergeEvents', WHERE WHAT IT READS IS OF BULK AT MOST 1048576: true; the input reads as it did. -/
def fnExactMergeEventsUptoRow : OpenClaim := { program := "ytgcnameabpnpaaadoor", sum := "b26083dd0318ada0f77118a2736673b60e352d4303a7e653a3dcb4b3a315ea5e", func := "loop.example/g00902/laws.FnExactMergeEvents", spec := "fnExactMergeEvents", inPlace := ["internal/bytealg.CountString", "internal/bytealg.IndexByteString", "internal/bytealg.IndexString"], unfollowed := true, recurses := true, named := ["unicode/utf8.first", "unicode/utf8.acceptRanges", "internal/bytealg.MaxLen"], apart := false, laid := [("unicode/utf8.acceptRanges", laid_unicode_utf8_acceptRanges), ("unicode/utf8.first", laid_unicode_utf8_first)], narrowed := true }
def FnExactMergeEventsUptoSaid : Prop := fnExactMergeEventsUptoRow.holds Tryd.pinned (OpenSpec.upto fnExactMergeEventsSpec)

/-- 'laws.FnExactFormatEvents', WHERE WHAT IT READS IS OF BULK AT MOST 1048576: true; the input reads as it did. -/
def fnExactFormatEventsUptoRow : OpenClaim := { program := "ytgcnameabpnpaaadoor", sum := "b26083dd0318ada0f77118a2736673b60e352d4303a7e653a3dcb4b3a315ea5e", func := "loop.example/g00902/laws.FnExactFormatEvents", spec := "fnExactFormatEvents", inPlace := ["internal/bytealg.CountString", "internal/bytealg.IndexByteString", "internal/bytealg.IndexString", "internal/abi.NoEscape"], unfollowed := true, recurses := true, named := ["unicode/utf8.first", "unicode/utf8.acceptRanges", "internal/bytealg.MaxLen", "internal/strconv.uint64pow10", "math/bits.deBruijn32tab", "math/bits.deBruijn64tab"], apart := false, laid := [("math/bits.deBruijn32tab", laid_math_bits_deBruijn32tab), ("math/bits.deBruijn64tab", laid_math_bits_deBruijn64tab), ("internal/strconv.uint64pow10", laid_internal_strconv_uint64pow10), ("unicode/utf8.acceptRanges", laid_unicode_utf8_acceptRanges), ("unicode/utf8.first", laid_unicode_utf8_first)], narrowed := true }
def FnExactFormatEventsUptoSaid : Prop := fnExactFormatEventsUptoRow.holds Tryd.pinned (OpenSpec.upto fnExactFormatEventsSpec)

/-- 'laws.FnEvents', WHERE WHAT IT READS IS OF BULK AT MOST 1048576: true; the input reads as it did. -/
def fnEventsUptoRow : OpenClaim := { program := "ytgcnameabpnpaaadoor", sum := "b26083dd0318ada0f77118a2736673b60e352d4303a7e653a3dcb4b3a315ea5e", func := "loop.example/g00902/laws.FnEvents", spec := "fnEvents", inPlace := ["internal/bytealg.CountString", "internal/bytealg.IndexByteString", "internal/bytealg.IndexString"], unfollowed := true, recurses := true, named := ["unicode/utf8.first", "unicode/utf8.acceptRanges", "internal/bytealg.MaxLen"], apart := false, laid := [("unicode/utf8.acceptRanges", laid_unicode_utf8_acceptRanges), ("unicode/utf8.first", laid_unicode_utf8_first)], narrowed := true }
def FnEventsUptoSaid : Prop := fnEventsUptoRow.holds Tryd.pinned (OpenSpec.upto fnEventsSpec)

end Rows
end Go.Proofs.YtgcnameabpnpaaaDoor
