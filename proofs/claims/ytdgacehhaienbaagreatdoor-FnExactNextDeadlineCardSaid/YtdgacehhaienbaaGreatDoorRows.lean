/-
  NARROWER THAN 'FOR EVERY INPUT', by the rows' own cells (each row's printed sentence says how): FnExactStartState: loops, laid · FnExactNextDeadline: loops, laid · FnExactExposureOf: loops, laid · FnExactOverdueBy: loops, laid · FnExactClaimsOf: loops, laid · FnExactDuesOf: loops, laid · FnExactActionStatus: loops, laid · FnExactAdvanceState: loops, laid · FnExactCheckScenario: loops, laid · FnExactPartyReport: loops, laid · FnExactTraceContract: loops, laid · FnExactApplyEvent: loops, laid.
  DERIVED. THE GIVEN ROWS OF THIS SEAT. 12 by the template 'for every input the law returns true; each argument reads behind the call as it read before'; 0 by the template 'total and deterministic' (their statements: YtdgacehhaienbaaGreatDoorTotals.lean).
  GIVEN WITH THE SEED: the statements are not yours to turn. If you find one false, say at which input.
  Laid BY PROGRAM, IN A SANDBOX (cutbox-rows.mjs): the forced cells as the released guide's own fill.sh prints them over the translation 2dbd100f1a88d25b… (all of the seat's roots in one cut). By AI agents, Wed Nov 11 2026. No macro, syntax, notation, axiom, sorry.
-/
import Derived.Test.YtdgacehhaienbaaGreatDoorChecked
import GoSem.PinnedTables
import GoSem.Claim
import GoSem.ClaimJoined
import GoSem.ClaimMapViews
import Derived.JoinedTies
import Derived.KernelRfl
namespace Go.Proofs.YtdgacehhaienbaaGreatDoor
/- THE CELL 'sum', in the pinned program and in every row, IS THE sha256 OF THE DUMP (.gsa) THAT YtdgacehhaienbaaGreatDoorProg.lean LOADS. Nothing in Lean hashes anything: it is a label: what it is worth is what the hold of that sum in a sandbox is worth. -/
noncomputable def Tryz.pinned : Pinned := { name := "ytdgacehhaienbaagreatdoor", sum := "2dbd100f1a88d25b8dafdc816c77b77515f8cb4b96f9dc7a853f1f42185d3352", checked := Tryz.checked }
namespace Rows
def none {H : Type} : Left H := { results := [], args := [] }

/- WHAT THE LISTED PACKAGE-LEVEL VARIABLES READ AS WHEN THE CALL BEGINS. Each datum BY PROGRAM (the guide's laid-datum.mjs) off the statement by which the dump's own 'gosem.cut.vars' lays the variable. In a bare row this is a premise. The card (YtdgacehhaienbaaGreatDoorCards.lean) ties it to the program's text. -/
def laid_unicode_utf8_acceptRanges {H : Type} : DataW H := .agg [.agg [.lit (.int .u8 128), .lit (.int .u8 191)], .agg [.lit (.int .u8 160), .lit (.int .u8 191)], .agg [.lit (.int .u8 128), .lit (.int .u8 159)], .agg [.lit (.int .u8 144), .lit (.int .u8 191)], .agg [.lit (.int .u8 128), .lit (.int .u8 143)], .agg [.lit (.int .u8 0), .lit (.int .u8 0)], .agg [.lit (.int .u8 0), .lit (.int .u8 0)], .agg [.lit (.int .u8 0), .lit (.int .u8 0)], .agg [.lit (.int .u8 0), .lit (.int .u8 0)], .agg [.lit (.int .u8 0), .lit (.int .u8 0)], .agg [.lit (.int .u8 0), .lit (.int .u8 0)], .agg [.lit (.int .u8 0), .lit (.int .u8 0)], .agg [.lit (.int .u8 0), .lit (.int .u8 0)], .agg [.lit (.int .u8 0), .lit (.int .u8 0)], .agg [.lit (.int .u8 0), .lit (.int .u8 0)], .agg [.lit (.int .u8 0), .lit (.int .u8 0)]]
/-- One of Go's own tables, pinned by name: the form's constant. -/
def laid_unicode_utf8_first : DataW Unit := Go.Pinned.utf8First
def laid_math_bits_deBruijn32tab {H : Type} : DataW H := .agg [.lit (.int .u8 0), .lit (.int .u8 1), .lit (.int .u8 28), .lit (.int .u8 2), .lit (.int .u8 29), .lit (.int .u8 14), .lit (.int .u8 24), .lit (.int .u8 3), .lit (.int .u8 30), .lit (.int .u8 22), .lit (.int .u8 20), .lit (.int .u8 15), .lit (.int .u8 25), .lit (.int .u8 17), .lit (.int .u8 4), .lit (.int .u8 8), .lit (.int .u8 31), .lit (.int .u8 27), .lit (.int .u8 13), .lit (.int .u8 23), .lit (.int .u8 21), .lit (.int .u8 19), .lit (.int .u8 16), .lit (.int .u8 7), .lit (.int .u8 26), .lit (.int .u8 12), .lit (.int .u8 18), .lit (.int .u8 6), .lit (.int .u8 11), .lit (.int .u8 5), .lit (.int .u8 10), .lit (.int .u8 9)]
def laid_math_bits_deBruijn64tab {H : Type} : DataW H := .agg [.lit (.int .u8 0), .lit (.int .u8 1), .lit (.int .u8 56), .lit (.int .u8 2), .lit (.int .u8 57), .lit (.int .u8 49), .lit (.int .u8 28), .lit (.int .u8 3), .lit (.int .u8 61), .lit (.int .u8 58), .lit (.int .u8 42), .lit (.int .u8 50), .lit (.int .u8 38), .lit (.int .u8 29), .lit (.int .u8 17), .lit (.int .u8 4), .lit (.int .u8 62), .lit (.int .u8 47), .lit (.int .u8 59), .lit (.int .u8 36), .lit (.int .u8 45), .lit (.int .u8 43), .lit (.int .u8 51), .lit (.int .u8 22), .lit (.int .u8 53), .lit (.int .u8 39), .lit (.int .u8 33), .lit (.int .u8 30), .lit (.int .u8 24), .lit (.int .u8 18), .lit (.int .u8 12), .lit (.int .u8 5), .lit (.int .u8 63), .lit (.int .u8 55), .lit (.int .u8 48), .lit (.int .u8 27), .lit (.int .u8 60), .lit (.int .u8 41), .lit (.int .u8 37), .lit (.int .u8 16), .lit (.int .u8 46), .lit (.int .u8 35), .lit (.int .u8 44), .lit (.int .u8 21), .lit (.int .u8 52), .lit (.int .u8 32), .lit (.int .u8 23), .lit (.int .u8 11), .lit (.int .u8 54), .lit (.int .u8 26), .lit (.int .u8 40), .lit (.int .u8 15), .lit (.int .u8 34), .lit (.int .u8 20), .lit (.int .u8 31), .lit (.int .u8 10), .lit (.int .u8 25), .lit (.int .u8 14), .lit (.int .u8 19), .lit (.int .u8 9), .lit (.int .u8 13), .lit (.int .u8 8), .lit (.int .u8 7), .lit (.int .u8 6)]
def laid_internal_strconv_uint64pow10 {H : Type} : DataW H := .agg [.lit (.int .u64 1), .lit (.int .u64 10), .lit (.int .u64 100), .lit (.int .u64 1000), .lit (.int .u64 10000), .lit (.int .u64 100000), .lit (.int .u64 1000000), .lit (.int .u64 10000000), .lit (.int .u64 100000000), .lit (.int .u64 1000000000), .lit (.int .u64 10000000000), .lit (.int .u64 100000000000), .lit (.int .u64 1000000000000), .lit (.int .u64 10000000000000), .lit (.int .u64 100000000000000), .lit (.int .u64 1000000000000000), .lit (.int .u64 10000000000000000), .lit (.int .u64 100000000000000000), .lit (.int .u64 1000000000000000000), .lit (.int .u64 10000000000000000000)]

/-- 'laws.FnExactStartState': WHATEVER THE INPUT: true; the input reads as it did. -/
def fnExactStartStateSpec : ChangeSpec := { name := "fnExactStartState", fn := fun _ => fun
  | [d1, d2] => { results := [.lit (.bool true)], args := [d1, d2] }
  | _ => none }
def fnExactStartStateRow : OpenClaim := { program := "ytdgacehhaienbaagreatdoor", sum := "2dbd100f1a88d25b8dafdc816c77b77515f8cb4b96f9dc7a853f1f42185d3352", func := "loop.example/g00902/laws.FnExactStartState", spec := "fnExactStartState", inPlace := ["internal/bytealg.CountString", "internal/bytealg.IndexByteString", "internal/bytealg.IndexString"], unfollowed := true, recurses := true, named := ["unicode/utf8.first", "unicode/utf8.acceptRanges", "internal/bytealg.MaxLen"], loops := true, apart := false, laid := [("unicode/utf8.acceptRanges", laid_unicode_utf8_acceptRanges), ("unicode/utf8.first", laid_unicode_utf8_first)] }
def FnExactStartStateSaid : Prop := fnExactStartStateRow.holds Tryz.pinned (OpenSpec.ofChange fnExactStartStateSpec)

/-- ITS FALSE NEIGHBOUR: 'it returns false'. Refute it at one input. -/
def fnExactStartStateWrong : ChangeSpec := { name := "fnExactStartState", fn := fun _ => fun
  | [d1, d2] => { results := [.lit (.bool false)], args := [d1, d2] }
  | _ => none }
def FnExactStartStateWrongFalsely : Prop := fnExactStartStateRow.holds Tryz.pinned (OpenSpec.ofChange fnExactStartStateWrong)

/-- 'laws.FnExactNextDeadline': WHATEVER THE INPUT: true; the input reads as it did. -/
def fnExactNextDeadlineSpec : ChangeSpec := { name := "fnExactNextDeadline", fn := fun _ => fun
  | [d1, d2] => { results := [.lit (.bool true)], args := [d1, d2] }
  | _ => none }
def fnExactNextDeadlineRow : OpenClaim := { program := "ytdgacehhaienbaagreatdoor", sum := "2dbd100f1a88d25b8dafdc816c77b77515f8cb4b96f9dc7a853f1f42185d3352", func := "loop.example/g00902/laws.FnExactNextDeadline", spec := "fnExactNextDeadline", inPlace := ["internal/bytealg.CountString", "internal/bytealg.IndexByteString", "internal/bytealg.IndexString"], unfollowed := true, recurses := true, named := ["unicode/utf8.first", "unicode/utf8.acceptRanges", "internal/bytealg.MaxLen"], loops := true, apart := false, laid := [("unicode/utf8.acceptRanges", laid_unicode_utf8_acceptRanges), ("unicode/utf8.first", laid_unicode_utf8_first)] }
def FnExactNextDeadlineSaid : Prop := fnExactNextDeadlineRow.holds Tryz.pinned (OpenSpec.ofChange fnExactNextDeadlineSpec)

/-- ITS FALSE NEIGHBOUR: 'it returns false'. Refute it at one input. -/
def fnExactNextDeadlineWrong : ChangeSpec := { name := "fnExactNextDeadline", fn := fun _ => fun
  | [d1, d2] => { results := [.lit (.bool false)], args := [d1, d2] }
  | _ => none }
def FnExactNextDeadlineWrongFalsely : Prop := fnExactNextDeadlineRow.holds Tryz.pinned (OpenSpec.ofChange fnExactNextDeadlineWrong)

/-- 'laws.FnExactExposureOf': WHATEVER THE INPUT: true; the input reads as it did. -/
def fnExactExposureOfSpec : ChangeSpec := { name := "fnExactExposureOf", fn := fun _ => fun
  | [d1, d2, d3, d4] => { results := [.lit (.bool true)], args := [d1, d2, d3, d4] }
  | _ => none }
def fnExactExposureOfRow : OpenClaim := { program := "ytdgacehhaienbaagreatdoor", sum := "2dbd100f1a88d25b8dafdc816c77b77515f8cb4b96f9dc7a853f1f42185d3352", func := "loop.example/g00902/laws.FnExactExposureOf", spec := "fnExactExposureOf", inPlace := ["internal/bytealg.CountString", "internal/bytealg.IndexByteString", "internal/bytealg.IndexString"], unfollowed := true, recurses := true, named := ["unicode/utf8.first", "unicode/utf8.acceptRanges", "internal/bytealg.MaxLen"], loops := true, apart := false, laid := [("unicode/utf8.acceptRanges", laid_unicode_utf8_acceptRanges), ("unicode/utf8.first", laid_unicode_utf8_first)] }
def FnExactExposureOfSaid : Prop := fnExactExposureOfRow.holds Tryz.pinned (OpenSpec.ofChange fnExactExposureOfSpec)

/-- ITS FALSE NEIGHBOUR: 'it returns false'. Refute it at one input. -/
def fnExactExposureOfWrong : ChangeSpec := { name := "fnExactExposureOf", fn := fun _ => fun
  | [d1, d2, d3, d4] => { results := [.lit (.bool false)], args := [d1, d2, d3, d4] }
  | _ => none }
def FnExactExposureOfWrongFalsely : Prop := fnExactExposureOfRow.holds Tryz.pinned (OpenSpec.ofChange fnExactExposureOfWrong)

/-- 'laws.FnExactOverdueBy': WHATEVER THE INPUT: true; the input reads as it did. -/
def fnExactOverdueBySpec : ChangeSpec := { name := "fnExactOverdueBy", fn := fun _ => fun
  | [d1, d2, d3] => { results := [.lit (.bool true)], args := [d1, d2, d3] }
  | _ => none }
def fnExactOverdueByRow : OpenClaim := { program := "ytdgacehhaienbaagreatdoor", sum := "2dbd100f1a88d25b8dafdc816c77b77515f8cb4b96f9dc7a853f1f42185d3352", func := "loop.example/g00902/laws.FnExactOverdueBy", spec := "fnExactOverdueBy", inPlace := ["internal/bytealg.CountString", "internal/bytealg.IndexByteString", "internal/bytealg.IndexString"], unfollowed := true, recurses := true, named := ["unicode/utf8.first", "unicode/utf8.acceptRanges", "internal/bytealg.MaxLen"], loops := true, apart := false, laid := [("unicode/utf8.acceptRanges", laid_unicode_utf8_acceptRanges), ("unicode/utf8.first", laid_unicode_utf8_first)] }
def FnExactOverdueBySaid : Prop := fnExactOverdueByRow.holds Tryz.pinned (OpenSpec.ofChange fnExactOverdueBySpec)

/-- ITS FALSE NEIGHBOUR: 'it returns false'. Refute it at one input. -/
def fnExactOverdueByWrong : ChangeSpec := { name := "fnExactOverdueBy", fn := fun _ => fun
  | [d1, d2, d3] => { results := [.lit (.bool false)], args := [d1, d2, d3] }
  | _ => none }
def FnExactOverdueByWrongFalsely : Prop := fnExactOverdueByRow.holds Tryz.pinned (OpenSpec.ofChange fnExactOverdueByWrong)

/-- 'laws.FnExactClaimsOf': WHATEVER THE INPUT: true; the input reads as it did. -/
def fnExactClaimsOfSpec : ChangeSpec := { name := "fnExactClaimsOf", fn := fun _ => fun
  | [d1, d2, d3] => { results := [.lit (.bool true)], args := [d1, d2, d3] }
  | _ => none }
def fnExactClaimsOfRow : OpenClaim := { program := "ytdgacehhaienbaagreatdoor", sum := "2dbd100f1a88d25b8dafdc816c77b77515f8cb4b96f9dc7a853f1f42185d3352", func := "loop.example/g00902/laws.FnExactClaimsOf", spec := "fnExactClaimsOf", inPlace := ["internal/bytealg.CountString", "internal/bytealg.IndexByteString", "internal/bytealg.IndexString"], unfollowed := true, recurses := true, named := ["unicode/utf8.first", "unicode/utf8.acceptRanges", "internal/bytealg.MaxLen"], loops := true, apart := false, laid := [("unicode/utf8.acceptRanges", laid_unicode_utf8_acceptRanges), ("unicode/utf8.first", laid_unicode_utf8_first)] }
def FnExactClaimsOfSaid : Prop := fnExactClaimsOfRow.holds Tryz.pinned (OpenSpec.ofChange fnExactClaimsOfSpec)

/-- ITS FALSE NEIGHBOUR: 'it returns false'. Refute it at one input. -/
def fnExactClaimsOfWrong : ChangeSpec := { name := "fnExactClaimsOf", fn := fun _ => fun
  | [d1, d2, d3] => { results := [.lit (.bool false)], args := [d1, d2, d3] }
  | _ => none }
def FnExactClaimsOfWrongFalsely : Prop := fnExactClaimsOfRow.holds Tryz.pinned (OpenSpec.ofChange fnExactClaimsOfWrong)

/-- 'laws.FnExactDuesOf': WHATEVER THE INPUT: true; the input reads as it did. -/
def fnExactDuesOfSpec : ChangeSpec := { name := "fnExactDuesOf", fn := fun _ => fun
  | [d1, d2, d3] => { results := [.lit (.bool true)], args := [d1, d2, d3] }
  | _ => none }
def fnExactDuesOfRow : OpenClaim := { program := "ytdgacehhaienbaagreatdoor", sum := "2dbd100f1a88d25b8dafdc816c77b77515f8cb4b96f9dc7a853f1f42185d3352", func := "loop.example/g00902/laws.FnExactDuesOf", spec := "fnExactDuesOf", inPlace := ["internal/bytealg.CountString", "internal/bytealg.IndexByteString", "internal/bytealg.IndexString"], unfollowed := true, recurses := true, named := ["unicode/utf8.first", "unicode/utf8.acceptRanges", "internal/bytealg.MaxLen"], loops := true, apart := false, laid := [("unicode/utf8.acceptRanges", laid_unicode_utf8_acceptRanges), ("unicode/utf8.first", laid_unicode_utf8_first)] }
def FnExactDuesOfSaid : Prop := fnExactDuesOfRow.holds Tryz.pinned (OpenSpec.ofChange fnExactDuesOfSpec)

/-- ITS FALSE NEIGHBOUR: 'it returns false'. Refute it at one input. -/
def fnExactDuesOfWrong : ChangeSpec := { name := "fnExactDuesOf", fn := fun _ => fun
  | [d1, d2, d3] => { results := [.lit (.bool false)], args := [d1, d2, d3] }
  | _ => none }
def FnExactDuesOfWrongFalsely : Prop := fnExactDuesOfRow.holds Tryz.pinned (OpenSpec.ofChange fnExactDuesOfWrong)

/-- 'laws.FnExactActionStatus': WHATEVER THE INPUT: true; the input reads as it did. -/
def fnExactActionStatusSpec : ChangeSpec := { name := "fnExactActionStatus", fn := fun _ => fun
  | [d1, d2, d3, d4] => { results := [.lit (.bool true)], args := [d1, d2, d3, d4] }
  | _ => none }
def fnExactActionStatusRow : OpenClaim := { program := "ytdgacehhaienbaagreatdoor", sum := "2dbd100f1a88d25b8dafdc816c77b77515f8cb4b96f9dc7a853f1f42185d3352", func := "loop.example/g00902/laws.FnExactActionStatus", spec := "fnExactActionStatus", inPlace := ["internal/bytealg.CountString", "internal/bytealg.IndexByteString", "internal/bytealg.IndexString"], unfollowed := true, recurses := true, named := ["unicode/utf8.first", "unicode/utf8.acceptRanges", "internal/bytealg.MaxLen"], loops := true, apart := false, laid := [("unicode/utf8.acceptRanges", laid_unicode_utf8_acceptRanges), ("unicode/utf8.first", laid_unicode_utf8_first)] }
def FnExactActionStatusSaid : Prop := fnExactActionStatusRow.holds Tryz.pinned (OpenSpec.ofChange fnExactActionStatusSpec)

/-- ITS FALSE NEIGHBOUR: 'it returns false'. Refute it at one input. -/
def fnExactActionStatusWrong : ChangeSpec := { name := "fnExactActionStatus", fn := fun _ => fun
  | [d1, d2, d3, d4] => { results := [.lit (.bool false)], args := [d1, d2, d3, d4] }
  | _ => none }
def FnExactActionStatusWrongFalsely : Prop := fnExactActionStatusRow.holds Tryz.pinned (OpenSpec.ofChange fnExactActionStatusWrong)

/-- 'laws.FnExactAdvanceState': WHATEVER THE INPUT: true; the input reads as it did. -/
def fnExactAdvanceStateSpec : ChangeSpec := { name := "fnExactAdvanceState", fn := fun _ => fun
  | [d1, d2, d3] => { results := [.lit (.bool true)], args := [d1, d2, d3] }
  | _ => none }
def fnExactAdvanceStateRow : OpenClaim := { program := "ytdgacehhaienbaagreatdoor", sum := "2dbd100f1a88d25b8dafdc816c77b77515f8cb4b96f9dc7a853f1f42185d3352", func := "loop.example/g00902/laws.FnExactAdvanceState", spec := "fnExactAdvanceState", inPlace := ["internal/bytealg.CountString", "internal/bytealg.IndexByteString", "internal/bytealg.IndexString"], unfollowed := true, recurses := true, named := ["unicode/utf8.first", "unicode/utf8.acceptRanges", "internal/bytealg.MaxLen"], loops := true, apart := false, laid := [("unicode/utf8.acceptRanges", laid_unicode_utf8_acceptRanges), ("unicode/utf8.first", laid_unicode_utf8_first)] }
def FnExactAdvanceStateSaid : Prop := fnExactAdvanceStateRow.holds Tryz.pinned (OpenSpec.ofChange fnExactAdvanceStateSpec)

/-- ITS FALSE NEIGHBOUR: 'it returns false'. Refute it at one input. -/
def fnExactAdvanceStateWrong : ChangeSpec := { name := "fnExactAdvanceState", fn := fun _ => fun
  | [d1, d2, d3] => { results := [.lit (.bool false)], args := [d1, d2, d3] }
  | _ => none }
def FnExactAdvanceStateWrongFalsely : Prop := fnExactAdvanceStateRow.holds Tryz.pinned (OpenSpec.ofChange fnExactAdvanceStateWrong)

/-- 'laws.FnExactCheckScenario': WHATEVER THE INPUT: true; the input reads as it did. -/
def fnExactCheckScenarioSpec : ChangeSpec := { name := "fnExactCheckScenario", fn := fun _ => fun
  | [d1, d2, d3, d4, d5, d6] => { results := [.lit (.bool true)], args := [d1, d2, d3, d4, d5, d6] }
  | _ => none }
def fnExactCheckScenarioRow : OpenClaim := { program := "ytdgacehhaienbaagreatdoor", sum := "2dbd100f1a88d25b8dafdc816c77b77515f8cb4b96f9dc7a853f1f42185d3352", func := "loop.example/g00902/laws.FnExactCheckScenario", spec := "fnExactCheckScenario", inPlace := ["internal/bytealg.CountString", "internal/bytealg.IndexByteString", "internal/bytealg.IndexString"], unfollowed := true, recurses := true, named := ["unicode/utf8.first", "unicode/utf8.acceptRanges", "internal/bytealg.MaxLen"], loops := true, apart := false, laid := [("unicode/utf8.acceptRanges", laid_unicode_utf8_acceptRanges), ("unicode/utf8.first", laid_unicode_utf8_first)] }
def FnExactCheckScenarioSaid : Prop := fnExactCheckScenarioRow.holds Tryz.pinned (OpenSpec.ofChange fnExactCheckScenarioSpec)

/-- ITS FALSE NEIGHBOUR: 'it returns false'. Refute it at one input. -/
def fnExactCheckScenarioWrong : ChangeSpec := { name := "fnExactCheckScenario", fn := fun _ => fun
  | [d1, d2, d3, d4, d5, d6] => { results := [.lit (.bool false)], args := [d1, d2, d3, d4, d5, d6] }
  | _ => none }
def FnExactCheckScenarioWrongFalsely : Prop := fnExactCheckScenarioRow.holds Tryz.pinned (OpenSpec.ofChange fnExactCheckScenarioWrong)

/-- 'laws.FnExactPartyReport': WHATEVER THE INPUT: true; the input reads as it did. -/
def fnExactPartyReportSpec : ChangeSpec := { name := "fnExactPartyReport", fn := fun _ => fun
  | [d1, d2, d3] => { results := [.lit (.bool true)], args := [d1, d2, d3] }
  | _ => none }
def fnExactPartyReportRow : OpenClaim := { program := "ytdgacehhaienbaagreatdoor", sum := "2dbd100f1a88d25b8dafdc816c77b77515f8cb4b96f9dc7a853f1f42185d3352", func := "loop.example/g00902/laws.FnExactPartyReport", spec := "fnExactPartyReport", inPlace := ["internal/bytealg.CountString", "internal/bytealg.IndexByteString", "internal/bytealg.IndexString"], unfollowed := true, recurses := true, named := ["unicode/utf8.first", "unicode/utf8.acceptRanges", "internal/bytealg.MaxLen", "internal/strconv.uint64pow10", "math/bits.deBruijn32tab", "math/bits.deBruijn64tab"], loops := true, apart := false, laid := [("math/bits.deBruijn32tab", laid_math_bits_deBruijn32tab), ("math/bits.deBruijn64tab", laid_math_bits_deBruijn64tab), ("internal/strconv.uint64pow10", laid_internal_strconv_uint64pow10), ("unicode/utf8.acceptRanges", laid_unicode_utf8_acceptRanges), ("unicode/utf8.first", laid_unicode_utf8_first)] }
def FnExactPartyReportSaid : Prop := fnExactPartyReportRow.holds Tryz.pinned (OpenSpec.ofChange fnExactPartyReportSpec)

/-- ITS FALSE NEIGHBOUR: 'it returns false'. Refute it at one input. -/
def fnExactPartyReportWrong : ChangeSpec := { name := "fnExactPartyReport", fn := fun _ => fun
  | [d1, d2, d3] => { results := [.lit (.bool false)], args := [d1, d2, d3] }
  | _ => none }
def FnExactPartyReportWrongFalsely : Prop := fnExactPartyReportRow.holds Tryz.pinned (OpenSpec.ofChange fnExactPartyReportWrong)

/-- 'laws.FnExactTraceContract': WHATEVER THE INPUT: true; the input reads as it did. -/
def fnExactTraceContractSpec : ChangeSpec := { name := "fnExactTraceContract", fn := fun _ => fun
  | [d1, d2, d3, d4] => { results := [.lit (.bool true)], args := [d1, d2, d3, d4] }
  | _ => none }
def fnExactTraceContractRow : OpenClaim := { program := "ytdgacehhaienbaagreatdoor", sum := "2dbd100f1a88d25b8dafdc816c77b77515f8cb4b96f9dc7a853f1f42185d3352", func := "loop.example/g00902/laws.FnExactTraceContract", spec := "fnExactTraceContract", inPlace := ["internal/bytealg.CountString", "internal/bytealg.IndexByteString", "internal/bytealg.IndexString"], unfollowed := true, recurses := true, named := ["unicode/utf8.first", "unicode/utf8.acceptRanges", "internal/bytealg.MaxLen"], loops := true, apart := false, laid := [("unicode/utf8.acceptRanges", laid_unicode_utf8_acceptRanges), ("unicode/utf8.first", laid_unicode_utf8_first)] }
def FnExactTraceContractSaid : Prop := fnExactTraceContractRow.holds Tryz.pinned (OpenSpec.ofChange fnExactTraceContractSpec)

/-- ITS FALSE NEIGHBOUR: 'it returns false'. Refute it at one input. -/
def fnExactTraceContractWrong : ChangeSpec := { name := "fnExactTraceContract", fn := fun _ => fun
  | [d1, d2, d3, d4] => { results := [.lit (.bool false)], args := [d1, d2, d3, d4] }
  | _ => none }
def FnExactTraceContractWrongFalsely : Prop := fnExactTraceContractRow.holds Tryz.pinned (OpenSpec.ofChange fnExactTraceContractWrong)

/-- 'laws.FnExactApplyEvent': WHATEVER THE INPUT: true; the input reads as it did. -/
def fnExactApplyEventSpec : ChangeSpec := { name := "fnExactApplyEvent", fn := fun _ => fun
  | [d1, d2, d3] => { results := [.lit (.bool true)], args := [d1, d2, d3] }
  | _ => none }
def fnExactApplyEventRow : OpenClaim := { program := "ytdgacehhaienbaagreatdoor", sum := "2dbd100f1a88d25b8dafdc816c77b77515f8cb4b96f9dc7a853f1f42185d3352", func := "loop.example/g00902/laws.FnExactApplyEvent", spec := "fnExactApplyEvent", inPlace := ["internal/bytealg.CountString", "internal/bytealg.IndexByteString", "internal/bytealg.IndexString"], unfollowed := true, recurses := true, named := ["unicode/utf8.first", "unicode/utf8.acceptRanges", "internal/bytealg.MaxLen"], loops := true, apart := false, laid := [("unicode/utf8.acceptRanges", laid_unicode_utf8_acceptRanges), ("unicode/utf8.first", laid_unicode_utf8_first)] }
def FnExactApplyEventSaid : Prop := fnExactApplyEventRow.holds Tryz.pinned (OpenSpec.ofChange fnExactApplyEventSpec)

/-- ITS FALSE NEIGHBOUR: 'it returns false'. Refute it at one input. -/
def fnExactApplyEventWrong : ChangeSpec := { name := "fnExactApplyEvent", fn := fun _ => fun
  | [d1, d2, d3] => { results := [.lit (.bool false)], args := [d1, d2, d3] }
  | _ => none }
def FnExactApplyEventWrongFalsely : Prop := fnExactApplyEventRow.holds Tryz.pinned (OpenSpec.ofChange fnExactApplyEventWrong)

/- THE SECOND FORM. 'bulk': how many values and letters a reading holds, each counted each time it is reached (what is shared counts as often as it is met; a slice's spare places count too). A statement '..UptoSaid' is the law's where the arguments, and the package variables that the reading takes, are together of bulk at most 1048576: NARROWER than '..Said'. Prove '..Said' where nothing that the law and all that it calls make is longer than what came in: it says more and counts as full. Else prove '..UptoSaid'. A law counts once. -/
mutual
def uptoBulk {H : Type} : DataW H → Nat
  | .lit (.string bytes) => bytes.length + 1
  | .lit _ => 1
  | .nil => 1
  | .ptr d => uptoBulk d + 1
  | .slice elems spare => uptoBulkAll elems + uptoBulkAll spare + 1
  | .agg parts => uptoBulkAll parts + 1
  | .iface _ d => uptoBulk d + 1
  | .map entries => uptoBulkEntries entries + 1
  | .held _ => 1
def uptoBulkAll {H : Type} : List (DataW H) → Nat
  | [] => 0
  | d :: r => uptoBulk d + uptoBulkAll r
def uptoBulkEntries {H : Type} : List (Lit × DataW H) → Nat
  | [] => 0
  | x :: r => uptoBulkEntry x + uptoBulkEntries r
def uptoBulkEntry {H : Type} : Lit × DataW H → Nat
  | (.string bytes, d) => bytes.length + uptoBulk d + 1
  | (_, d) => uptoBulk d + 1
 end
def uptoSmall : (H : Type) → List (DataW H) → Bool := fun _ ds => decide (uptoBulkAll ds ≤ 1048576)
def OpenSpec.upto (s : _root_.Go.ChangeSpec) : _root_.Go.OpenSpec := { _root_.Go.OpenSpec.ofChange s with cond := some uptoSmall }

/-- 'laws.FnExactStartState', WHERE WHAT IT READS IS OF BULK AT MOST 1048576: true; the input reads as it did. -/
def fnExactStartStateUptoRow : OpenClaim := { program := "ytdgacehhaienbaagreatdoor", sum := "2dbd100f1a88d25b8dafdc816c77b77515f8cb4b96f9dc7a853f1f42185d3352", func := "loop.example/g00902/laws.FnExactStartState", spec := "fnExactStartState", inPlace := ["internal/bytealg.CountString", "internal/bytealg.IndexByteString", "internal/bytealg.IndexString"], unfollowed := true, recurses := true, named := ["unicode/utf8.first", "unicode/utf8.acceptRanges", "internal/bytealg.MaxLen"], loops := true, apart := false, laid := [("unicode/utf8.acceptRanges", laid_unicode_utf8_acceptRanges), ("unicode/utf8.first", laid_unicode_utf8_first)], narrowed := true }
def FnExactStartStateUptoSaid : Prop := fnExactStartStateUptoRow.holds Tryz.pinned (OpenSpec.upto fnExactStartStateSpec)

/-- 'laws.FnExactNextDeadline', WHERE WHAT IT READS IS OF BULK AT MOST 1048576: true; the input reads as it did. -/
def fnExactNextDeadlineUptoRow : OpenClaim := { program := "ytdgacehhaienbaagreatdoor", sum := "2dbd100f1a88d25b8dafdc816c77b77515f8cb4b96f9dc7a853f1f42185d3352", func := "loop.example/g00902/laws.FnExactNextDeadline", spec := "fnExactNextDeadline", inPlace := ["internal/bytealg.CountString", "internal/bytealg.IndexByteString", "internal/bytealg.IndexString"], unfollowed := true, recurses := true, named := ["unicode/utf8.first", "unicode/utf8.acceptRanges", "internal/bytealg.MaxLen"], loops := true, apart := false, laid := [("unicode/utf8.acceptRanges", laid_unicode_utf8_acceptRanges), ("unicode/utf8.first", laid_unicode_utf8_first)], narrowed := true }
def FnExactNextDeadlineUptoSaid : Prop := fnExactNextDeadlineUptoRow.holds Tryz.pinned (OpenSpec.upto fnExactNextDeadlineSpec)

/-- 'laws.FnExactExposureOf', WHERE WHAT IT READS IS OF BULK AT MOST 1048576: true; the input reads as it did. -/
def fnExactExposureOfUptoRow : OpenClaim := { program := "ytdgacehhaienbaagreatdoor", sum := "2dbd100f1a88d25b8dafdc816c77b77515f8cb4b96f9dc7a853f1f42185d3352", func := "loop.example/g00902/laws.FnExactExposureOf", spec := "fnExactExposureOf", inPlace := ["internal/bytealg.CountString", "internal/bytealg.IndexByteString", "internal/bytealg.IndexString"], unfollowed := true, recurses := true, named := ["unicode/utf8.first", "unicode/utf8.acceptRanges", "internal/bytealg.MaxLen"], loops := true, apart := false, laid := [("unicode/utf8.acceptRanges", laid_unicode_utf8_acceptRanges), ("unicode/utf8.first", laid_unicode_utf8_first)], narrowed := true }
def FnExactExposureOfUptoSaid : Prop := fnExactExposureOfUptoRow.holds Tryz.pinned (OpenSpec.upto fnExactExposureOfSpec)

/-- 'laws.FnExactOverdueBy', WHERE WHAT IT READS IS OF BULK AT MOST 1048576: true; the input reads as it did. -/
def fnExactOverdueByUptoRow : OpenClaim := { program := "ytdgacehhaienbaagreatdoor", sum := "2dbd100f1a88d25b8dafdc816c77b77515f8cb4b96f9dc7a853f1f42185d3352", func := "loop.example/g00902/laws.FnExactOverdueBy", spec := "fnExactOverdueBy", inPlace := ["internal/bytealg.CountString", "internal/bytealg.IndexByteString", "internal/bytealg.IndexString"], unfollowed := true, recurses := true, named := ["unicode/utf8.first", "unicode/utf8.acceptRanges", "internal/bytealg.MaxLen"], loops := true, apart := false, laid := [("unicode/utf8.acceptRanges", laid_unicode_utf8_acceptRanges), ("unicode/utf8.first", laid_unicode_utf8_first)], narrowed := true }
def FnExactOverdueByUptoSaid : Prop := fnExactOverdueByUptoRow.holds Tryz.pinned (OpenSpec.upto fnExactOverdueBySpec)

/-- 'laws.FnExactClaimsOf', WHERE WHAT IT READS IS OF BULK AT MOST 1048576: true; the input reads as it did. -/
def fnExactClaimsOfUptoRow : OpenClaim := { program := "ytdgacehhaienbaagreatdoor", sum := "2dbd100f1a88d25b8dafdc816c77b77515f8cb4b96f9dc7a853f1f42185d3352", func := "loop.example/g00902/laws.FnExactClaimsOf", spec := "fnExactClaimsOf", inPlace := ["internal/bytealg.CountString", "internal/bytealg.IndexByteString", "internal/bytealg.IndexString"], unfollowed := true, recurses := true, named := ["unicode/utf8.first", "unicode/utf8.acceptRanges", "internal/bytealg.MaxLen"], loops := true, apart := false, laid := [("unicode/utf8.acceptRanges", laid_unicode_utf8_acceptRanges), ("unicode/utf8.first", laid_unicode_utf8_first)], narrowed := true }
def FnExactClaimsOfUptoSaid : Prop := fnExactClaimsOfUptoRow.holds Tryz.pinned (OpenSpec.upto fnExactClaimsOfSpec)

/-- 'laws.FnExactDuesOf', WHERE WHAT IT READS IS OF BULK AT MOST 1048576: true; the input reads as it did. -/
def fnExactDuesOfUptoRow : OpenClaim := { program := "ytdgacehhaienbaagreatdoor", sum := "2dbd100f1a88d25b8dafdc816c77b77515f8cb4b96f9dc7a853f1f42185d3352", func := "loop.example/g00902/laws.FnExactDuesOf", spec := "fnExactDuesOf", inPlace := ["internal/bytealg.CountString", "internal/bytealg.IndexByteString", "internal/bytealg.IndexString"], unfollowed := true, recurses := true, named := ["unicode/utf8.first", "unicode/utf8.acceptRanges", "internal/bytealg.MaxLen"], loops := true, apart := false, laid := [("unicode/utf8.acceptRanges", laid_unicode_utf8_acceptRanges), ("unicode/utf8.first", laid_unicode_utf8_first)], narrowed := true }
def FnExactDuesOfUptoSaid : Prop := fnExactDuesOfUptoRow.holds Tryz.pinned (OpenSpec.upto fnExactDuesOfSpec)

/-- 'laws.FnExactActionStatus', WHERE WHAT IT READS IS OF BULK AT MOST 1048576: true; the input reads as it did. -/
def fnExactActionStatusUptoRow : OpenClaim := { program := "ytdgacehhaienbaagreatdoor", sum := "2dbd100f1a88d25b8dafdc816c77b77515f8cb4b96f9dc7a853f1f42185d3352", func := "loop.example/g00902/laws.FnExactActionStatus", spec := "fnExactActionStatus", inPlace := ["internal/bytealg.CountString", "internal/bytealg.IndexByteString", "internal/bytealg.IndexString"], unfollowed := true, recurses := true, named := ["unicode/utf8.first", "unicode/utf8.acceptRanges", "internal/bytealg.MaxLen"], loops := true, apart := false, laid := [("unicode/utf8.acceptRanges", laid_unicode_utf8_acceptRanges), ("unicode/utf8.first", laid_unicode_utf8_first)], narrowed := true }
def FnExactActionStatusUptoSaid : Prop := fnExactActionStatusUptoRow.holds Tryz.pinned (OpenSpec.upto fnExactActionStatusSpec)

/-- 'laws.FnExactAdvanceState', WHERE WHAT IT READS IS OF BULK AT MOST 1048576: true; the input reads as it did. -/
def fnExactAdvanceStateUptoRow : OpenClaim := { program := "ytdgacehhaienbaagreatdoor", sum := "2dbd100f1a88d25b8dafdc816c77b77515f8cb4b96f9dc7a853f1f42185d3352", func := "loop.example/g00902/laws.FnExactAdvanceState", spec := "fnExactAdvanceState", inPlace := ["internal/bytealg.CountString", "internal/bytealg.IndexByteString", "internal/bytealg.IndexString"], unfollowed := true, recurses := true, named := ["unicode/utf8.first", "unicode/utf8.acceptRanges", "internal/bytealg.MaxLen"], loops := true, apart := false, laid := [("unicode/utf8.acceptRanges", laid_unicode_utf8_acceptRanges), ("unicode/utf8.first", laid_unicode_utf8_first)], narrowed := true }
def FnExactAdvanceStateUptoSaid : Prop := fnExactAdvanceStateUptoRow.holds Tryz.pinned (OpenSpec.upto fnExactAdvanceStateSpec)

/-- 'laws.FnExactCheckScenario', WHERE WHAT IT READS IS OF BULK AT MOST 1048576: true; the input reads as it did. -/
def fnExactCheckScenarioUptoRow : OpenClaim := { program := "ytdgacehhaienbaagreatdoor", sum := "2dbd100f1a88d25b8dafdc816c77b77515f8cb4b96f9dc7a853f1f42185d3352", func := "loop.example/g00902/laws.FnExactCheckScenario", spec := "fnExactCheckScenario", inPlace := ["internal/bytealg.CountString", "internal/bytealg.IndexByteString", "internal/bytealg.IndexString"], unfollowed := true, recurses := true, named := ["unicode/utf8.first", "unicode/utf8.acceptRanges", "internal/bytealg.MaxLen"], loops := true, apart := false, laid := [("unicode/utf8.acceptRanges", laid_unicode_utf8_acceptRanges), ("unicode/utf8.first", laid_unicode_utf8_first)], narrowed := true }
def FnExactCheckScenarioUptoSaid : Prop := fnExactCheckScenarioUptoRow.holds Tryz.pinned (OpenSpec.upto fnExactCheckScenarioSpec)

/-- 'laws.FnExactPartyReport', WHERE WHAT IT READS IS OF BULK AT MOST 1048576: true; the input reads as it did. -/
def fnExactPartyReportUptoRow : OpenClaim := { program := "ytdgacehhaienbaagreatdoor", sum := "2dbd100f1a88d25b8dafdc816c77b77515f8cb4b96f9dc7a853f1f42185d3352", func := "loop.example/g00902/laws.FnExactPartyReport", spec := "fnExactPartyReport", inPlace := ["internal/bytealg.CountString", "internal/bytealg.IndexByteString", "internal/bytealg.IndexString"], unfollowed := true, recurses := true, named := ["unicode/utf8.first", "unicode/utf8.acceptRanges", "internal/bytealg.MaxLen", "internal/strconv.uint64pow10", "math/bits.deBruijn32tab", "math/bits.deBruijn64tab"], loops := true, apart := false, laid := [("math/bits.deBruijn32tab", laid_math_bits_deBruijn32tab), ("math/bits.deBruijn64tab", laid_math_bits_deBruijn64tab), ("internal/strconv.uint64pow10", laid_internal_strconv_uint64pow10), ("unicode/utf8.acceptRanges", laid_unicode_utf8_acceptRanges), ("unicode/utf8.first", laid_unicode_utf8_first)], narrowed := true }
def FnExactPartyReportUptoSaid : Prop := fnExactPartyReportUptoRow.holds Tryz.pinned (OpenSpec.upto fnExactPartyReportSpec)

/-- 'laws.FnExactTraceContract', WHERE WHAT IT READS IS OF BULK AT MOST 1048576: true; the input reads as it did. -/
def fnExactTraceContractUptoRow : OpenClaim := { program := "ytdgacehhaienbaagreatdoor", sum := "2dbd100f1a88d25b8dafdc816c77b77515f8cb4b96f9dc7a853f1f42185d3352", func := "loop.example/g00902/laws.FnExactTraceContract", spec := "fnExactTraceContract", inPlace := ["internal/bytealg.CountString", "internal/bytealg.IndexByteString", "internal/bytealg.IndexString"], unfollowed := true, recurses := true, named := ["unicode/utf8.first", "unicode/utf8.acceptRanges", "internal/bytealg.MaxLen"], loops := true, apart := false, laid := [("unicode/utf8.acceptRanges", laid_unicode_utf8_acceptRanges), ("unicode/utf8.first", laid_unicode_utf8_first)], narrowed := true }
def FnExactTraceContractUptoSaid : Prop := fnExactTraceContractUptoRow.holds Tryz.pinned (OpenSpec.upto fnExactTraceContractSpec)

/-- 'laws.FnExactApplyEvent', WHERE WHAT IT READS IS OF BULK AT MOST 1048576: true; the input reads as it did. -/
def fnExactApplyEventUptoRow : OpenClaim := { program := "ytdgacehhaienbaagreatdoor", sum := "2dbd100f1a88d25b8dafdc816c77b77515f8cb4b96f9dc7a853f1f42185d3352", func := "loop.example/g00902/laws.FnExactApplyEvent", spec := "fnExactApplyEvent", inPlace := ["internal/bytealg.CountString", "internal/bytealg.IndexByteString", "internal/bytealg.IndexString"], unfollowed := true, recurses := true, named := ["unicode/utf8.first", "unicode/utf8.acceptRanges", "internal/bytealg.MaxLen"], loops := true, apart := false, laid := [("unicode/utf8.acceptRanges", laid_unicode_utf8_acceptRanges), ("unicode/utf8.first", laid_unicode_utf8_first)], narrowed := true }
def FnExactApplyEventUptoSaid : Prop := fnExactApplyEventUptoRow.holds Tryz.pinned (OpenSpec.upto fnExactApplyEventSpec)

end Rows
end Go.Proofs.YtdgacehhaienbaaGreatDoor
