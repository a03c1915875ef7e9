/-
  NARROWER THAN 'FOR EVERY INPUT', by the rows' own cells (each row's printed sentence says how): FnExactIdlePermissions: loops, laid · FnExactPowerFor: loops, laid · FnExactIsForbidden: loops, laid · FnExactExposureOf: loops, laid · FnExactDuesOf: loops, laid · FnExactClaimsOf: loops, laid · FnExactOverdueBy: loops, laid · FnExactActionStatus: loops, laid · FnExactPartyReport: loops, laid.
  DERIVED. THE GIVEN ROWS OF THIS SEAT. 9 by the template 'for every input the law returns true; each argument reads behind the call as it read before'; 0 by the template 'total and deterministic' (their statements: YtcfddlacocdpoaaGreatDoorTotals.lean).
  GIVEN WITH THE SEED: the statements are not yours to turn. If you find one false, say at which input.
  Laid BY PROGRAM, IN A SANDBOX (cutbox-rows.mjs): the forced cells as the released guide's own fill.sh prints them over the translation cda1c2a963091742… (all of the seat's roots in one cut). By AI agents, Wed Nov 11 2026. No macro, syntax, notation, axiom, sorry.
-/
import Derived.Test.YtcfddlacocdpoaaGreatDoorChecked
import GoSem.PinnedTables
import GoSem.Claim
import GoSem.ClaimJoined
import GoSem.ClaimMapViews
import Derived.JoinedTies
import Derived.KernelRfl
namespace Go.Proofs.YtcfddlacocdpoaaGreatDoor
/- THE CELL 'sum', in the pinned program and in every row, IS THE sha256 OF THE DUMP (.gsa) THAT YtcfddlacocdpoaaGreatDoorProg.lean LOADS. Nothing in Lean hashes anything: it is a label: what it is worth is what the hold of that sum in a sandbox is worth. -/
noncomputable def Tryz.pinned : Pinned := { name := "ytcfddlacocdpoaagreatdoor", sum := "cda1c2a9630917428a8f605cdcaddb1973e9b198f42978a0f599a19753f2f4f8", checked := Tryz.checked }
namespace Rows
def none {H : Type} : Left H := { results := [], args := [] }

/- WHAT THE LISTED PACKAGE-LEVEL VARIABLES READ AS WHEN THE CALL BEGINS. Each datum BY PROGRAM (the guide's laid-datum.mjs) off the statement by which the dump's own 'gosem.cut.vars' lays the variable. In a bare row this is a premise. The card (YtcfddlacocdpoaaGreatDoorCards.lean) ties it to the program's text. -/
def laid_unicode_utf8_acceptRanges {H : Type} : DataW H := .agg [.agg [.lit (.int .u8 128), .lit (.int .u8 191)], .agg [.lit (.int .u8 160), .lit (.int .u8 191)], .agg [.lit (.int .u8 128), .lit (.int .u8 159)], .agg [.lit (.int .u8 144), .lit (.int .u8 191)], .agg [.lit (.int .u8 128), .lit (.int .u8 143)], .agg [.lit (.int .u8 0), .lit (.int .u8 0)], .agg [.lit (.int .u8 0), .lit (.int .u8 0)], .agg [.lit (.int .u8 0), .lit (.int .u8 0)], .agg [.lit (.int .u8 0), .lit (.int .u8 0)], .agg [.lit (.int .u8 0), .lit (.int .u8 0)], .agg [.lit (.int .u8 0), .lit (.int .u8 0)], .agg [.lit (.int .u8 0), .lit (.int .u8 0)], .agg [.lit (.int .u8 0), .lit (.int .u8 0)], .agg [.lit (.int .u8 0), .lit (.int .u8 0)], .agg [.lit (.int .u8 0), .lit (.int .u8 0)], .agg [.lit (.int .u8 0), .lit (.int .u8 0)]]
/-- One of Go's own tables, pinned by name: the form's constant. -/
def laid_unicode_utf8_first : DataW Unit := Go.Pinned.utf8First
def laid_math_bits_deBruijn32tab {H : Type} : DataW H := .agg [.lit (.int .u8 0), .lit (.int .u8 1), .lit (.int .u8 28), .lit (.int .u8 2), .lit (.int .u8 29), .lit (.int .u8 14), .lit (.int .u8 24), .lit (.int .u8 3), .lit (.int .u8 30), .lit (.int .u8 22), .lit (.int .u8 20), .lit (.int .u8 15), .lit (.int .u8 25), .lit (.int .u8 17), .lit (.int .u8 4), .lit (.int .u8 8), .lit (.int .u8 31), .lit (.int .u8 27), .lit (.int .u8 13), .lit (.int .u8 23), .lit (.int .u8 21), .lit (.int .u8 19), .lit (.int .u8 16), .lit (.int .u8 7), .lit (.int .u8 26), .lit (.int .u8 12), .lit (.int .u8 18), .lit (.int .u8 6), .lit (.int .u8 11), .lit (.int .u8 5), .lit (.int .u8 10), .lit (.int .u8 9)]
def laid_math_bits_deBruijn64tab {H : Type} : DataW H := .agg [.lit (.int .u8 0), .lit (.int .u8 1), .lit (.int .u8 56), .lit (.int .u8 2), .lit (.int .u8 57), .lit (.int .u8 49), .lit (.int .u8 28), .lit (.int .u8 3), .lit (.int .u8 61), .lit (.int .u8 58), .lit (.int .u8 42), .lit (.int .u8 50), .lit (.int .u8 38), .lit (.int .u8 29), .lit (.int .u8 17), .lit (.int .u8 4), .lit (.int .u8 62), .lit (.int .u8 47), .lit (.int .u8 59), .lit (.int .u8 36), .lit (.int .u8 45), .lit (.int .u8 43), .lit (.int .u8 51), .lit (.int .u8 22), .lit (.int .u8 53), .lit (.int .u8 39), .lit (.int .u8 33), .lit (.int .u8 30), .lit (.int .u8 24), .lit (.int .u8 18), .lit (.int .u8 12), .lit (.int .u8 5), .lit (.int .u8 63), .lit (.int .u8 55), .lit (.int .u8 48), .lit (.int .u8 27), .lit (.int .u8 60), .lit (.int .u8 41), .lit (.int .u8 37), .lit (.int .u8 16), .lit (.int .u8 46), .lit (.int .u8 35), .lit (.int .u8 44), .lit (.int .u8 21), .lit (.int .u8 52), .lit (.int .u8 32), .lit (.int .u8 23), .lit (.int .u8 11), .lit (.int .u8 54), .lit (.int .u8 26), .lit (.int .u8 40), .lit (.int .u8 15), .lit (.int .u8 34), .lit (.int .u8 20), .lit (.int .u8 31), .lit (.int .u8 10), .lit (.int .u8 25), .lit (.int .u8 14), .lit (.int .u8 19), .lit (.int .u8 9), .lit (.int .u8 13), .lit (.int .u8 8), .lit (.int .u8 7), .lit (.int .u8 6)]
def laid_internal_strconv_uint64pow10 {H : Type} : DataW H := .agg [.lit (.int .u64 1), .lit (.int .u64 10), .lit (.int .u64 100), .lit (.int .u64 1000), .lit (.int .u64 10000), .lit (.int .u64 100000), .lit (.int .u64 1000000), .lit (.int .u64 10000000), .lit (.int .u64 100000000), .lit (.int .u64 1000000000), .lit (.int .u64 10000000000), .lit (.int .u64 100000000000), .lit (.int .u64 1000000000000), .lit (.int .u64 10000000000000), .lit (.int .u64 100000000000000), .lit (.int .u64 1000000000000000), .lit (.int .u64 10000000000000000), .lit (.int .u64 100000000000000000), .lit (.int .u64 1000000000000000000), .lit (.int .u64 10000000000000000000)]

/-- 'laws.FnExactIdlePermissions': WHATEVER THE INPUT: true; the input reads as it did. -/
def fnExactIdlePermissionsSpec : ChangeSpec := { name := "fnExactIdlePermissions", fn := fun _ => fun
  | [d] => { results := [.lit (.bool true)], args := [d] }
  | _ => none }
def fnExactIdlePermissionsRow : OpenClaim := { program := "ytcfddlacocdpoaagreatdoor", sum := "cda1c2a9630917428a8f605cdcaddb1973e9b198f42978a0f599a19753f2f4f8", func := "loop.example/g00902/laws.FnExactIdlePermissions", spec := "fnExactIdlePermissions", inPlace := ["internal/bytealg.CountString", "internal/bytealg.IndexByteString", "internal/bytealg.IndexString"], unfollowed := true, recurses := true, named := ["unicode/utf8.first", "unicode/utf8.acceptRanges", "internal/bytealg.MaxLen"], loops := true, apart := false, laid := [("unicode/utf8.acceptRanges", laid_unicode_utf8_acceptRanges), ("unicode/utf8.first", laid_unicode_utf8_first)] }
def FnExactIdlePermissionsSaid : Prop := fnExactIdlePermissionsRow.holds Tryz.pinned (OpenSpec.ofChange fnExactIdlePermissionsSpec)

/-- ITS FALSE NEIGHBOUR: 'it returns false'. Refute it at one input. -/
def fnExactIdlePermissionsWrong : ChangeSpec := { name := "fnExactIdlePermissions", fn := fun _ => fun
  | [d] => { results := [.lit (.bool false)], args := [d] }
  | _ => none }
def FnExactIdlePermissionsWrongFalsely : Prop := fnExactIdlePermissionsRow.holds Tryz.pinned (OpenSpec.ofChange fnExactIdlePermissionsWrong)

/-- 'laws.FnExactPowerFor': WHATEVER THE INPUT: true; the input reads as it did. -/
def fnExactPowerForSpec : ChangeSpec := { name := "fnExactPowerFor", fn := fun _ => fun
  | [d1, d2, d3, d4] => { results := [.lit (.bool true)], args := [d1, d2, d3, d4] }
  | _ => none }
def fnExactPowerForRow : OpenClaim := { program := "ytcfddlacocdpoaagreatdoor", sum := "cda1c2a9630917428a8f605cdcaddb1973e9b198f42978a0f599a19753f2f4f8", func := "loop.example/g00902/laws.FnExactPowerFor", spec := "fnExactPowerFor", inPlace := ["internal/bytealg.CountString", "internal/bytealg.IndexByteString", "internal/bytealg.IndexString"], unfollowed := true, recurses := true, named := ["unicode/utf8.first", "unicode/utf8.acceptRanges", "internal/bytealg.MaxLen"], loops := true, apart := false, laid := [("unicode/utf8.acceptRanges", laid_unicode_utf8_acceptRanges), ("unicode/utf8.first", laid_unicode_utf8_first)] }
def FnExactPowerForSaid : Prop := fnExactPowerForRow.holds Tryz.pinned (OpenSpec.ofChange fnExactPowerForSpec)

/-- ITS FALSE NEIGHBOUR: 'it returns false'. Refute it at one input. -/
def fnExactPowerForWrong : ChangeSpec := { name := "fnExactPowerFor", fn := fun _ => fun
  | [d1, d2, d3, d4] => { results := [.lit (.bool false)], args := [d1, d2, d3, d4] }
  | _ => none }
def FnExactPowerForWrongFalsely : Prop := fnExactPowerForRow.holds Tryz.pinned (OpenSpec.ofChange fnExactPowerForWrong)

/-- 'laws.FnExactIsForbidden': WHATEVER THE INPUT: true; the input reads as it did. -/
def fnExactIsForbiddenSpec : ChangeSpec := { name := "fnExactIsForbidden", fn := fun _ => fun
  | [d1, d2, d3, d4] => { results := [.lit (.bool true)], args := [d1, d2, d3, d4] }
  | _ => none }
def fnExactIsForbiddenRow : OpenClaim := { program := "ytcfddlacocdpoaagreatdoor", sum := "cda1c2a9630917428a8f605cdcaddb1973e9b198f42978a0f599a19753f2f4f8", func := "loop.example/g00902/laws.FnExactIsForbidden", spec := "fnExactIsForbidden", inPlace := ["internal/bytealg.CountString", "internal/bytealg.IndexByteString", "internal/bytealg.IndexString"], unfollowed := true, recurses := true, named := ["unicode/utf8.first", "unicode/utf8.acceptRanges", "internal/bytealg.MaxLen"], loops := true, apart := false, laid := [("unicode/utf8.acceptRanges", laid_unicode_utf8_acceptRanges), ("unicode/utf8.first", laid_unicode_utf8_first)] }
def FnExactIsForbiddenSaid : Prop := fnExactIsForbiddenRow.holds Tryz.pinned (OpenSpec.ofChange fnExactIsForbiddenSpec)

/-- ITS FALSE NEIGHBOUR: 'it returns false'. Refute it at one input. -/
def fnExactIsForbiddenWrong : ChangeSpec := { name := "fnExactIsForbidden", fn := fun _ => fun
  | [d1, d2, d3, d4] => { results := [.lit (.bool false)], args := [d1, d2, d3, d4] }
  | _ => none }
def FnExactIsForbiddenWrongFalsely : Prop := fnExactIsForbiddenRow.holds Tryz.pinned (OpenSpec.ofChange fnExactIsForbiddenWrong)

/-- 'laws.FnExactExposureOf': WHATEVER THE INPUT: true; the input reads as it did. -/
def fnExactExposureOfSpec : ChangeSpec := { name := "fnExactExposureOf", fn := fun _ => fun
  | [d1, d2, d3, d4] => { results := [.lit (.bool true)], args := [d1, d2, d3, d4] }
  | _ => none }
def fnExactExposureOfRow : OpenClaim := { program := "ytcfddlacocdpoaagreatdoor", sum := "cda1c2a9630917428a8f605cdcaddb1973e9b198f42978a0f599a19753f2f4f8", func := "loop.example/g00902/laws.FnExactExposureOf", spec := "fnExactExposureOf", inPlace := ["internal/bytealg.CountString", "internal/bytealg.IndexByteString", "internal/bytealg.IndexString"], unfollowed := true, recurses := true, named := ["unicode/utf8.first", "unicode/utf8.acceptRanges", "internal/bytealg.MaxLen"], loops := true, apart := false, laid := [("unicode/utf8.acceptRanges", laid_unicode_utf8_acceptRanges), ("unicode/utf8.first", laid_unicode_utf8_first)] }
def FnExactExposureOfSaid : Prop := fnExactExposureOfRow.holds Tryz.pinned (OpenSpec.ofChange fnExactExposureOfSpec)

/-- ITS FALSE NEIGHBOUR: 'it returns false'. Refute it at one input. -/
def fnExactExposureOfWrong : ChangeSpec := { name := "fnExactExposureOf", fn := fun _ => fun
  | [d1, d2, d3, d4] => { results := [.lit (.bool false)], args := [d1, d2, d3, d4] }
  | _ => none }
def FnExactExposureOfWrongFalsely : Prop := fnExactExposureOfRow.holds Tryz.pinned (OpenSpec.ofChange fnExactExposureOfWrong)

/-- 'laws.FnExactDuesOf': WHATEVER THE INPUT: true; the input reads as it did. -/
def fnExactDuesOfSpec : ChangeSpec := { name := "fnExactDuesOf", fn := fun _ => fun
  | [d1, d2, d3] => { results := [.lit (.bool true)], args := [d1, d2, d3] }
  | _ => none }
def fnExactDuesOfRow : OpenClaim := { program := "ytcfddlacocdpoaagreatdoor", sum := "cda1c2a9630917428a8f605cdcaddb1973e9b198f42978a0f599a19753f2f4f8", func := "loop.example/g00902/laws.FnExactDuesOf", spec := "fnExactDuesOf", inPlace := ["internal/bytealg.CountString", "internal/bytealg.IndexByteString", "internal/bytealg.IndexString"], unfollowed := true, recurses := true, named := ["unicode/utf8.first", "unicode/utf8.acceptRanges", "internal/bytealg.MaxLen"], loops := true, apart := false, laid := [("unicode/utf8.acceptRanges", laid_unicode_utf8_acceptRanges), ("unicode/utf8.first", laid_unicode_utf8_first)] }
def FnExactDuesOfSaid : Prop := fnExactDuesOfRow.holds Tryz.pinned (OpenSpec.ofChange fnExactDuesOfSpec)

/-- ITS FALSE NEIGHBOUR: 'it returns false'. Refute it at one input. -/
def fnExactDuesOfWrong : ChangeSpec := { name := "fnExactDuesOf", fn := fun _ => fun
  | [d1, d2, d3] => { results := [.lit (.bool false)], args := [d1, d2, d3] }
  | _ => none }
def FnExactDuesOfWrongFalsely : Prop := fnExactDuesOfRow.holds Tryz.pinned (OpenSpec.ofChange fnExactDuesOfWrong)

/-- 'laws.FnExactClaimsOf': WHATEVER THE INPUT: true; the input reads as it did. -/
def fnExactClaimsOfSpec : ChangeSpec := { name := "fnExactClaimsOf", fn := fun _ => fun
  | [d1, d2, d3] => { results := [.lit (.bool true)], args := [d1, d2, d3] }
  | _ => none }
def fnExactClaimsOfRow : OpenClaim := { program := "ytcfddlacocdpoaagreatdoor", sum := "cda1c2a9630917428a8f605cdcaddb1973e9b198f42978a0f599a19753f2f4f8", func := "loop.example/g00902/laws.FnExactClaimsOf", spec := "fnExactClaimsOf", inPlace := ["internal/bytealg.CountString", "internal/bytealg.IndexByteString", "internal/bytealg.IndexString"], unfollowed := true, recurses := true, named := ["unicode/utf8.first", "unicode/utf8.acceptRanges", "internal/bytealg.MaxLen"], loops := true, apart := false, laid := [("unicode/utf8.acceptRanges", laid_unicode_utf8_acceptRanges), ("unicode/utf8.first", laid_unicode_utf8_first)] }
def FnExactClaimsOfSaid : Prop := fnExactClaimsOfRow.holds Tryz.pinned (OpenSpec.ofChange fnExactClaimsOfSpec)

/-- ITS FALSE NEIGHBOUR: 'it returns false'. Refute it at one input. -/
def fnExactClaimsOfWrong : ChangeSpec := { name := "fnExactClaimsOf", fn := fun _ => fun
  | [d1, d2, d3] => { results := [.lit (.bool false)], args := [d1, d2, d3] }
  | _ => none }
def FnExactClaimsOfWrongFalsely : Prop := fnExactClaimsOfRow.holds Tryz.pinned (OpenSpec.ofChange fnExactClaimsOfWrong)

/-- 'laws.FnExactOverdueBy': WHATEVER THE INPUT: true; the input reads as it did. -/
def fnExactOverdueBySpec : ChangeSpec := { name := "fnExactOverdueBy", fn := fun _ => fun
  | [d1, d2, d3] => { results := [.lit (.bool true)], args := [d1, d2, d3] }
  | _ => none }
def fnExactOverdueByRow : OpenClaim := { program := "ytcfddlacocdpoaagreatdoor", sum := "cda1c2a9630917428a8f605cdcaddb1973e9b198f42978a0f599a19753f2f4f8", func := "loop.example/g00902/laws.FnExactOverdueBy", spec := "fnExactOverdueBy", inPlace := ["internal/bytealg.CountString", "internal/bytealg.IndexByteString", "internal/bytealg.IndexString"], unfollowed := true, recurses := true, named := ["unicode/utf8.first", "unicode/utf8.acceptRanges", "internal/bytealg.MaxLen"], loops := true, apart := false, laid := [("unicode/utf8.acceptRanges", laid_unicode_utf8_acceptRanges), ("unicode/utf8.first", laid_unicode_utf8_first)] }
def FnExactOverdueBySaid : Prop := fnExactOverdueByRow.holds Tryz.pinned (OpenSpec.ofChange fnExactOverdueBySpec)

/-- ITS FALSE NEIGHBOUR: 'it returns false'. Refute it at one input. -/
def fnExactOverdueByWrong : ChangeSpec := { name := "fnExactOverdueBy", fn := fun _ => fun
  | [d1, d2, d3] => { results := [.lit (.bool false)], args := [d1, d2, d3] }
  | _ => none }
def FnExactOverdueByWrongFalsely : Prop := fnExactOverdueByRow.holds Tryz.pinned (OpenSpec.ofChange fnExactOverdueByWrong)

/-- 'laws.FnExactActionStatus': WHATEVER THE INPUT: true; the input reads as it did. -/
def fnExactActionStatusSpec : ChangeSpec := { name := "fnExactActionStatus", fn := fun _ => fun
  | [d1, d2, d3, d4] => { results := [.lit (.bool true)], args := [d1, d2, d3, d4] }
  | _ => none }
def fnExactActionStatusRow : OpenClaim := { program := "ytcfddlacocdpoaagreatdoor", sum := "cda1c2a9630917428a8f605cdcaddb1973e9b198f42978a0f599a19753f2f4f8", func := "loop.example/g00902/laws.FnExactActionStatus", spec := "fnExactActionStatus", inPlace := ["internal/bytealg.CountString", "internal/bytealg.IndexByteString", "internal/bytealg.IndexString"], unfollowed := true, recurses := true, named := ["unicode/utf8.first", "unicode/utf8.acceptRanges", "internal/bytealg.MaxLen"], loops := true, apart := false, laid := [("unicode/utf8.acceptRanges", laid_unicode_utf8_acceptRanges), ("unicode/utf8.first", laid_unicode_utf8_first)] }
def FnExactActionStatusSaid : Prop := fnExactActionStatusRow.holds Tryz.pinned (OpenSpec.ofChange fnExactActionStatusSpec)

/-- ITS FALSE NEIGHBOUR: 'it returns false'. Refute it at one input. -/
def fnExactActionStatusWrong : ChangeSpec := { name := "fnExactActionStatus", fn := fun _ => fun
  | [d1, d2, d3, d4] => { results := [.lit (.bool false)], args := [d1, d2, d3, d4] }
  | _ => none }
def FnExactActionStatusWrongFalsely : Prop := fnExactActionStatusRow.holds Tryz.pinned (OpenSpec.ofChange fnExactActionStatusWrong)

/-- 'laws.FnExactPartyReport': WHATEVER THE INPUT: true; the input reads as it did. -/
def fnExactPartyReportSpec : ChangeSpec := { name := "fnExactPartyReport", fn := fun _ => fun
  | [d1, d2, d3] => { results := [.lit (.bool true)], args := [d1, d2, d3] }
  | _ => none }
def fnExactPartyReportRow : OpenClaim := { program := "ytcfddlacocdpoaagreatdoor", sum := "cda1c2a9630917428a8f605cdcaddb1973e9b198f42978a0f599a19753f2f4f8", func := "loop.example/g00902/laws.FnExactPartyReport", spec := "fnExactPartyReport", inPlace := ["internal/bytealg.CountString", "internal/bytealg.IndexByteString", "internal/bytealg.IndexString"], unfollowed := true, recurses := true, named := ["unicode/utf8.first", "unicode/utf8.acceptRanges", "internal/bytealg.MaxLen", "internal/strconv.uint64pow10", "math/bits.deBruijn32tab", "math/bits.deBruijn64tab"], loops := true, apart := false, laid := [("math/bits.deBruijn32tab", laid_math_bits_deBruijn32tab), ("math/bits.deBruijn64tab", laid_math_bits_deBruijn64tab), ("internal/strconv.uint64pow10", laid_internal_strconv_uint64pow10), ("unicode/utf8.acceptRanges", laid_unicode_utf8_acceptRanges), ("unicode/utf8.first", laid_unicode_utf8_first)] }
def FnExactPartyReportSaid : Prop := fnExactPartyReportRow.holds Tryz.pinned (OpenSpec.ofChange fnExactPartyReportSpec)

/-- ITS FALSE NEIGHBOUR: 'it returns false'. Refute it at one input. -/
def fnExactPartyReportWrong : ChangeSpec := { name := "fnExactPartyReport", fn := fun _ => fun
  | [d1, d2, d3] => { results := [.lit (.bool false)], args := [d1, d2, d3] }
  | _ => none }
def FnExactPartyReportWrongFalsely : Prop := fnExactPartyReportRow.holds Tryz.pinned (OpenSpec.ofChange fnExactPartyReportWrong)

/- THE SECOND FORM. 'bulk': how many values and letters a reading holds, each counted each time it is reached (what is shared counts as often as it is met; a slice's spare places count too). A statement '..UptoSaid' is the law's where the arguments, and the package variables that the reading takes, are together of bulk at most 1048576: NARROWER than '..Said'. Prove '..Said' where nothing that the law and all that it calls make is longer than what came in: it says more and counts as full. Else prove '..UptoSaid'. A law counts once. -/
mutual
def uptoBulk {H : Type} : DataW H → Nat
  | .lit (.string bytes) => bytes.length + 1
  | .lit _ => 1
  | .nil => 1
  | .ptr d => uptoBulk d + 1
  | .slice elems spare => uptoBulkAll elems + uptoBulkAll spare + 1
  | .agg parts => uptoBulkAll parts + 1
  | .iface _ d => uptoBulk d + 1
  | .map entries => uptoBulkEntries entries + 1
  | .held _ => 1
def uptoBulkAll {H : Type} : List (DataW H) → Nat
  | [] => 0
  | d :: r => uptoBulk d + uptoBulkAll r
def uptoBulkEntries {H : Type} : List (Lit × DataW H) → Nat
  | [] => 0
  | x :: r => uptoBulkEntry x + uptoBulkEntries r
def uptoBulkEntry {H : Type} : Lit × DataW H → Nat
  | (.string bytes, d) => bytes.length + uptoBulk d + 1
  | (_, d) => uptoBulk d + 1
 end
def uptoSmall : (H : Type) → List (DataW H) → Bool := fun _ ds => decide (uptoBulkAll ds ≤ 1048576)
def OpenSpec.upto (s : _root_.Go.ChangeSpec) : _root_.Go.OpenSpec := { _root_.Go.OpenSpec.ofChange s with cond := some uptoSmall }

/-- 'laws.FnExactIdlePermissions', WHERE WHAT IT READS IS OF BULK AT MOST 1048576: true; the input reads as it did. -/
def fnExactIdlePermissionsUptoRow : OpenClaim := { program := "ytcfddlacocdpoaagreatdoor", sum := "cda1c2a9630917428a8f605cdcaddb1973e9b198f42978a0f599a19753f2f4f8", func := "loop.example/g00902/laws.FnExactIdlePermissions", spec := "fnExactIdlePermissions", inPlace := ["internal/bytealg.CountString", "internal/bytealg.IndexByteString", "internal/bytealg.IndexString"], unfollowed := true, recurses := true, named := ["unicode/utf8.first", "unicode/utf8.acceptRanges", "internal/bytealg.MaxLen"], loops := true, apart := false, laid := [("unicode/utf8.acceptRanges", laid_unicode_utf8_acceptRanges), ("unicode/utf8.first", laid_unicode_utf8_first)], narrowed := true }
def FnExactIdlePermissionsUptoSaid : Prop := fnExactIdlePermissionsUptoRow.holds Tryz.pinned (OpenSpec.upto fnExactIdlePermissionsSpec)

/-- 'laws.FnExactPowerFor', WHERE WHAT IT READS IS OF BULK AT MOST 1048576: true; the input reads as it did. -/
def fnExactPowerForUptoRow : OpenClaim := { program := "ytcfddlacocdpoaagreatdoor", sum := "cda1c2a9630917428a8f605cdcaddb1973e9b198f42978a0f599a19753f2f4f8", func := "loop.example/g00902/laws.FnExactPowerFor", spec := "fnExactPowerFor", inPlace := ["internal/bytealg.CountString", "internal/bytealg.IndexByteString", "internal/bytealg.IndexString"], unfollowed := true, recurses := true, named := ["unicode/utf8.first", "unicode/utf8.acceptRanges", "internal/bytealg.MaxLen"], loops := true, apart := false, laid := [("unicode/utf8.acceptRanges", laid_unicode_utf8_acceptRanges), ("unicode/utf8.first", laid_unicode_utf8_first)], narrowed := true }
def FnExactPowerForUptoSaid : Prop := fnExactPowerForUptoRow.holds Tryz.pinned (OpenSpec.upto fnExactPowerForSpec)

/-- 'laws.FnExactIsForbidden', WHERE WHAT IT READS IS OF BULK AT MOST 1048576: true; the input reads as it did. -/
def fnExactIsForbiddenUptoRow : OpenClaim := { program := "ytcfddlacocdpoaagreatdoor", sum := "cda1c2a9630917428a8f605cdcaddb1973e9b198f42978a0f599a19753f2f4f8", func := "loop.example/g00902/laws.FnExactIsForbidden", spec := "fnExactIsForbidden", inPlace := ["internal/bytealg.CountString", "internal/bytealg.IndexByteString", "internal/bytealg.IndexString"], unfollowed := true, recurses := true, named := ["unicode/utf8.first", "unicode/utf8.acceptRanges", "internal/bytealg.MaxLen"], loops := true, apart := false, laid := [("unicode/utf8.acceptRanges", laid_unicode_utf8_acceptRanges), ("unicode/utf8.first", laid_unicode_utf8_first)], narrowed := true }
def FnExactIsForbiddenUptoSaid : Prop := fnExactIsForbiddenUptoRow.holds Tryz.pinned (OpenSpec.upto fnExactIsForbiddenSpec)

/-- 'laws.FnExactExposureOf', WHERE WHAT IT READS IS OF BULK AT MOST 1048576: true; the input reads as it did. -/
def fnExactExposureOfUptoRow : OpenClaim := { program := "ytcfddlacocdpoaagreatdoor", sum := "cda1c2a9630917428a8f605cdcaddb1973e9b198f42978a0f599a19753f2f4f8", func := "loop.example/g00902/laws.FnExactExposureOf", spec := "fnExactExposureOf", inPlace := ["internal/bytealg.CountString", "internal/bytealg.IndexByteString", "internal/bytealg.IndexString"], unfollowed := true, recurses := true, named := ["unicode/utf8.first", "unicode/utf8.acceptRanges", "internal/bytealg.MaxLen"], loops := true, apart := false, laid := [("unicode/utf8.acceptRanges", laid_unicode_utf8_acceptRanges), ("unicode/utf8.first", laid_unicode_utf8_first)], narrowed := true }
def FnExactExposureOfUptoSaid : Prop := fnExactExposureOfUptoRow.holds Tryz.pinned (OpenSpec.upto fnExactExposureOfSpec)

/-- 'laws.FnExactDuesOf', WHERE WHAT IT READS IS OF BULK AT MOST 1048576: true; the input reads as it did. -/
def fnExactDuesOfUptoRow : OpenClaim := { program := "ytcfddlacocdpoaagreatdoor", sum := "cda1c2a9630917428a8f605cdcaddb1973e9b198f42978a0f599a19753f2f4f8", func := "loop.example/g00902/laws.FnExactDuesOf", spec := "fnExactDuesOf", inPlace := ["internal/bytealg.CountString", "internal/bytealg.IndexByteString", "internal/bytealg.IndexString"], unfollowed := true, recurses := true, named := ["unicode/utf8.first", "unicode/utf8.acceptRanges", "internal/bytealg.MaxLen"], loops := true, apart := false, laid := [("unicode/utf8.acceptRanges", laid_unicode_utf8_acceptRanges), ("unicode/utf8.first", laid_unicode_utf8_first)], narrowed := true }
def FnExactDuesOfUptoSaid : Prop := fnExactDuesOfUptoRow.holds Tryz.pinned (OpenSpec.upto fnExactDuesOfSpec)

/-- 'laws.FnExactClaimsOf', WHERE WHAT IT READS IS OF BULK AT MOST 1048576: true; the input reads as it did. -/
def fnExactClaimsOfUptoRow : OpenClaim := { program := "ytcfddlacocdpoaagreatdoor", sum := "cda1c2a9630917428a8f605cdcaddb1973e9b198f42978a0f599a19753f2f4f8", func := "loop.example/g00902/laws.FnExactClaimsOf", spec := "fnExactClaimsOf", inPlace := ["internal/bytealg.CountString", "internal/bytealg.IndexByteString", "internal/bytealg.IndexString"], unfollowed := true, recurses := true, named := ["unicode/utf8.first", "unicode/utf8.acceptRanges", "internal/bytealg.MaxLen"], loops := true, apart := false, laid := [("unicode/utf8.acceptRanges", laid_unicode_utf8_acceptRanges), ("unicode/utf8.first", laid_unicode_utf8_first)], narrowed := true }
def FnExactClaimsOfUptoSaid : Prop := fnExactClaimsOfUptoRow.holds Tryz.pinned (OpenSpec.upto fnExactClaimsOfSpec)

/-- 'laws.FnExactOverdueBy', WHERE WHAT IT READS IS OF BULK AT MOST 1048576: true; the input reads as it did. -/
def fnExactOverdueByUptoRow : OpenClaim := { program := "ytcfddlacocdpoaagreatdoor", sum := "cda1c2a9630917428a8f605cdcaddb1973e9b198f42978a0f599a19753f2f4f8", func := "loop.example/g00902/laws.FnExactOverdueBy", spec := "fnExactOverdueBy", inPlace := ["internal/bytealg.CountString", "internal/bytealg.IndexByteString", "internal/bytealg.IndexString"], unfollowed := true, recurses := true, named := ["unicode/utf8.first", "unicode/utf8.acceptRanges", "internal/bytealg.MaxLen"], loops := true, apart := false, laid := [("unicode/utf8.acceptRanges", laid_unicode_utf8_acceptRanges), ("unicode/utf8.first", laid_unicode_utf8_first)], narrowed := true }
def FnExactOverdueByUptoSaid : Prop := fnExactOverdueByUptoRow.holds Tryz.pinned (OpenSpec.upto fnExactOverdueBySpec)

/-- 'laws.FnExactActionStatus', WHERE WHAT IT READS IS OF BULK AT MOST 1048576: true; the input reads as it did. -/
def fnExactActionStatusUptoRow : OpenClaim := { program := "ytcfddlacocdpoaagreatdoor", sum := "cda1c2a9630917428a8f605cdcaddb1973e9b198f42978a0f599a19753f2f4f8", func := "loop.example/g00902/laws.FnExactActionStatus", spec := "fnExactActionStatus", inPlace := ["internal/bytealg.CountString", "internal/bytealg.IndexByteString", "internal/bytealg.IndexString"], unfollowed := true, recurses := true, named := ["unicode/utf8.first", "unicode/utf8.acceptRanges", "internal/bytealg.MaxLen"], loops := true, apart := false, laid := [("unicode/utf8.acceptRanges", laid_unicode_utf8_acceptRanges), ("unicode/utf8.first", laid_unicode_utf8_first)], narrowed := true }
def FnExactActionStatusUptoSaid : Prop := fnExactActionStatusUptoRow.holds Tryz.pinned (OpenSpec.upto fnExactActionStatusSpec)

/-- 'laws.FnExactPartyReport', WHERE WHAT IT READS IS OF BULK AT MOST 1048576: true; the input reads as it did. -/
def fnExactPartyReportUptoRow : OpenClaim := { program := "ytcfddlacocdpoaagreatdoor", sum := "cda1c2a9630917428a8f605cdcaddb1973e9b198f42978a0f599a19753f2f4f8", func := "loop.example/g00902/laws.FnExactPartyReport", spec := "fnExactPartyReport", inPlace := ["internal/bytealg.CountString", "internal/bytealg.IndexByteString", "internal/bytealg.IndexString"], unfollowed := true, recurses := true, named := ["unicode/utf8.first", "unicode/utf8.acceptRanges", "internal/bytealg.MaxLen", "internal/strconv.uint64pow10", "math/bits.deBruijn32tab", "math/bits.deBruijn64tab"], loops := true, apart := false, laid := [("math/bits.deBruijn32tab", laid_math_bits_deBruijn32tab), ("math/bits.deBruijn64tab", laid_math_bits_deBruijn64tab), ("internal/strconv.uint64pow10", laid_internal_strconv_uint64pow10), ("unicode/utf8.acceptRanges", laid_unicode_utf8_acceptRanges), ("unicode/utf8.first", laid_unicode_utf8_first)], narrowed := true }
def FnExactPartyReportUptoSaid : Prop := fnExactPartyReportUptoRow.holds Tryz.pinned (OpenSpec.upto fnExactPartyReportSpec)

end Rows
end Go.Proofs.YtcfddlacocdpoaaGreatDoor
