/-
  DERIVED. GIVEN WITH THE SEED: THE CARDS: each row of YtcfddlacocdpoaaGreatDoorRows.lean that lists a variable, with what it lists TIED to the program's text (the seventh form; the later family's looks); each row that meets fmt, with fmt's text TOLD by the authors' own Lean function (tested against real Go, not proved from fmt's source: count such statements apart). THE CARD IS WHAT COUNTS. Prove the row's statement (the work); the ties are given (YtcfddlacocdpoaaGreatDoorTie.lean); close each card by the builder's one call (the guide's Derived/Test/ToyasCard.lean, 'card_holds'). Laid BY PROGRAM, IN A SANDBOX (cutbox-door.mjs). By AI agents, Wed Nov 11 2026. No macro, syntax, notation, axiom, sorry.
-/
import Derived.Test.YtcfddlacocdpoaaGreatDoorRows
import GoSem.ClaimSeven
namespace Go.Proofs.YtcfddlacocdpoaaGreatDoor
namespace Rows

/-- THE TIED CARD OF 'laws.FnExactIdlePermissions'. -/
def fnExactIdlePermissionsCard : Claim7 := { stood := { row := fnExactIdlePermissionsRow, standIns := [], harness := (true, "e2917a715e184b55e1beafc66a71e08531f15812d1d9058bed9b898a9ff8d184"), looks := false }, kinds := [], alts := [], laidByText := true, laidKinds := [.data, .pinned], laidTests := true, laidLooks := .later }
def FnExactIdlePermissionsCardSaid : Prop := Claim7.holds Tryz.pinned (.plain (OpenSpec.ofChange fnExactIdlePermissionsSpec)) fnExactIdlePermissionsCard

/-- THE TIED CARD OF 'laws.FnExactPowerFor'. -/
def fnExactPowerForCard : Claim7 := { stood := { row := fnExactPowerForRow, standIns := [], harness := (true, "e2917a715e184b55e1beafc66a71e08531f15812d1d9058bed9b898a9ff8d184"), looks := false }, kinds := [], alts := [], laidByText := true, laidKinds := [.data, .pinned], laidTests := true, laidLooks := .later }
def FnExactPowerForCardSaid : Prop := Claim7.holds Tryz.pinned (.plain (OpenSpec.ofChange fnExactPowerForSpec)) fnExactPowerForCard

/-- THE TIED CARD OF 'laws.FnExactIsForbidden'. -/
def fnExactIsForbiddenCard : Claim7 := { stood := { row := fnExactIsForbiddenRow, standIns := [], harness := (true, "e2917a715e184b55e1beafc66a71e08531f15812d1d9058bed9b898a9ff8d184"), looks := false }, kinds := [], alts := [], laidByText := true, laidKinds := [.data, .pinned], laidTests := true, laidLooks := .later }
def FnExactIsForbiddenCardSaid : Prop := Claim7.holds Tryz.pinned (.plain (OpenSpec.ofChange fnExactIsForbiddenSpec)) fnExactIsForbiddenCard

/-- THE TIED CARD OF 'laws.FnExactExposureOf'. -/
def fnExactExposureOfCard : Claim7 := { stood := { row := fnExactExposureOfRow, standIns := [], harness := (true, "e2917a715e184b55e1beafc66a71e08531f15812d1d9058bed9b898a9ff8d184"), looks := false }, kinds := [], alts := [], laidByText := true, laidKinds := [.data, .pinned], laidTests := true, laidLooks := .later }
def FnExactExposureOfCardSaid : Prop := Claim7.holds Tryz.pinned (.plain (OpenSpec.ofChange fnExactExposureOfSpec)) fnExactExposureOfCard

/-- THE TIED CARD OF 'laws.FnExactDuesOf'. -/
def fnExactDuesOfCard : Claim7 := { stood := { row := fnExactDuesOfRow, standIns := [], harness := (true, "e2917a715e184b55e1beafc66a71e08531f15812d1d9058bed9b898a9ff8d184"), looks := false }, kinds := [], alts := [], laidByText := true, laidKinds := [.data, .pinned], laidTests := true, laidLooks := .later }
def FnExactDuesOfCardSaid : Prop := Claim7.holds Tryz.pinned (.plain (OpenSpec.ofChange fnExactDuesOfSpec)) fnExactDuesOfCard

/-- THE TIED CARD OF 'laws.FnExactClaimsOf'. -/
def fnExactClaimsOfCard : Claim7 := { stood := { row := fnExactClaimsOfRow, standIns := [], harness := (true, "e2917a715e184b55e1beafc66a71e08531f15812d1d9058bed9b898a9ff8d184"), looks := false }, kinds := [], alts := [], laidByText := true, laidKinds := [.data, .pinned], laidTests := true, laidLooks := .later }
def FnExactClaimsOfCardSaid : Prop := Claim7.holds Tryz.pinned (.plain (OpenSpec.ofChange fnExactClaimsOfSpec)) fnExactClaimsOfCard

/-- THE TIED CARD OF 'laws.FnExactOverdueBy'. -/
def fnExactOverdueByCard : Claim7 := { stood := { row := fnExactOverdueByRow, standIns := [], harness := (true, "e2917a715e184b55e1beafc66a71e08531f15812d1d9058bed9b898a9ff8d184"), looks := false }, kinds := [], alts := [], laidByText := true, laidKinds := [.data, .pinned], laidTests := true, laidLooks := .later }
def FnExactOverdueByCardSaid : Prop := Claim7.holds Tryz.pinned (.plain (OpenSpec.ofChange fnExactOverdueBySpec)) fnExactOverdueByCard

/-- THE TIED CARD OF 'laws.FnExactActionStatus'. -/
def fnExactActionStatusCard : Claim7 := { stood := { row := fnExactActionStatusRow, standIns := [], harness := (true, "e2917a715e184b55e1beafc66a71e08531f15812d1d9058bed9b898a9ff8d184"), looks := false }, kinds := [], alts := [], laidByText := true, laidKinds := [.data, .pinned], laidTests := true, laidLooks := .later }
def FnExactActionStatusCardSaid : Prop := Claim7.holds Tryz.pinned (.plain (OpenSpec.ofChange fnExactActionStatusSpec)) fnExactActionStatusCard

/-- THE TIED CARD OF 'laws.FnExactPartyReport'. -/
def fnExactPartyReportCard : Claim7 := { stood := { row := fnExactPartyReportRow, standIns := [], harness := (true, "e2917a715e184b55e1beafc66a71e08531f15812d1d9058bed9b898a9ff8d184"), looks := false }, kinds := [], alts := [], laidByText := true, laidKinds := [.data, .data, .data, .data, .pinned], laidTests := true, laidLooks := .later }
def FnExactPartyReportCardSaid : Prop := Claim7.holds Tryz.pinned (.plain (OpenSpec.ofChange fnExactPartyReportSpec)) fnExactPartyReportCard

/-- THE SECOND FORM's CARD OF 'laws.FnExactIdlePermissions'. -/
def fnExactIdlePermissionsUptoCard : Claim7 := { stood := { row := fnExactIdlePermissionsUptoRow, standIns := [], harness := (true, "e2917a715e184b55e1beafc66a71e08531f15812d1d9058bed9b898a9ff8d184"), looks := false }, kinds := [], alts := [], laidByText := true, laidKinds := [.data, .pinned], laidTests := true, laidLooks := .later }
def FnExactIdlePermissionsUptoCardSaid : Prop := Claim7.holds Tryz.pinned (.plain (OpenSpec.upto fnExactIdlePermissionsSpec)) fnExactIdlePermissionsUptoCard

/-- THE SECOND FORM's CARD OF 'laws.FnExactPowerFor'. -/
def fnExactPowerForUptoCard : Claim7 := { stood := { row := fnExactPowerForUptoRow, standIns := [], harness := (true, "e2917a715e184b55e1beafc66a71e08531f15812d1d9058bed9b898a9ff8d184"), looks := false }, kinds := [], alts := [], laidByText := true, laidKinds := [.data, .pinned], laidTests := true, laidLooks := .later }
def FnExactPowerForUptoCardSaid : Prop := Claim7.holds Tryz.pinned (.plain (OpenSpec.upto fnExactPowerForSpec)) fnExactPowerForUptoCard

/-- THE SECOND FORM's CARD OF 'laws.FnExactIsForbidden'. -/
def fnExactIsForbiddenUptoCard : Claim7 := { stood := { row := fnExactIsForbiddenUptoRow, standIns := [], harness := (true, "e2917a715e184b55e1beafc66a71e08531f15812d1d9058bed9b898a9ff8d184"), looks := false }, kinds := [], alts := [], laidByText := true, laidKinds := [.data, .pinned], laidTests := true, laidLooks := .later }
def FnExactIsForbiddenUptoCardSaid : Prop := Claim7.holds Tryz.pinned (.plain (OpenSpec.upto fnExactIsForbiddenSpec)) fnExactIsForbiddenUptoCard

/-- THE SECOND FORM's CARD OF 'laws.FnExactExposureOf'. -/
def fnExactExposureOfUptoCard : Claim7 := { stood := { row := fnExactExposureOfUptoRow, standIns := [], harness := (true, "e2917a715e184b55e1beafc66a71e08531f15812d1d9058bed9b898a9ff8d184"), looks := false }, kinds := [], alts := [], laidByText := true, laidKinds := [.data, .pinned], laidTests := true, laidLooks := .later }
def FnExactExposureOfUptoCardSaid : Prop := Claim7.holds Tryz.pinned (.plain (OpenSpec.upto fnExactExposureOfSpec)) fnExactExposureOfUptoCard

/-- THE SECOND FORM's CARD OF 'laws.FnExactDuesOf'. -/
def fnExactDuesOfUptoCard : Claim7 := { stood := { row := fnExactDuesOfUptoRow, standIns := [], harness := (true, "e2917a715e184b55e1beafc66a71e08531f15812d1d9058bed9b898a9ff8d184"), looks := false }, kinds := [], alts := [], laidByText := true, laidKinds := [.data, .pinned], laidTests := true, laidLooks := .later }
def FnExactDuesOfUptoCardSaid : Prop := Claim7.holds Tryz.pinned (.plain (OpenSpec.upto fnExactDuesOfSpec)) fnExactDuesOfUptoCard

/-- THE SECOND FORM's CARD OF 'laws.FnExactClaimsOf'. -/
def fnExactClaimsOfUptoCard : Claim7 := { stood := { row := fnExactClaimsOfUptoRow, standIns := [], harness := (true, "e2917a715e184b55e1beafc66a71e08531f15812d1d9058bed9b898a9ff8d184"), looks := false }, kinds := [], alts := [], laidByText := true, laidKinds := [.data, .pinned], laidTests := true, laidLooks := .later }
def FnExactClaimsOfUptoCardSaid : Prop := Claim7.holds Tryz.pinned (.plain (OpenSpec.upto fnExactClaimsOfSpec)) fnExactClaimsOfUptoCard

/-- THE SECOND FORM's CARD OF 'laws.FnExactOverdueBy'. -/
def fnExactOverdueByUptoCard : Claim7 := { stood := { row := fnExactOverdueByUptoRow, standIns := [], harness := (true, "e2917a715e184b55e1beafc66a71e08531f15812d1d9058bed9b898a9ff8d184"), looks := false }, kinds := [], alts := [], laidByText := true, laidKinds := [.data, .pinned], laidTests := true, laidLooks := .later }
def FnExactOverdueByUptoCardSaid : Prop := Claim7.holds Tryz.pinned (.plain (OpenSpec.upto fnExactOverdueBySpec)) fnExactOverdueByUptoCard

/-- THE SECOND FORM's CARD OF 'laws.FnExactActionStatus'. -/
def fnExactActionStatusUptoCard : Claim7 := { stood := { row := fnExactActionStatusUptoRow, standIns := [], harness := (true, "e2917a715e184b55e1beafc66a71e08531f15812d1d9058bed9b898a9ff8d184"), looks := false }, kinds := [], alts := [], laidByText := true, laidKinds := [.data, .pinned], laidTests := true, laidLooks := .later }
def FnExactActionStatusUptoCardSaid : Prop := Claim7.holds Tryz.pinned (.plain (OpenSpec.upto fnExactActionStatusSpec)) fnExactActionStatusUptoCard

/-- THE SECOND FORM's CARD OF 'laws.FnExactPartyReport'. -/
def fnExactPartyReportUptoCard : Claim7 := { stood := { row := fnExactPartyReportUptoRow, standIns := [], harness := (true, "e2917a715e184b55e1beafc66a71e08531f15812d1d9058bed9b898a9ff8d184"), looks := false }, kinds := [], alts := [], laidByText := true, laidKinds := [.data, .data, .data, .data, .pinned], laidTests := true, laidLooks := .later }
def FnExactPartyReportUptoCardSaid : Prop := Claim7.holds Tryz.pinned (.plain (OpenSpec.upto fnExactPartyReportSpec)) fnExactPartyReportUptoCard
end Rows
end Go.Proofs.YtcfddlacocdpoaaGreatDoor
