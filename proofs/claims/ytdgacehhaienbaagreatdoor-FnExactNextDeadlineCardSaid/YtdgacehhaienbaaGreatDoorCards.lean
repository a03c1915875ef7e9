/-
  DERIVED. GIVEN WITH THE SEED: THE CARDS: each row of YtdgacehhaienbaaGreatDoorRows.lean that lists a variable, with what it lists TIED to the program's text (the seventh form; the later family's looks); each row that meets fmt, with fmt's text TOLD by the authors' own Lean function (tested against real Go, not proved from fmt's source: count such statements apart). THE CARD IS WHAT COUNTS. Prove the row's statement (the work); the ties are given (YtdgacehhaienbaaGreatDoorTie.lean); close each card by the builder's one call (the guide's Derived/Test/ToyasCard.lean, 'card_holds'). Laid BY PROGRAM, IN A SANDBOX (cutbox-door.mjs). By AI agents, Wed Nov 11 2026. No macro, syntax, notation, axiom, sorry.
-/
import Derived.Test.YtdgacehhaienbaaGreatDoorRows
import GoSem.ClaimSeven
namespace Go.Proofs.YtdgacehhaienbaaGreatDoor
namespace Rows

/-- THE TIED CARD OF 'laws.FnExactStartState'. -/
def fnExactStartStateCard : Claim7 := { stood := { row := fnExactStartStateRow, standIns := [], harness := (true, "99ce87e14588b8729bb4ea4c94014a1b275f4a7e2f668ab05b35c29a859c02bc"), looks := false }, kinds := [], alts := [], laidByText := true, laidKinds := [.data, .pinned], laidTests := true, laidLooks := .later }
def FnExactStartStateCardSaid : Prop := Claim7.holds Tryz.pinned (.plain (OpenSpec.ofChange fnExactStartStateSpec)) fnExactStartStateCard

/-- THE TIED CARD OF 'laws.FnExactNextDeadline'. -/
def fnExactNextDeadlineCard : Claim7 := { stood := { row := fnExactNextDeadlineRow, standIns := [], harness := (true, "99ce87e14588b8729bb4ea4c94014a1b275f4a7e2f668ab05b35c29a859c02bc"), looks := false }, kinds := [], alts := [], laidByText := true, laidKinds := [.data, .pinned], laidTests := true, laidLooks := .later }
def FnExactNextDeadlineCardSaid : Prop := Claim7.holds Tryz.pinned (.plain (OpenSpec.ofChange fnExactNextDeadlineSpec)) fnExactNextDeadlineCard

/-- THE TIED CARD OF 'laws.FnExactExposureOf'. -/
def fnExactExposureOfCard : Claim7 := { stood := { row := fnExactExposureOfRow, standIns := [], harness := (true, "99ce87e14588b8729bb4ea4c94014a1b275f4a7e2f668ab05b35c29a859c02bc"), looks := false }, kinds := [], alts := [], laidByText := true, laidKinds := [.data, .pinned], laidTests := true, laidLooks := .later }
def FnExactExposureOfCardSaid : Prop := Claim7.holds Tryz.pinned (.plain (OpenSpec.ofChange fnExactExposureOfSpec)) fnExactExposureOfCard

/-- THE TIED CARD OF 'laws.FnExactOverdueBy'. -/
def fnExactOverdueByCard : Claim7 := { stood := { row := fnExactOverdueByRow, standIns := [], harness := (true, "99ce87e14588b8729bb4ea4c94014a1b275f4a7e2f668ab05b35c29a859c02bc"), looks := false }, kinds := [], alts := [], laidByText := true, laidKinds := [.data, .pinned], laidTests := true, laidLooks := .later }
def FnExactOverdueByCardSaid : Prop := Claim7.holds Tryz.pinned (.plain (OpenSpec.ofChange fnExactOverdueBySpec)) fnExactOverdueByCard

/-- THE TIED CARD OF 'laws.FnExactClaimsOf'. -/
def fnExactClaimsOfCard : Claim7 := { stood := { row := fnExactClaimsOfRow, standIns := [], harness := (true, "99ce87e14588b8729bb4ea4c94014a1b275f4a7e2f668ab05b35c29a859c02bc"), looks := false }, kinds := [], alts := [], laidByText := true, laidKinds := [.data, .pinned], laidTests := true, laidLooks := .later }
def FnExactClaimsOfCardSaid : Prop := Claim7.holds Tryz.pinned (.plain (OpenSpec.ofChange fnExactClaimsOfSpec)) fnExactClaimsOfCard

/-- THE TIED CARD OF 'laws.FnExactDuesOf'. -/
def fnExactDuesOfCard : Claim7 := { stood := { row := fnExactDuesOfRow, standIns := [], harness := (true, "99ce87e14588b8729bb4ea4c94014a1b275f4a7e2f668ab05b35c29a859c02bc"), looks := false }, kinds := [], alts := [], laidByText := true, laidKinds := [.data, .pinned], laidTests := true, laidLooks := .later }
def FnExactDuesOfCardSaid : Prop := Claim7.holds Tryz.pinned (.plain (OpenSpec.ofChange fnExactDuesOfSpec)) fnExactDuesOfCard

/-- THE TIED CARD OF 'laws.FnExactActionStatus'. -/
def fnExactActionStatusCard : Claim7 := { stood := { row := fnExactActionStatusRow, standIns := [], harness := (true, "99ce87e14588b8729bb4ea4c94014a1b275f4a7e2f668ab05b35c29a859c02bc"), looks := false }, kinds := [], alts := [], laidByText := true, laidKinds := [.data, .pinned], laidTests := true, laidLooks := .later }
def FnExactActionStatusCardSaid : Prop := Claim7.holds Tryz.pinned (.plain (OpenSpec.ofChange fnExactActionStatusSpec)) fnExactActionStatusCard

/-- THE TIED CARD OF 'laws.FnExactAdvanceState'. -/
def fnExactAdvanceStateCard : Claim7 := { stood := { row := fnExactAdvanceStateRow, standIns := [], harness := (true, "99ce87e14588b8729bb4ea4c94014a1b275f4a7e2f668ab05b35c29a859c02bc"), looks := false }, kinds := [], alts := [], laidByText := true, laidKinds := [.data, .pinned], laidTests := true, laidLooks := .later }
def FnExactAdvanceStateCardSaid : Prop := Claim7.holds Tryz.pinned (.plain (OpenSpec.ofChange fnExactAdvanceStateSpec)) fnExactAdvanceStateCard

/-- THE TIED CARD OF 'laws.FnExactCheckScenario'. -/
def fnExactCheckScenarioCard : Claim7 := { stood := { row := fnExactCheckScenarioRow, standIns := [], harness := (true, "99ce87e14588b8729bb4ea4c94014a1b275f4a7e2f668ab05b35c29a859c02bc"), looks := false }, kinds := [], alts := [], laidByText := true, laidKinds := [.data, .pinned], laidTests := true, laidLooks := .later }
def FnExactCheckScenarioCardSaid : Prop := Claim7.holds Tryz.pinned (.plain (OpenSpec.ofChange fnExactCheckScenarioSpec)) fnExactCheckScenarioCard

/-- THE TIED CARD OF 'laws.FnExactPartyReport'. -/
def fnExactPartyReportCard : Claim7 := { stood := { row := fnExactPartyReportRow, standIns := [], harness := (true, "99ce87e14588b8729bb4ea4c94014a1b275f4a7e2f668ab05b35c29a859c02bc"), looks := false }, kinds := [], alts := [], laidByText := true, laidKinds := [.data, .data, .data, .data, .pinned], laidTests := true, laidLooks := .later }
def FnExactPartyReportCardSaid : Prop := Claim7.holds Tryz.pinned (.plain (OpenSpec.ofChange fnExactPartyReportSpec)) fnExactPartyReportCard

/-- THE TIED CARD OF 'laws.FnExactTraceContract'. -/
def fnExactTraceContractCard : Claim7 := { stood := { row := fnExactTraceContractRow, standIns := [], harness := (true, "99ce87e14588b8729bb4ea4c94014a1b275f4a7e2f668ab05b35c29a859c02bc"), looks := false }, kinds := [], alts := [], laidByText := true, laidKinds := [.data, .pinned], laidTests := true, laidLooks := .later }
def FnExactTraceContractCardSaid : Prop := Claim7.holds Tryz.pinned (.plain (OpenSpec.ofChange fnExactTraceContractSpec)) fnExactTraceContractCard

/-- THE TIED CARD OF 'laws.FnExactApplyEvent'. -/
def fnExactApplyEventCard : Claim7 := { stood := { row := fnExactApplyEventRow, standIns := [], harness := (true, "99ce87e14588b8729bb4ea4c94014a1b275f4a7e2f668ab05b35c29a859c02bc"), looks := false }, kinds := [], alts := [], laidByText := true, laidKinds := [.data, .pinned], laidTests := true, laidLooks := .later }
def FnExactApplyEventCardSaid : Prop := Claim7.holds Tryz.pinned (.plain (OpenSpec.ofChange fnExactApplyEventSpec)) fnExactApplyEventCard

/-- THE SECOND FORM's CARD OF 'laws.FnExactStartState'. -/
def fnExactStartStateUptoCard : Claim7 := { stood := { row := fnExactStartStateUptoRow, standIns := [], harness := (true, "99ce87e14588b8729bb4ea4c94014a1b275f4a7e2f668ab05b35c29a859c02bc"), looks := false }, kinds := [], alts := [], laidByText := true, laidKinds := [.data, .pinned], laidTests := true, laidLooks := .later }
def FnExactStartStateUptoCardSaid : Prop := Claim7.holds Tryz.pinned (.plain (OpenSpec.upto fnExactStartStateSpec)) fnExactStartStateUptoCard

/-- THE SECOND FORM's CARD OF 'laws.FnExactNextDeadline'. -/
def fnExactNextDeadlineUptoCard : Claim7 := { stood := { row := fnExactNextDeadlineUptoRow, standIns := [], harness := (true, "99ce87e14588b8729bb4ea4c94014a1b275f4a7e2f668ab05b35c29a859c02bc"), looks := false }, kinds := [], alts := [], laidByText := true, laidKinds := [.data, .pinned], laidTests := true, laidLooks := .later }
def FnExactNextDeadlineUptoCardSaid : Prop := Claim7.holds Tryz.pinned (.plain (OpenSpec.upto fnExactNextDeadlineSpec)) fnExactNextDeadlineUptoCard

/-- THE SECOND FORM's CARD OF 'laws.FnExactExposureOf'. -/
def fnExactExposureOfUptoCard : Claim7 := { stood := { row := fnExactExposureOfUptoRow, standIns := [], harness := (true, "99ce87e14588b8729bb4ea4c94014a1b275f4a7e2f668ab05b35c29a859c02bc"), looks := false }, kinds := [], alts := [], laidByText := true, laidKinds := [.data, .pinned], laidTests := true, laidLooks := .later }
def FnExactExposureOfUptoCardSaid : Prop := Claim7.holds Tryz.pinned (.plain (OpenSpec.upto fnExactExposureOfSpec)) fnExactExposureOfUptoCard

/-- THE SECOND FORM's CARD OF 'laws.FnExactOverdueBy'. -/
def fnExactOverdueByUptoCard : Claim7 := { stood := { row := fnExactOverdueByUptoRow, standIns := [], harness := (true, "99ce87e14588b8729bb4ea4c94014a1b275f4a7e2f668ab05b35c29a859c02bc"), looks := false }, kinds := [], alts := [], laidByText := true, laidKinds := [.data, .pinned], laidTests := true, laidLooks := .later }
def FnExactOverdueByUptoCardSaid : Prop := Claim7.holds Tryz.pinned (.plain (OpenSpec.upto fnExactOverdueBySpec)) fnExactOverdueByUptoCard

/-- THE SECOND FORM's CARD OF 'laws.FnExactClaimsOf'. -/
def fnExactClaimsOfUptoCard : Claim7 := { stood := { row := fnExactClaimsOfUptoRow, standIns := [], harness := (true, "99ce87e14588b8729bb4ea4c94014a1b275f4a7e2f668ab05b35c29a859c02bc"), looks := false }, kinds := [], alts := [], laidByText := true, laidKinds := [.data, .pinned], laidTests := true, laidLooks := .later }
def FnExactClaimsOfUptoCardSaid : Prop := Claim7.holds Tryz.pinned (.plain (OpenSpec.upto fnExactClaimsOfSpec)) fnExactClaimsOfUptoCard

/-- THE SECOND FORM's CARD OF 'laws.FnExactDuesOf'. -/
def fnExactDuesOfUptoCard : Claim7 := { stood := { row := fnExactDuesOfUptoRow, standIns := [], harness := (true, "99ce87e14588b8729bb4ea4c94014a1b275f4a7e2f668ab05b35c29a859c02bc"), looks := false }, kinds := [], alts := [], laidByText := true, laidKinds := [.data, .pinned], laidTests := true, laidLooks := .later }
def FnExactDuesOfUptoCardSaid : Prop := Claim7.holds Tryz.pinned (.plain (OpenSpec.upto fnExactDuesOfSpec)) fnExactDuesOfUptoCard

/-- THE SECOND FORM's CARD OF 'laws.FnExactActionStatus'. -/
def fnExactActionStatusUptoCard : Claim7 := { stood := { row := fnExactActionStatusUptoRow, standIns := [], harness := (true, "99ce87e14588b8729bb4ea4c94014a1b275f4a7e2f668ab05b35c29a859c02bc"), looks := false }, kinds := [], alts := [], laidByText := true, laidKinds := [.data, .pinned], laidTests := true, laidLooks := .later }
def FnExactActionStatusUptoCardSaid : Prop := Claim7.holds Tryz.pinned (.plain (OpenSpec.upto fnExactActionStatusSpec)) fnExactActionStatusUptoCard

/-- THE SECOND FORM's CARD OF 'laws.FnExactAdvanceState'. -/
def fnExactAdvanceStateUptoCard : Claim7 := { stood := { row := fnExactAdvanceStateUptoRow, standIns := [], harness := (true, "99ce87e14588b8729bb4ea4c94014a1b275f4a7e2f668ab05b35c29a859c02bc"), looks := false }, kinds := [], alts := [], laidByText := true, laidKinds := [.data, .pinned], laidTests := true, laidLooks := .later }
def FnExactAdvanceStateUptoCardSaid : Prop := Claim7.holds Tryz.pinned (.plain (OpenSpec.upto fnExactAdvanceStateSpec)) fnExactAdvanceStateUptoCard

/-- THE SECOND FORM's CARD OF 'laws.FnExactCheckScenario'. -/
def fnExactCheckScenarioUptoCard : Claim7 := { stood := { row := fnExactCheckScenarioUptoRow, standIns := [], harness := (true, "99ce87e14588b8729bb4ea4c94014a1b275f4a7e2f668ab05b35c29a859c02bc"), looks := false }, kinds := [], alts := [], laidByText := true, laidKinds := [.data, .pinned], laidTests := true, laidLooks := .later }
def FnExactCheckScenarioUptoCardSaid : Prop := Claim7.holds Tryz.pinned (.plain (OpenSpec.upto fnExactCheckScenarioSpec)) fnExactCheckScenarioUptoCard

/-- THE SECOND FORM's CARD OF 'laws.FnExactPartyReport'. -/
def fnExactPartyReportUptoCard : Claim7 := { stood := { row := fnExactPartyReportUptoRow, standIns := [], harness := (true, "99ce87e14588b8729bb4ea4c94014a1b275f4a7e2f668ab05b35c29a859c02bc"), looks := false }, kinds := [], alts := [], laidByText := true, laidKinds := [.data, .data, .data, .data, .pinned], laidTests := true, laidLooks := .later }
def FnExactPartyReportUptoCardSaid : Prop := Claim7.holds Tryz.pinned (.plain (OpenSpec.upto fnExactPartyReportSpec)) fnExactPartyReportUptoCard

/-- THE SECOND FORM's CARD OF 'laws.FnExactTraceContract'. -/
def fnExactTraceContractUptoCard : Claim7 := { stood := { row := fnExactTraceContractUptoRow, standIns := [], harness := (true, "99ce87e14588b8729bb4ea4c94014a1b275f4a7e2f668ab05b35c29a859c02bc"), looks := false }, kinds := [], alts := [], laidByText := true, laidKinds := [.data, .pinned], laidTests := true, laidLooks := .later }
def FnExactTraceContractUptoCardSaid : Prop := Claim7.holds Tryz.pinned (.plain (OpenSpec.upto fnExactTraceContractSpec)) fnExactTraceContractUptoCard

/-- THE SECOND FORM's CARD OF 'laws.FnExactApplyEvent'. -/
def fnExactApplyEventUptoCard : Claim7 := { stood := { row := fnExactApplyEventUptoRow, standIns := [], harness := (true, "99ce87e14588b8729bb4ea4c94014a1b275f4a7e2f668ab05b35c29a859c02bc"), looks := false }, kinds := [], alts := [], laidByText := true, laidKinds := [.data, .pinned], laidTests := true, laidLooks := .later }
def FnExactApplyEventUptoCardSaid : Prop := Claim7.holds Tryz.pinned (.plain (OpenSpec.upto fnExactApplyEventSpec)) fnExactApplyEventUptoCard
end Rows
end Go.Proofs.YtdgacehhaienbaaGreatDoor
