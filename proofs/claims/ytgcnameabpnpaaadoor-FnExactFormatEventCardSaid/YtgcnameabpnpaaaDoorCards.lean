/-
  DERIVED. GIVEN WITH THE SEED: THE CARDS: each row of YtgcnameabpnpaaaDoorRows.lean that lists a variable, with what it lists TIED to the program's text (the seventh form; the later family's looks); each row that meets fmt, with fmt's text TOLD by the authors' own Lean function (tested against real Go, not proved from fmt's source: count such statements apart). THE CARD IS WHAT COUNTS. Prove the row's statement (the work); the ties are given (YtgcnameabpnpaaaDoorTie.lean); close each card by the builder's one call (the guide's Derived/Test/ToyasCard.lean, 'card_holds'). Laid BY PROGRAM, IN A SANDBOX (cutbox-door.mjs). By AI agents, Wed Nov 11 2026. No macro, syntax, notation, axiom, sorry.
-/
import Derived.Test.YtgcnameabpnpaaaDoorRows
import GoSem.ClaimSeven
namespace Go.Proofs.YtgcnameabpnpaaaDoor
namespace Rows

/-- THE TIED CARD OF 'laws.FnExactIsValidEvents'. -/
def fnExactIsValidEventsCard : Claim7 := { stood := { row := fnExactIsValidEventsRow, standIns := [], harness := (true, "406c3948e2131a8be68dfc70b02e1f6ee66806a54ed0eb20642d1c9af4c7d601"), looks := false }, kinds := [], alts := [], laidByText := true, laidKinds := [.data, .pinned], laidTests := true, laidLooks := .later }
def FnExactIsValidEventsCardSaid : Prop := Claim7.holds Tryd.pinned (.plain (OpenSpec.ofChange fnExactIsValidEventsSpec)) fnExactIsValidEventsCard

/-- THE TIED CARD OF 'laws.FnExactCountActions'. -/
def fnExactCountActionsCard : Claim7 := { stood := { row := fnExactCountActionsRow, standIns := [], harness := (true, "406c3948e2131a8be68dfc70b02e1f6ee66806a54ed0eb20642d1c9af4c7d601"), looks := false }, kinds := [], alts := [], laidByText := true, laidKinds := [.data, .pinned], laidTests := true, laidLooks := .later }
def FnExactCountActionsCardSaid : Prop := Claim7.holds Tryd.pinned (.plain (OpenSpec.ofChange fnExactCountActionsSpec)) fnExactCountActionsCard

/-- THE TIED CARD OF 'laws.FnExactShiftEvents'. -/
def fnExactShiftEventsCard : Claim7 := { stood := { row := fnExactShiftEventsRow, standIns := [], harness := (true, "406c3948e2131a8be68dfc70b02e1f6ee66806a54ed0eb20642d1c9af4c7d601"), looks := false }, kinds := [], alts := [], laidByText := true, laidKinds := [.data, .pinned], laidTests := true, laidLooks := .later }
def FnExactShiftEventsCardSaid : Prop := Claim7.holds Tryd.pinned (.plain (OpenSpec.ofChange fnExactShiftEventsSpec)) fnExactShiftEventsCard

/-- THE TIED CARD OF 'laws.FnExactEventsBetween'. -/
def fnExactEventsBetweenCard : Claim7 := { stood := { row := fnExactEventsBetweenRow, standIns := [], harness := (true, "406c3948e2131a8be68dfc70b02e1f6ee66806a54ed0eb20642d1c9af4c7d601"), looks := false }, kinds := [], alts := [], laidByText := true, laidKinds := [.data, .pinned], laidTests := true, laidLooks := .later }
def FnExactEventsBetweenCardSaid : Prop := Claim7.holds Tryd.pinned (.plain (OpenSpec.ofChange fnExactEventsBetweenSpec)) fnExactEventsBetweenCard

/-- THE TIED CARD OF 'laws.FnExactEventDays'. -/
def fnExactEventDaysCard : Claim7 := { stood := { row := fnExactEventDaysRow, standIns := [], harness := (true, "406c3948e2131a8be68dfc70b02e1f6ee66806a54ed0eb20642d1c9af4c7d601"), looks := false }, kinds := [], alts := [], laidByText := true, laidKinds := [.data, .pinned], laidTests := true, laidLooks := .later }
def FnExactEventDaysCardSaid : Prop := Claim7.holds Tryd.pinned (.plain (OpenSpec.ofChange fnExactEventDaysSpec)) fnExactEventDaysCard

/-- THE TIED CARD OF 'laws.FnExactFormatEvent'. -/
def fnExactFormatEventCard : Claim7 := { stood := { row := fnExactFormatEventRow, standIns := [], harness := (true, "406c3948e2131a8be68dfc70b02e1f6ee66806a54ed0eb20642d1c9af4c7d601"), looks := false }, kinds := [], alts := [], laidByText := true, laidKinds := [.data, .data, .data, .data, .pinned], laidTests := true, laidLooks := .later }
def FnExactFormatEventCardSaid : Prop := Claim7.holds Tryd.pinned (.plain (OpenSpec.ofChange fnExactFormatEventSpec)) fnExactFormatEventCard

/-- THE TIED CARD OF 'laws.FnExactSortEvents'. -/
def fnExactSortEventsCard : Claim7 := { stood := { row := fnExactSortEventsRow, standIns := [], harness := (true, "406c3948e2131a8be68dfc70b02e1f6ee66806a54ed0eb20642d1c9af4c7d601"), looks := false }, kinds := [], alts := [], laidByText := true, laidKinds := [.data, .pinned], laidTests := true, laidLooks := .later }
def FnExactSortEventsCardSaid : Prop := Claim7.holds Tryd.pinned (.plain (OpenSpec.ofChange fnExactSortEventsSpec)) fnExactSortEventsCard

/-- THE TIED CARD OF 'laws.FnExactMergeEvents'. -/
def fnExactMergeEventsCard : Claim7 := { stood := { row := fnExactMergeEventsRow, standIns := [], harness := (true, "406c3948e2131a8be68dfc70b02e1f6ee66806a54ed0eb20642d1c9af4c7d601"), looks := false }, kinds := [], alts := [], laidByText := true, laidKinds := [.data, .pinned], laidTests := true, laidLooks := .later }
def FnExactMergeEventsCardSaid : Prop := Claim7.holds Tryd.pinned (.plain (OpenSpec.ofChange fnExactMergeEventsSpec)) fnExactMergeEventsCard

/-- THE TIED CARD OF 'laws.FnExactFormatEvents'. -/
def fnExactFormatEventsCard : Claim7 := { stood := { row := fnExactFormatEventsRow, standIns := [], harness := (true, "406c3948e2131a8be68dfc70b02e1f6ee66806a54ed0eb20642d1c9af4c7d601"), looks := false }, kinds := [], alts := [], laidByText := true, laidKinds := [.data, .data, .data, .data, .pinned], laidTests := true, laidLooks := .later }
def FnExactFormatEventsCardSaid : Prop := Claim7.holds Tryd.pinned (.plain (OpenSpec.ofChange fnExactFormatEventsSpec)) fnExactFormatEventsCard

/-- THE TIED CARD OF 'laws.FnEvents'. -/
def fnEventsCard : Claim7 := { stood := { row := fnEventsRow, standIns := [], harness := (true, "406c3948e2131a8be68dfc70b02e1f6ee66806a54ed0eb20642d1c9af4c7d601"), looks := false }, kinds := [], alts := [], laidByText := true, laidKinds := [.data, .pinned], laidTests := true, laidLooks := .later }
def FnEventsCardSaid : Prop := Claim7.holds Tryd.pinned (.plain (OpenSpec.ofChange fnEventsSpec)) fnEventsCard

/-- THE SECOND FORM's CARD OF 'laws.FnExactIsValidEvents'. -/
def fnExactIsValidEventsUptoCard : Claim7 := { stood := { row := fnExactIsValidEventsUptoRow, standIns := [], harness := (true, "406c3948e2131a8be68dfc70b02e1f6ee66806a54ed0eb20642d1c9af4c7d601"), looks := false }, kinds := [], alts := [], laidByText := true, laidKinds := [.data, .pinned], laidTests := true, laidLooks := .later }
def FnExactIsValidEventsUptoCardSaid : Prop := Claim7.holds Tryd.pinned (.plain (OpenSpec.upto fnExactIsValidEventsSpec)) fnExactIsValidEventsUptoCard

/-- THE SECOND FORM's CARD OF 'laws.FnExactCountActions'. -/
def fnExactCountActionsUptoCard : Claim7 := { stood := { row := fnExactCountActionsUptoRow, standIns := [], harness := (true, "406c3948e2131a8be68dfc70b02e1f6ee66806a54ed0eb20642d1c9af4c7d601"), looks := false }, kinds := [], alts := [], laidByText := true, laidKinds := [.data, .pinned], laidTests := true, laidLooks := .later }
def FnExactCountActionsUptoCardSaid : Prop := Claim7.holds Tryd.pinned (.plain (OpenSpec.upto fnExactCountActionsSpec)) fnExactCountActionsUptoCard

/-- THE SECOND FORM's CARD OF 'laws.FnExactShiftEvents'. -/
def fnExactShiftEventsUptoCard : Claim7 := { stood := { row := fnExactShiftEventsUptoRow, standIns := [], harness := (true, "406c3948e2131a8be68dfc70b02e1f6ee66806a54ed0eb20642d1c9af4c7d601"), looks := false }, kinds := [], alts := [], laidByText := true, laidKinds := [.data, .pinned], laidTests := true, laidLooks := .later }
def FnExactShiftEventsUptoCardSaid : Prop := Claim7.holds Tryd.pinned (.plain (OpenSpec.upto fnExactShiftEventsSpec)) fnExactShiftEventsUptoCard

/-- THE SECOND FORM's CARD OF 'laws.FnExactEventsBetween'. -/
def fnExactEventsBetweenUptoCard : Claim7 := { stood := { row := fnExactEventsBetweenUptoRow, standIns := [], harness := (true, "406c3948e2131a8be68dfc70b02e1f6ee66806a54ed0eb20642d1c9af4c7d601"), looks := false }, kinds := [], alts := [], laidByText := true, laidKinds := [.data, .pinned], laidTests := true, laidLooks := .later }
def FnExactEventsBetweenUptoCardSaid : Prop := Claim7.holds Tryd.pinned (.plain (OpenSpec.upto fnExactEventsBetweenSpec)) fnExactEventsBetweenUptoCard

/-- THE SECOND FORM's CARD OF 'laws.FnExactEventDays'. -/
def fnExactEventDaysUptoCard : Claim7 := { stood := { row := fnExactEventDaysUptoRow, standIns := [], harness := (true, "406c3948e2131a8be68dfc70b02e1f6ee66806a54ed0eb20642d1c9af4c7d601"), looks := false }, kinds := [], alts := [], laidByText := true, laidKinds := [.data, .pinned], laidTests := true, laidLooks := .later }
def FnExactEventDaysUptoCardSaid : Prop := Claim7.holds Tryd.pinned (.plain (OpenSpec.upto fnExactEventDaysSpec)) fnExactEventDaysUptoCard

/-- THE SECOND FORM's CARD OF 'laws.FnExactFormatEvent'. -/
def fnExactFormatEventUptoCard : Claim7 := { stood := { row := fnExactFormatEventUptoRow, standIns := [], harness := (true, "406c3948e2131a8be68dfc70b02e1f6ee66806a54ed0eb20642d1c9af4c7d601"), looks := false }, kinds := [], alts := [], laidByText := true, laidKinds := [.data, .data, .data, .data, .pinned], laidTests := true, laidLooks := .later }
def FnExactFormatEventUptoCardSaid : Prop := Claim7.holds Tryd.pinned (.plain (OpenSpec.upto fnExactFormatEventSpec)) fnExactFormatEventUptoCard

/-- THE SECOND FORM's CARD OF 'laws.FnExactSortEvents'. -/
def fnExactSortEventsUptoCard : Claim7 := { stood := { row := fnExactSortEventsUptoRow, standIns := [], harness := (true, "406c3948e2131a8be68dfc70b02e1f6ee66806a54ed0eb20642d1c9af4c7d601"), looks := false }, kinds := [], alts := [], laidByText := true, laidKinds := [.data, .pinned], laidTests := true, laidLooks := .later }
def FnExactSortEventsUptoCardSaid : Prop := Claim7.holds Tryd.pinned (.plain (OpenSpec.upto fnExactSortEventsSpec)) fnExactSortEventsUptoCard

/-- THE SECOND FORM's CARD OF 'laws.FnExactMergeEvents'. -/
def fnExactMergeEventsUptoCard : Claim7 := { stood := { row := fnExactMergeEventsUptoRow, standIns := [], harness := (true, "406c3948e2131a8be68dfc70b02e1f6ee66806a54ed0eb20642d1c9af4c7d601"), looks := false }, kinds := [], alts := [], laidByText := true, laidKinds := [.data, .pinned], laidTests := true, laidLooks := .later }
def FnExactMergeEventsUptoCardSaid : Prop := Claim7.holds Tryd.pinned (.plain (OpenSpec.upto fnExactMergeEventsSpec)) fnExactMergeEventsUptoCard

/-- THE SECOND FORM's CARD OF 'laws.FnExactFormatEvents'. -/
def fnExactFormatEventsUptoCard : Claim7 := { stood := { row := fnExactFormatEventsUptoRow, standIns := [], harness := (true, "406c3948e2131a8be68dfc70b02e1f6ee66806a54ed0eb20642d1c9af4c7d601"), looks := false }, kinds := [], alts := [], laidByText := true, laidKinds := [.data, .data, .data, .data, .pinned], laidTests := true, laidLooks := .later }
def FnExactFormatEventsUptoCardSaid : Prop := Claim7.holds Tryd.pinned (.plain (OpenSpec.upto fnExactFormatEventsSpec)) fnExactFormatEventsUptoCard

/-- THE SECOND FORM's CARD OF 'laws.FnEvents'. -/
def fnEventsUptoCard : Claim7 := { stood := { row := fnEventsUptoRow, standIns := [], harness := (true, "406c3948e2131a8be68dfc70b02e1f6ee66806a54ed0eb20642d1c9af4c7d601"), looks := false }, kinds := [], alts := [], laidByText := true, laidKinds := [.data, .pinned], laidTests := true, laidLooks := .later }
def FnEventsUptoCardSaid : Prop := Claim7.holds Tryd.pinned (.plain (OpenSpec.upto fnEventsSpec)) fnEventsUptoCard
end Rows
end Go.Proofs.YtgcnameabpnpaaaDoor
