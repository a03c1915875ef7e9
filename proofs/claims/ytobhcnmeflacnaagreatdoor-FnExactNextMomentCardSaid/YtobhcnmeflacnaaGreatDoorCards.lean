/-
  DERIVED. GIVEN WITH THE SEED: THE CARDS: each row of YtobhcnmeflacnaaGreatDoorRows.lean that lists a variable, with what it lists TIED to the program's text (the seventh form; the later family's looks); each row that meets fmt, with fmt's text TOLD by the authors' own Lean function (tested against real Go, not proved from fmt's source: count such statements apart). THE CARD IS WHAT COUNTS. Prove the row's statement (the work); the ties are given (YtobhcnmeflacnaaGreatDoorTie.lean); close each card by the builder's one call (the guide's Derived/Test/ToyasCard.lean, 'card_holds'). Laid BY PROGRAM, IN A SANDBOX (cutbox-door.mjs). By AI agents, Wed Nov 11 2026. No macro, syntax, notation, axiom, sorry.
-/
import Derived.Test.YtobhcnmeflacnaaGreatDoorRows
import GoSem.ClaimSeven
namespace Go.Proofs.YtobhcnmeflacnaaGreatDoor
namespace Rows

/-- THE TIED CARD OF 'laws.FnExactIsValidState'. -/
def fnExactIsValidStateCard : Claim7 := { stood := { row := fnExactIsValidStateRow, standIns := [], harness := (true, "9e992bece83d8d1f57c8211ac8faa222aaaad849cd48d5ef48358a0b93f61551"), looks := false }, kinds := [], alts := [], laidByText := true, laidKinds := [.data, .pinned], laidTests := true, laidLooks := .later }
def FnExactIsValidStateCardSaid : Prop := Claim7.holds Tryz.pinned (.plain (OpenSpec.ofChange fnExactIsValidStateSpec)) fnExactIsValidStateCard

/-- THE TIED CARD OF 'laws.FnExactIsFulfilled'. -/
def fnExactIsFulfilledCard : Claim7 := { stood := { row := fnExactIsFulfilledRow, standIns := [], harness := (true, "9e992bece83d8d1f57c8211ac8faa222aaaad849cd48d5ef48358a0b93f61551"), looks := false }, kinds := [], alts := [], laidByText := true, laidKinds := [.data, .pinned], laidTests := true, laidLooks := .later }
def FnExactIsFulfilledCardSaid : Prop := Claim7.holds Tryz.pinned (.plain (OpenSpec.ofChange fnExactIsFulfilledSpec)) fnExactIsFulfilledCard

/-- THE TIED CARD OF 'laws.FnExactReorderParties'. -/
def fnExactReorderPartiesCard : Claim7 := { stood := { row := fnExactReorderPartiesRow, standIns := [], harness := (true, "9e992bece83d8d1f57c8211ac8faa222aaaad849cd48d5ef48358a0b93f61551"), looks := false }, kinds := [], alts := [], laidByText := true, laidKinds := [.data, .pinned], laidTests := true, laidLooks := .later }
def FnExactReorderPartiesCardSaid : Prop := Claim7.holds Tryz.pinned (.plain (OpenSpec.ofChange fnExactReorderPartiesSpec)) fnExactReorderPartiesCard

/-- THE TIED CARD OF 'laws.FnExactIdlePermissions'. -/
def fnExactIdlePermissionsCard : Claim7 := { stood := { row := fnExactIdlePermissionsRow, standIns := [], harness := (true, "9e992bece83d8d1f57c8211ac8faa222aaaad849cd48d5ef48358a0b93f61551"), looks := false }, kinds := [], alts := [], laidByText := true, laidKinds := [.data, .pinned], laidTests := true, laidLooks := .later }
def FnExactIdlePermissionsCardSaid : Prop := Claim7.holds Tryz.pinned (.plain (OpenSpec.ofChange fnExactIdlePermissionsSpec)) fnExactIdlePermissionsCard

/-- THE TIED CARD OF 'laws.FnExactHoldsNow'. -/
def fnExactHoldsNowCard : Claim7 := { stood := { row := fnExactHoldsNowRow, standIns := [], harness := (true, "9e992bece83d8d1f57c8211ac8faa222aaaad849cd48d5ef48358a0b93f61551"), looks := false }, kinds := [], alts := [], laidByText := true, laidKinds := [.data, .pinned], laidTests := true, laidLooks := .later }
def FnExactHoldsNowCardSaid : Prop := Claim7.holds Tryz.pinned (.plain (OpenSpec.ofChange fnExactHoldsNowSpec)) fnExactHoldsNowCard

/-- THE TIED CARD OF 'laws.FnExactNextMoment'. -/
def fnExactNextMomentCard : Claim7 := { stood := { row := fnExactNextMomentRow, standIns := [], harness := (true, "9e992bece83d8d1f57c8211ac8faa222aaaad849cd48d5ef48358a0b93f61551"), looks := false }, kinds := [], alts := [], laidByText := true, laidKinds := [.data, .pinned], laidTests := true, laidLooks := .later }
def FnExactNextMomentCardSaid : Prop := Claim7.holds Tryz.pinned (.plain (OpenSpec.ofChange fnExactNextMomentSpec)) fnExactNextMomentCard

/-- THE TIED CARD OF 'laws.FnExactPowerFor'. -/
def fnExactPowerForCard : Claim7 := { stood := { row := fnExactPowerForRow, standIns := [], harness := (true, "9e992bece83d8d1f57c8211ac8faa222aaaad849cd48d5ef48358a0b93f61551"), looks := false }, kinds := [], alts := [], laidByText := true, laidKinds := [.data, .pinned], laidTests := true, laidLooks := .later }
def FnExactPowerForCardSaid : Prop := Claim7.holds Tryz.pinned (.plain (OpenSpec.ofChange fnExactPowerForSpec)) fnExactPowerForCard

/-- THE TIED CARD OF 'laws.FnExactIsForbidden'. -/
def fnExactIsForbiddenCard : Claim7 := { stood := { row := fnExactIsForbiddenRow, standIns := [], harness := (true, "9e992bece83d8d1f57c8211ac8faa222aaaad849cd48d5ef48358a0b93f61551"), looks := false }, kinds := [], alts := [], laidByText := true, laidKinds := [.data, .pinned], laidTests := true, laidLooks := .later }
def FnExactIsForbiddenCardSaid : Prop := Claim7.holds Tryz.pinned (.plain (OpenSpec.ofChange fnExactIsForbiddenSpec)) fnExactIsForbiddenCard

/-- THE TIED CARD OF 'laws.FnExactFormatClause'. -/
def fnExactFormatClauseCard : Claim7 := { stood := { row := fnExactFormatClauseRow, standIns := [], harness := (true, "9e992bece83d8d1f57c8211ac8faa222aaaad849cd48d5ef48358a0b93f61551"), looks := false }, kinds := [], alts := [], laidByText := true, laidKinds := [.data, .data, .data, .data, .pinned], laidTests := true, laidLooks := .later }
def FnExactFormatClauseCardSaid : Prop := Claim7.holds Tryz.pinned (.plain (OpenSpec.ofChange fnExactFormatClauseSpec)) fnExactFormatClauseCard

/-- THE TIED CARD OF 'laws.FnExactFormatTrace'. -/
def fnExactFormatTraceCard : Claim7 := { stood := { row := fnExactFormatTraceRow, standIns := [], harness := (true, "9e992bece83d8d1f57c8211ac8faa222aaaad849cd48d5ef48358a0b93f61551"), looks := false }, kinds := [], alts := [], laidByText := true, laidKinds := [.data, .data, .data, .data, .pinned], laidTests := true, laidLooks := .later }
def FnExactFormatTraceCardSaid : Prop := Claim7.holds Tryz.pinned (.plain (OpenSpec.ofChange fnExactFormatTraceSpec)) fnExactFormatTraceCard

/-- THE TIED CARD OF 'laws.FnExactFormatContract'. -/
def fnExactFormatContractCard : Claim7 := { stood := { row := fnExactFormatContractRow, standIns := [], harness := (true, "9e992bece83d8d1f57c8211ac8faa222aaaad849cd48d5ef48358a0b93f61551"), looks := false }, kinds := [], alts := [], laidByText := true, laidKinds := [.data, .data, .data, .data, .pinned], laidTests := true, laidLooks := .later }
def FnExactFormatContractCardSaid : Prop := Claim7.holds Tryz.pinned (.plain (OpenSpec.ofChange fnExactFormatContractSpec)) fnExactFormatContractCard

/-- THE TIED CARD OF 'laws.FnExactMovesOf'. -/
def fnExactMovesOfCard : Claim7 := { stood := { row := fnExactMovesOfRow, standIns := [], harness := (true, "9e992bece83d8d1f57c8211ac8faa222aaaad849cd48d5ef48358a0b93f61551"), looks := false }, kinds := [], alts := [], laidByText := true, laidKinds := [.data, .pinned], laidTests := true, laidLooks := .later }
def FnExactMovesOfCardSaid : Prop := Claim7.holds Tryz.pinned (.plain (OpenSpec.ofChange fnExactMovesOfSpec)) fnExactMovesOfCard

/-- THE SECOND FORM's CARD OF 'laws.FnExactIsValidState'. -/
def fnExactIsValidStateUptoCard : Claim7 := { stood := { row := fnExactIsValidStateUptoRow, standIns := [], harness := (true, "9e992bece83d8d1f57c8211ac8faa222aaaad849cd48d5ef48358a0b93f61551"), looks := false }, kinds := [], alts := [], laidByText := true, laidKinds := [.data, .pinned], laidTests := true, laidLooks := .later }
def FnExactIsValidStateUptoCardSaid : Prop := Claim7.holds Tryz.pinned (.plain (OpenSpec.upto fnExactIsValidStateSpec)) fnExactIsValidStateUptoCard

/-- THE SECOND FORM's CARD OF 'laws.FnExactIsFulfilled'. -/
def fnExactIsFulfilledUptoCard : Claim7 := { stood := { row := fnExactIsFulfilledUptoRow, standIns := [], harness := (true, "9e992bece83d8d1f57c8211ac8faa222aaaad849cd48d5ef48358a0b93f61551"), looks := false }, kinds := [], alts := [], laidByText := true, laidKinds := [.data, .pinned], laidTests := true, laidLooks := .later }
def FnExactIsFulfilledUptoCardSaid : Prop := Claim7.holds Tryz.pinned (.plain (OpenSpec.upto fnExactIsFulfilledSpec)) fnExactIsFulfilledUptoCard

/-- THE SECOND FORM's CARD OF 'laws.FnExactReorderParties'. -/
def fnExactReorderPartiesUptoCard : Claim7 := { stood := { row := fnExactReorderPartiesUptoRow, standIns := [], harness := (true, "9e992bece83d8d1f57c8211ac8faa222aaaad849cd48d5ef48358a0b93f61551"), looks := false }, kinds := [], alts := [], laidByText := true, laidKinds := [.data, .pinned], laidTests := true, laidLooks := .later }
def FnExactReorderPartiesUptoCardSaid : Prop := Claim7.holds Tryz.pinned (.plain (OpenSpec.upto fnExactReorderPartiesSpec)) fnExactReorderPartiesUptoCard

/-- THE SECOND FORM's CARD OF 'laws.FnExactIdlePermissions'. -/
def fnExactIdlePermissionsUptoCard : Claim7 := { stood := { row := fnExactIdlePermissionsUptoRow, standIns := [], harness := (true, "9e992bece83d8d1f57c8211ac8faa222aaaad849cd48d5ef48358a0b93f61551"), looks := false }, kinds := [], alts := [], laidByText := true, laidKinds := [.data, .pinned], laidTests := true, laidLooks := .later }
def FnExactIdlePermissionsUptoCardSaid : Prop := Claim7.holds Tryz.pinned (.plain (OpenSpec.upto fnExactIdlePermissionsSpec)) fnExactIdlePermissionsUptoCard

/-- THE SECOND FORM's CARD OF 'laws.FnExactHoldsNow'. -/
def fnExactHoldsNowUptoCard : Claim7 := { stood := { row := fnExactHoldsNowUptoRow, standIns := [], harness := (true, "9e992bece83d8d1f57c8211ac8faa222aaaad849cd48d5ef48358a0b93f61551"), looks := false }, kinds := [], alts := [], laidByText := true, laidKinds := [.data, .pinned], laidTests := true, laidLooks := .later }
def FnExactHoldsNowUptoCardSaid : Prop := Claim7.holds Tryz.pinned (.plain (OpenSpec.upto fnExactHoldsNowSpec)) fnExactHoldsNowUptoCard

/-- THE SECOND FORM's CARD OF 'laws.FnExactNextMoment'. -/
def fnExactNextMomentUptoCard : Claim7 := { stood := { row := fnExactNextMomentUptoRow, standIns := [], harness := (true, "9e992bece83d8d1f57c8211ac8faa222aaaad849cd48d5ef48358a0b93f61551"), looks := false }, kinds := [], alts := [], laidByText := true, laidKinds := [.data, .pinned], laidTests := true, laidLooks := .later }
def FnExactNextMomentUptoCardSaid : Prop := Claim7.holds Tryz.pinned (.plain (OpenSpec.upto fnExactNextMomentSpec)) fnExactNextMomentUptoCard

/-- THE SECOND FORM's CARD OF 'laws.FnExactPowerFor'. -/
def fnExactPowerForUptoCard : Claim7 := { stood := { row := fnExactPowerForUptoRow, standIns := [], harness := (true, "9e992bece83d8d1f57c8211ac8faa222aaaad849cd48d5ef48358a0b93f61551"), looks := false }, kinds := [], alts := [], laidByText := true, laidKinds := [.data, .pinned], laidTests := true, laidLooks := .later }
def FnExactPowerForUptoCardSaid : Prop := Claim7.holds Tryz.pinned (.plain (OpenSpec.upto fnExactPowerForSpec)) fnExactPowerForUptoCard

/-- THE SECOND FORM's CARD OF 'laws.FnExactIsForbidden'. -/
def fnExactIsForbiddenUptoCard : Claim7 := { stood := { row := fnExactIsForbiddenUptoRow, standIns := [], harness := (true, "9e992bece83d8d1f57c8211ac8faa222aaaad849cd48d5ef48358a0b93f61551"), looks := false }, kinds := [], alts := [], laidByText := true, laidKinds := [.data, .pinned], laidTests := true, laidLooks := .later }
def FnExactIsForbiddenUptoCardSaid : Prop := Claim7.holds Tryz.pinned (.plain (OpenSpec.upto fnExactIsForbiddenSpec)) fnExactIsForbiddenUptoCard

/-- THE SECOND FORM's CARD OF 'laws.FnExactFormatClause'. -/
def fnExactFormatClauseUptoCard : Claim7 := { stood := { row := fnExactFormatClauseUptoRow, standIns := [], harness := (true, "9e992bece83d8d1f57c8211ac8faa222aaaad849cd48d5ef48358a0b93f61551"), looks := false }, kinds := [], alts := [], laidByText := true, laidKinds := [.data, .data, .data, .data, .pinned], laidTests := true, laidLooks := .later }
def FnExactFormatClauseUptoCardSaid : Prop := Claim7.holds Tryz.pinned (.plain (OpenSpec.upto fnExactFormatClauseSpec)) fnExactFormatClauseUptoCard

/-- THE SECOND FORM's CARD OF 'laws.FnExactFormatTrace'. -/
def fnExactFormatTraceUptoCard : Claim7 := { stood := { row := fnExactFormatTraceUptoRow, standIns := [], harness := (true, "9e992bece83d8d1f57c8211ac8faa222aaaad849cd48d5ef48358a0b93f61551"), looks := false }, kinds := [], alts := [], laidByText := true, laidKinds := [.data, .data, .data, .data, .pinned], laidTests := true, laidLooks := .later }
def FnExactFormatTraceUptoCardSaid : Prop := Claim7.holds Tryz.pinned (.plain (OpenSpec.upto fnExactFormatTraceSpec)) fnExactFormatTraceUptoCard

/-- THE SECOND FORM's CARD OF 'laws.FnExactFormatContract'. -/
def fnExactFormatContractUptoCard : Claim7 := { stood := { row := fnExactFormatContractUptoRow, standIns := [], harness := (true, "9e992bece83d8d1f57c8211ac8faa222aaaad849cd48d5ef48358a0b93f61551"), looks := false }, kinds := [], alts := [], laidByText := true, laidKinds := [.data, .data, .data, .data, .pinned], laidTests := true, laidLooks := .later }
def FnExactFormatContractUptoCardSaid : Prop := Claim7.holds Tryz.pinned (.plain (OpenSpec.upto fnExactFormatContractSpec)) fnExactFormatContractUptoCard

/-- THE SECOND FORM's CARD OF 'laws.FnExactMovesOf'. -/
def fnExactMovesOfUptoCard : Claim7 := { stood := { row := fnExactMovesOfUptoRow, standIns := [], harness := (true, "9e992bece83d8d1f57c8211ac8faa222aaaad849cd48d5ef48358a0b93f61551"), looks := false }, kinds := [], alts := [], laidByText := true, laidKinds := [.data, .pinned], laidTests := true, laidLooks := .later }
def FnExactMovesOfUptoCardSaid : Prop := Claim7.holds Tryz.pinned (.plain (OpenSpec.upto fnExactMovesOfSpec)) fnExactMovesOfUptoCard
end Rows
end Go.Proofs.YtobhcnmeflacnaaGreatDoor
