/-
  DERIVED. GIVEN WITH THE SEED: THE CARDS: each row of YtniljljgdoncpaaGreatDoorRows.lean that lists a variable, with what it lists TIED to the program's text (the seventh form; the later family's looks); each row that meets fmt, with fmt's text TOLD by the authors' own Lean function (tested against real Go, not proved from fmt's source: count such statements apart). THE CARD IS WHAT COUNTS. Prove the row's statement (the work); the ties are given (YtniljljgdoncpaaGreatDoorTie.lean); close each card by the builder's one call (the guide's Derived/Test/ToyasCard.lean, 'card_holds'). Laid BY PROGRAM, IN A SANDBOX (cutbox-door.mjs). By AI agents, Wed Nov 11 2026. No macro, syntax, notation, axiom, sorry.
-/
import Derived.Test.YtniljljgdoncpaaGreatDoorRows
import GoSem.ClaimSeven
namespace Go.Proofs.YtniljljgdoncpaaGreatDoor
namespace Rows

/-- THE TIED CARD OF 'laws.FnExactFirstBreach'. -/
def fnExactFirstBreachCard : Claim7 := { stood := { row := fnExactFirstBreachRow, standIns := [], harness := (true, "e302edd7af50f8d5e740668333e25115391edcbaf7252dc104e8ec567d7cca8a"), looks := true }, kinds := [], alts := [], laidByText := true, laidKinds := [.data, .pinned], laidTests := true, laidLooks := .later }
def FnExactFirstBreachCardSaid : Prop := Claim7.holds Tryz.pinned (.plain (OpenSpec.ofChange fnExactFirstBreachSpec)) fnExactFirstBreachCard

/-- THE TIED CARD OF 'laws.FnExactMissingRemedies'. -/
def fnExactMissingRemediesCard : Claim7 := { stood := { row := fnExactMissingRemediesRow, standIns := [], harness := (true, "e302edd7af50f8d5e740668333e25115391edcbaf7252dc104e8ec567d7cca8a"), looks := true }, kinds := [], alts := [], laidByText := true, laidKinds := [.data, .pinned], laidTests := true, laidLooks := .later }
def FnExactMissingRemediesCardSaid : Prop := Claim7.holds Tryz.pinned (.plain (OpenSpec.ofChange fnExactMissingRemediesSpec)) fnExactMissingRemediesCard

/-- THE TIED CARD OF 'laws.FnExactEndlessRepairs'. -/
def fnExactEndlessRepairsCard : Claim7 := { stood := { row := fnExactEndlessRepairsRow, standIns := [], harness := (true, "e302edd7af50f8d5e740668333e25115391edcbaf7252dc104e8ec567d7cca8a"), looks := true }, kinds := [], alts := [], laidByText := true, laidKinds := [.data, .pinned], laidTests := true, laidLooks := .later }
def FnExactEndlessRepairsCardSaid : Prop := Claim7.holds Tryz.pinned (.plain (OpenSpec.ofChange fnExactEndlessRepairsSpec)) fnExactEndlessRepairsCard

/-- THE TIED CARD OF 'laws.FnConditions'. -/
def fnConditionsCard : Claim7 := { stood := { row := fnConditionsRow, standIns := [], harness := (true, "e302edd7af50f8d5e740668333e25115391edcbaf7252dc104e8ec567d7cca8a"), looks := true }, kinds := [], alts := [], laidByText := true, laidKinds := [.data, .data, .data, .data, .sentinel, .sentinel, .pinned], laidTests := true, laidLooks := .later }
def FnConditionsCardSaid : Prop := Claim7.holds Tryz.pinned (.plain (OpenSpec.ofChange fnConditionsSpec)) fnConditionsCard

/-- THE TIED CARD OF 'laws.FnExactBreachesBy'. -/
def fnExactBreachesByCard : Claim7 := { stood := { row := fnExactBreachesByRow, standIns := [], harness := (true, "e302edd7af50f8d5e740668333e25115391edcbaf7252dc104e8ec567d7cca8a"), looks := true }, kinds := [], alts := [], laidByText := true, laidKinds := [.data, .pinned], laidTests := true, laidLooks := .later }
def FnExactBreachesByCardSaid : Prop := Claim7.holds Tryz.pinned (.plain (OpenSpec.ofChange fnExactBreachesBySpec)) fnExactBreachesByCard

/-- THE TIED CARD OF 'laws.FnExactNeverHolding'. -/
def fnExactNeverHoldingCard : Claim7 := { stood := { row := fnExactNeverHoldingRow, standIns := [], harness := (true, "e302edd7af50f8d5e740668333e25115391edcbaf7252dc104e8ec567d7cca8a"), looks := true }, kinds := [], alts := [], laidByText := true, laidKinds := [.data, .pinned], laidTests := true, laidLooks := .later }
def FnExactNeverHoldingCardSaid : Prop := Claim7.holds Tryz.pinned (.plain (OpenSpec.ofChange fnExactNeverHoldingSpec)) fnExactNeverHoldingCard

/-- THE TIED CARD OF 'laws.FnExactClashingClauses'. -/
def fnExactClashingClausesCard : Claim7 := { stood := { row := fnExactClashingClausesRow, standIns := [], harness := (true, "e302edd7af50f8d5e740668333e25115391edcbaf7252dc104e8ec567d7cca8a"), looks := true }, kinds := [], alts := [], laidByText := true, laidKinds := [.data, .pinned], laidTests := true, laidLooks := .later }
def FnExactClashingClausesCardSaid : Prop := Claim7.holds Tryz.pinned (.plain (OpenSpec.ofChange fnExactClashingClausesSpec)) fnExactClashingClausesCard

/-- THE SECOND FORM's CARD OF 'laws.FnExactFirstBreach'. -/
def fnExactFirstBreachUptoCard : Claim7 := { stood := { row := fnExactFirstBreachUptoRow, standIns := [], harness := (true, "e302edd7af50f8d5e740668333e25115391edcbaf7252dc104e8ec567d7cca8a"), looks := true }, kinds := [], alts := [], laidByText := true, laidKinds := [.data, .pinned], laidTests := true, laidLooks := .later }
def FnExactFirstBreachUptoCardSaid : Prop := Claim7.holds Tryz.pinned (.plain (OpenSpec.upto fnExactFirstBreachSpec)) fnExactFirstBreachUptoCard

/-- THE SECOND FORM's CARD OF 'laws.FnExactMissingRemedies'. -/
def fnExactMissingRemediesUptoCard : Claim7 := { stood := { row := fnExactMissingRemediesUptoRow, standIns := [], harness := (true, "e302edd7af50f8d5e740668333e25115391edcbaf7252dc104e8ec567d7cca8a"), looks := true }, kinds := [], alts := [], laidByText := true, laidKinds := [.data, .pinned], laidTests := true, laidLooks := .later }
def FnExactMissingRemediesUptoCardSaid : Prop := Claim7.holds Tryz.pinned (.plain (OpenSpec.upto fnExactMissingRemediesSpec)) fnExactMissingRemediesUptoCard

/-- THE SECOND FORM's CARD OF 'laws.FnExactEndlessRepairs'. -/
def fnExactEndlessRepairsUptoCard : Claim7 := { stood := { row := fnExactEndlessRepairsUptoRow, standIns := [], harness := (true, "e302edd7af50f8d5e740668333e25115391edcbaf7252dc104e8ec567d7cca8a"), looks := true }, kinds := [], alts := [], laidByText := true, laidKinds := [.data, .pinned], laidTests := true, laidLooks := .later }
def FnExactEndlessRepairsUptoCardSaid : Prop := Claim7.holds Tryz.pinned (.plain (OpenSpec.upto fnExactEndlessRepairsSpec)) fnExactEndlessRepairsUptoCard

/-- THE SECOND FORM's CARD OF 'laws.FnConditions'. -/
def fnConditionsUptoCard : Claim7 := { stood := { row := fnConditionsUptoRow, standIns := [], harness := (true, "e302edd7af50f8d5e740668333e25115391edcbaf7252dc104e8ec567d7cca8a"), looks := true }, kinds := [], alts := [], laidByText := true, laidKinds := [.data, .data, .data, .data, .sentinel, .sentinel, .pinned], laidTests := true, laidLooks := .later }
def FnConditionsUptoCardSaid : Prop := Claim7.holds Tryz.pinned (.plain (OpenSpec.upto fnConditionsSpec)) fnConditionsUptoCard

/-- THE SECOND FORM's CARD OF 'laws.FnExactBreachesBy'. -/
def fnExactBreachesByUptoCard : Claim7 := { stood := { row := fnExactBreachesByUptoRow, standIns := [], harness := (true, "e302edd7af50f8d5e740668333e25115391edcbaf7252dc104e8ec567d7cca8a"), looks := true }, kinds := [], alts := [], laidByText := true, laidKinds := [.data, .pinned], laidTests := true, laidLooks := .later }
def FnExactBreachesByUptoCardSaid : Prop := Claim7.holds Tryz.pinned (.plain (OpenSpec.upto fnExactBreachesBySpec)) fnExactBreachesByUptoCard

/-- THE SECOND FORM's CARD OF 'laws.FnExactNeverHolding'. -/
def fnExactNeverHoldingUptoCard : Claim7 := { stood := { row := fnExactNeverHoldingUptoRow, standIns := [], harness := (true, "e302edd7af50f8d5e740668333e25115391edcbaf7252dc104e8ec567d7cca8a"), looks := true }, kinds := [], alts := [], laidByText := true, laidKinds := [.data, .pinned], laidTests := true, laidLooks := .later }
def FnExactNeverHoldingUptoCardSaid : Prop := Claim7.holds Tryz.pinned (.plain (OpenSpec.upto fnExactNeverHoldingSpec)) fnExactNeverHoldingUptoCard

/-- THE SECOND FORM's CARD OF 'laws.FnExactClashingClauses'. -/
def fnExactClashingClausesUptoCard : Claim7 := { stood := { row := fnExactClashingClausesUptoRow, standIns := [], harness := (true, "e302edd7af50f8d5e740668333e25115391edcbaf7252dc104e8ec567d7cca8a"), looks := true }, kinds := [], alts := [], laidByText := true, laidKinds := [.data, .pinned], laidTests := true, laidLooks := .later }
def FnExactClashingClausesUptoCardSaid : Prop := Claim7.holds Tryz.pinned (.plain (OpenSpec.upto fnExactClashingClausesSpec)) fnExactClashingClausesUptoCard
end Rows
end Go.Proofs.YtniljljgdoncpaaGreatDoor
