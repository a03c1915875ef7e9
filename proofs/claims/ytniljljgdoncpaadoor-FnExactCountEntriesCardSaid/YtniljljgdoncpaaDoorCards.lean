/-
  DERIVED. GIVEN WITH THE SEED: THE CARDS: each row of YtniljljgdoncpaaDoorRows.lean that lists a variable, with what it lists TIED to the program's text (the seventh form; the later family's looks); each row that meets fmt, with fmt's text TOLD by the authors' own Lean function (tested against real Go, not proved from fmt's source: count such statements apart). THE CARD IS WHAT COUNTS. Prove the row's statement (the work); the ties are given (YtniljljgdoncpaaDoorTie.lean); close each card by the builder's one call (the guide's Derived/Test/ToyasCard.lean, 'card_holds'). Laid BY PROGRAM, IN A SANDBOX (cutbox-door.mjs). By AI agents, Wed Nov 11 2026. No macro, syntax, notation, axiom, sorry.
-/
import Derived.Test.YtniljljgdoncpaaDoorRows
import GoSem.ClaimSeven
namespace Go.Proofs.YtniljljgdoncpaaDoor
namespace Rows

/-- THE TIED CARD OF 'laws.FnExactConditionsMeet'. -/
def fnExactConditionsMeetCard : Claim7 := { stood := { row := fnExactConditionsMeetRow, standIns := [], harness := (true, "b31bf5b8a880cab66be4b30fa0a2327d4bab9ac36f0f56d3f95138d75365a032"), looks := true }, kinds := [], alts := [], laidByText := true, laidKinds := [.data, .pinned], laidTests := true, laidLooks := .later }
def FnExactConditionsMeetCardSaid : Prop := Claim7.holds Tryd.pinned (.plain (OpenSpec.ofChange fnExactConditionsMeetSpec)) fnExactConditionsMeetCard

/-- THE TIED CARD OF 'laws.FnImplications'. -/
def fnImplicationsCard : Claim7 := { stood := { row := fnImplicationsRow, standIns := [], harness := (true, "b31bf5b8a880cab66be4b30fa0a2327d4bab9ac36f0f56d3f95138d75365a032"), looks := true }, kinds := [], alts := [], laidByText := true, laidKinds := [.data, .pinned], laidTests := true, laidLooks := .later }
def FnImplicationsCardSaid : Prop := Claim7.holds Tryd.pinned (.plain (OpenSpec.ofChange fnImplicationsSpec)) fnImplicationsCard

/-- THE TIED CARD OF 'laws.FnExactLiabilityOf'. -/
def fnExactLiabilityOfCard : Claim7 := { stood := { row := fnExactLiabilityOfRow, standIns := [], harness := (true, "b31bf5b8a880cab66be4b30fa0a2327d4bab9ac36f0f56d3f95138d75365a032"), looks := true }, kinds := [], alts := [], laidByText := true, laidKinds := [.data, .pinned], laidTests := true, laidLooks := .later }
def FnExactLiabilityOfCardSaid : Prop := Claim7.holds Tryd.pinned (.plain (OpenSpec.ofChange fnExactLiabilityOfSpec)) fnExactLiabilityOfCard

/-- THE TIED CARD OF 'laws.FnExactParseCondition'. -/
def fnExactParseConditionCard : Claim7 := { stood := { row := fnExactParseConditionRow, standIns := [], harness := (true, "b31bf5b8a880cab66be4b30fa0a2327d4bab9ac36f0f56d3f95138d75365a032"), looks := true }, kinds := [], alts := [], laidByText := true, laidKinds := [.data, .data, .data, .data, .sentinel, .sentinel, .pinned], laidTests := true, laidLooks := .later }
def FnExactParseConditionCardSaid : Prop := Claim7.holds Tryd.pinned (.plain (OpenSpec.ofChange fnExactParseConditionSpec)) fnExactParseConditionCard

/-- THE TIED CARD OF 'laws.FnExactCountEntries'. -/
def fnExactCountEntriesCard : Claim7 := { stood := { row := fnExactCountEntriesRow, standIns := [], harness := (true, "b31bf5b8a880cab66be4b30fa0a2327d4bab9ac36f0f56d3f95138d75365a032"), looks := true }, kinds := [], alts := [], laidByText := true, laidKinds := [.data, .pinned], laidTests := true, laidLooks := .later }
def FnExactCountEntriesCardSaid : Prop := Claim7.holds Tryd.pinned (.plain (OpenSpec.ofChange fnExactCountEntriesSpec)) fnExactCountEntriesCard

/-- THE SECOND FORM's CARD OF 'laws.FnExactConditionsMeet'. -/
def fnExactConditionsMeetUptoCard : Claim7 := { stood := { row := fnExactConditionsMeetUptoRow, standIns := [], harness := (true, "b31bf5b8a880cab66be4b30fa0a2327d4bab9ac36f0f56d3f95138d75365a032"), looks := true }, kinds := [], alts := [], laidByText := true, laidKinds := [.data, .pinned], laidTests := true, laidLooks := .later }
def FnExactConditionsMeetUptoCardSaid : Prop := Claim7.holds Tryd.pinned (.plain (OpenSpec.upto fnExactConditionsMeetSpec)) fnExactConditionsMeetUptoCard

/-- THE SECOND FORM's CARD OF 'laws.FnImplications'. -/
def fnImplicationsUptoCard : Claim7 := { stood := { row := fnImplicationsUptoRow, standIns := [], harness := (true, "b31bf5b8a880cab66be4b30fa0a2327d4bab9ac36f0f56d3f95138d75365a032"), looks := true }, kinds := [], alts := [], laidByText := true, laidKinds := [.data, .pinned], laidTests := true, laidLooks := .later }
def FnImplicationsUptoCardSaid : Prop := Claim7.holds Tryd.pinned (.plain (OpenSpec.upto fnImplicationsSpec)) fnImplicationsUptoCard

/-- THE SECOND FORM's CARD OF 'laws.FnExactLiabilityOf'. -/
def fnExactLiabilityOfUptoCard : Claim7 := { stood := { row := fnExactLiabilityOfUptoRow, standIns := [], harness := (true, "b31bf5b8a880cab66be4b30fa0a2327d4bab9ac36f0f56d3f95138d75365a032"), looks := true }, kinds := [], alts := [], laidByText := true, laidKinds := [.data, .pinned], laidTests := true, laidLooks := .later }
def FnExactLiabilityOfUptoCardSaid : Prop := Claim7.holds Tryd.pinned (.plain (OpenSpec.upto fnExactLiabilityOfSpec)) fnExactLiabilityOfUptoCard

/-- THE SECOND FORM's CARD OF 'laws.FnExactParseCondition'. -/
def fnExactParseConditionUptoCard : Claim7 := { stood := { row := fnExactParseConditionUptoRow, standIns := [], harness := (true, "b31bf5b8a880cab66be4b30fa0a2327d4bab9ac36f0f56d3f95138d75365a032"), looks := true }, kinds := [], alts := [], laidByText := true, laidKinds := [.data, .data, .data, .data, .sentinel, .sentinel, .pinned], laidTests := true, laidLooks := .later }
def FnExactParseConditionUptoCardSaid : Prop := Claim7.holds Tryd.pinned (.plain (OpenSpec.upto fnExactParseConditionSpec)) fnExactParseConditionUptoCard

/-- THE SECOND FORM's CARD OF 'laws.FnExactCountEntries'. -/
def fnExactCountEntriesUptoCard : Claim7 := { stood := { row := fnExactCountEntriesUptoRow, standIns := [], harness := (true, "b31bf5b8a880cab66be4b30fa0a2327d4bab9ac36f0f56d3f95138d75365a032"), looks := true }, kinds := [], alts := [], laidByText := true, laidKinds := [.data, .pinned], laidTests := true, laidLooks := .later }
def FnExactCountEntriesUptoCardSaid : Prop := Claim7.holds Tryd.pinned (.plain (OpenSpec.upto fnExactCountEntriesSpec)) fnExactCountEntriesUptoCard
end Rows
end Go.Proofs.YtniljljgdoncpaaDoor
