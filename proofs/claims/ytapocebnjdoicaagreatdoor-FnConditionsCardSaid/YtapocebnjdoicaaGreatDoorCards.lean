/-
  DERIVED. GIVEN WITH THE SEED: THE CARDS: each row of YtapocebnjdoicaaGreatDoorRows.lean that lists a variable, with what it lists TIED to the program's text (the seventh form; the later family's looks); each row that meets fmt, with fmt's text TOLD by the authors' own Lean function (tested against real Go, not proved from fmt's source: count such statements apart). THE CARD IS WHAT COUNTS. Prove the row's statement (the work); the ties are given (YtapocebnjdoicaaGreatDoorTie.lean); close each card by the builder's one call (the guide's Derived/Test/ToyasCard.lean, 'card_holds'). Laid BY PROGRAM, IN A SANDBOX (cutbox-door.mjs). By AI agents, Wed Nov 11 2026. No macro, syntax, notation, axiom, sorry.
-/
import Derived.Test.YtapocebnjdoicaaGreatDoorRows
import GoSem.ClaimSeven
namespace Go.Proofs.YtapocebnjdoicaaGreatDoor
namespace Rows

/-- THE TIED CARD OF 'laws.FnConditions'. -/
def fnConditionsCard : Claim7 := { stood := { row := fnConditionsRow, standIns := [], harness := (true, "316846e793e364b26b43099e49b58c6b4e47295806bfaf96e017346e368c93f8"), looks := true }, kinds := [], alts := [], laidByText := true, laidKinds := [.data, .data, .data, .data, .sentinel, .sentinel, .pinned], laidTests := true, laidLooks := .later }
def FnConditionsCardSaid : Prop := Claim7.holds Tryz.pinned (.plain (OpenSpec.ofChange fnConditionsSpec)) fnConditionsCard

/-- THE SECOND FORM's CARD OF 'laws.FnConditions'. -/
def fnConditionsUptoCard : Claim7 := { stood := { row := fnConditionsUptoRow, standIns := [], harness := (true, "316846e793e364b26b43099e49b58c6b4e47295806bfaf96e017346e368c93f8"), looks := true }, kinds := [], alts := [], laidByText := true, laidKinds := [.data, .data, .data, .data, .sentinel, .sentinel, .pinned], laidTests := true, laidLooks := .later }
def FnConditionsUptoCardSaid : Prop := Claim7.holds Tryz.pinned (.plain (OpenSpec.upto fnConditionsSpec)) fnConditionsUptoCard
end Rows
end Go.Proofs.YtapocebnjdoicaaGreatDoor
