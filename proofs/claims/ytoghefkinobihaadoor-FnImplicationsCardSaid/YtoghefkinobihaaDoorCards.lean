/-
  DERIVED. GIVEN WITH THE SEED: THE CARDS: each row of YtoghefkinobihaaDoorRows.lean that lists a variable, with what it lists TIED to the program's text (the seventh form; the later family's looks); each row that meets fmt, with fmt's text TOLD by the authors' own Lean function (tested against real Go, not proved from fmt's source: count such statements apart). THE CARD IS WHAT COUNTS. Prove the row's statement (the work); the ties are given (YtoghefkinobihaaDoorTie.lean); close each card by the builder's one call (the guide's Derived/Test/ToyasCard.lean, 'card_holds'). Laid BY PROGRAM, IN A SANDBOX (cutbox-door.mjs). By AI agents, Wed Nov 11 2026. No macro, syntax, notation, axiom, sorry.
-/
import Derived.Test.YtoghefkinobihaaDoorRows
import GoSem.ClaimSeven
namespace Go.Proofs.YtoghefkinobihaaDoor
namespace Rows

/-- THE TIED CARD OF 'laws.FnImplications'. -/
def fnImplicationsCard : Claim7 := { stood := { row := fnImplicationsRow, standIns := [], harness := (true, "14ffd83b4a47b52da66c247685db95e8f4d4fb006a7f970dc7acba0521d568ba"), looks := false }, kinds := [], alts := [], laidByText := true, laidKinds := [.data, .pinned], laidTests := true, laidLooks := .later }
def FnImplicationsCardSaid : Prop := Claim7.holds Tryd.pinned (.plain (OpenSpec.ofChange fnImplicationsSpec)) fnImplicationsCard

/-- THE SECOND FORM's CARD OF 'laws.FnImplications'. -/
def fnImplicationsUptoCard : Claim7 := { stood := { row := fnImplicationsUptoRow, standIns := [], harness := (true, "14ffd83b4a47b52da66c247685db95e8f4d4fb006a7f970dc7acba0521d568ba"), looks := false }, kinds := [], alts := [], laidByText := true, laidKinds := [.data, .pinned], laidTests := true, laidLooks := .later }
def FnImplicationsUptoCardSaid : Prop := Claim7.holds Tryd.pinned (.plain (OpenSpec.upto fnImplicationsSpec)) fnImplicationsUptoCard
end Rows
end Go.Proofs.YtoghefkinobihaaDoor
