/-
  DERIVED. GIVEN WITH THE SEED: THE CARDS: each row of YtpbdjajabmdbcaaGreatDoorRows.lean that lists a variable, with what it lists TIED to the program's text (the seventh form; the later family's looks); each row that meets fmt, with fmt's text TOLD by the authors' own Lean function (tested against real Go, not proved from fmt's source: count such statements apart). THE CARD IS WHAT COUNTS. Prove the row's statement (the work); the ties are given (YtpbdjajabmdbcaaGreatDoorTie.lean); close each card by the builder's one call (the guide's Derived/Test/ToyasCard.lean, 'card_holds'). Laid BY PROGRAM, IN A SANDBOX (cutbox-door.mjs). By AI agents, Wed Nov 11 2026. No macro, syntax, notation, axiom, sorry.
-/
import Derived.Test.YtpbdjajabmdbcaaGreatDoorRows
import GoSem.ClaimSeven
namespace Go.Proofs.YtpbdjajabmdbcaaGreatDoor
namespace Rows

/-- THE TIED CARD OF 'laws.FnExactClashingClauses'. -/
def fnExactClashingClausesCard : Claim7 := { stood := { row := fnExactClashingClausesRow, standIns := [], harness := (true, "ec0e854c9ba01553e64f9539432d688878dff7f40ed6596c5fe714c0ff5ab62a"), looks := false }, kinds := [], alts := [], laidByText := true, laidKinds := [.data, .pinned], laidTests := true, laidLooks := .later }
def FnExactClashingClausesCardSaid : Prop := Claim7.holds Tryz.pinned (.plain (OpenSpec.ofChange fnExactClashingClausesSpec)) fnExactClashingClausesCard

/-- THE TIED CARD OF 'laws.FnExactReorderParties'. -/
def fnExactReorderPartiesCard : Claim7 := { stood := { row := fnExactReorderPartiesRow, standIns := [], harness := (true, "ec0e854c9ba01553e64f9539432d688878dff7f40ed6596c5fe714c0ff5ab62a"), looks := false }, kinds := [], alts := [], laidByText := true, laidKinds := [.data, .pinned], laidTests := true, laidLooks := .later }
def FnExactReorderPartiesCardSaid : Prop := Claim7.holds Tryz.pinned (.plain (OpenSpec.ofChange fnExactReorderPartiesSpec)) fnExactReorderPartiesCard

/-- THE TIED CARD OF 'laws.FnExactMovesOf'. -/
def fnExactMovesOfCard : Claim7 := { stood := { row := fnExactMovesOfRow, standIns := [], harness := (true, "ec0e854c9ba01553e64f9539432d688878dff7f40ed6596c5fe714c0ff5ab62a"), looks := false }, kinds := [], alts := [], laidByText := true, laidKinds := [.data, .pinned], laidTests := true, laidLooks := .later }
def FnExactMovesOfCardSaid : Prop := Claim7.holds Tryz.pinned (.plain (OpenSpec.ofChange fnExactMovesOfSpec)) fnExactMovesOfCard

/-- THE SECOND FORM's CARD OF 'laws.FnExactClashingClauses'. -/
def fnExactClashingClausesUptoCard : Claim7 := { stood := { row := fnExactClashingClausesUptoRow, standIns := [], harness := (true, "ec0e854c9ba01553e64f9539432d688878dff7f40ed6596c5fe714c0ff5ab62a"), looks := false }, kinds := [], alts := [], laidByText := true, laidKinds := [.data, .pinned], laidTests := true, laidLooks := .later }
def FnExactClashingClausesUptoCardSaid : Prop := Claim7.holds Tryz.pinned (.plain (OpenSpec.upto fnExactClashingClausesSpec)) fnExactClashingClausesUptoCard

/-- THE SECOND FORM's CARD OF 'laws.FnExactReorderParties'. -/
def fnExactReorderPartiesUptoCard : Claim7 := { stood := { row := fnExactReorderPartiesUptoRow, standIns := [], harness := (true, "ec0e854c9ba01553e64f9539432d688878dff7f40ed6596c5fe714c0ff5ab62a"), looks := false }, kinds := [], alts := [], laidByText := true, laidKinds := [.data, .pinned], laidTests := true, laidLooks := .later }
def FnExactReorderPartiesUptoCardSaid : Prop := Claim7.holds Tryz.pinned (.plain (OpenSpec.upto fnExactReorderPartiesSpec)) fnExactReorderPartiesUptoCard

/-- THE SECOND FORM's CARD OF 'laws.FnExactMovesOf'. -/
def fnExactMovesOfUptoCard : Claim7 := { stood := { row := fnExactMovesOfUptoRow, standIns := [], harness := (true, "ec0e854c9ba01553e64f9539432d688878dff7f40ed6596c5fe714c0ff5ab62a"), looks := false }, kinds := [], alts := [], laidByText := true, laidKinds := [.data, .pinned], laidTests := true, laidLooks := .later }
def FnExactMovesOfUptoCardSaid : Prop := Claim7.holds Tryz.pinned (.plain (OpenSpec.upto fnExactMovesOfSpec)) fnExactMovesOfUptoCard
end Rows
end Go.Proofs.YtpbdjajabmdbcaaGreatDoor
