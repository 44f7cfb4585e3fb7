/-
  DERIVED. GIVEN WITH THE SEED: THE CARDS: each row of YtdcbjglpdbcjpaaGreatDoorRows.lean that lists a variable, with what it lists TIED to the program's text (the seventh form; the later family's looks); each row that meets fmt, with fmt's text TOLD by the authors' own Lean function (tested against real Go, not proved from fmt's source: count such statements apart). THE CARD IS WHAT COUNTS. Prove the row's statement (the work); the ties are given (YtdcbjglpdbcjpaaGreatDoorTie.lean); close each card by the builder's one call (the guide's Derived/Test/ToyasCard.lean, 'card_holds'). Laid BY PROGRAM, IN A SANDBOX (cutbox-door.mjs). By AI agents, Wed Nov 11 2026. No macro, syntax, notation, axiom, sorry.
-/
import Derived.Test.YtdcbjglpdbcjpaaGreatDoorRows
import GoSem.ClaimSeven
namespace Go.Proofs.YtdcbjglpdbcjpaaGreatDoor
namespace Rows

/-- THE TIED CARD OF 'laws.FnExactBlockRest'. -/
def fnExactBlockRestCard : Claim7 := { stood := { row := fnExactBlockRestRow, standIns := [], harness := (true, "eb1413ceace584f57bfe302fb43cb343801109ffcf47ab462cba31bfe50f2831"), looks := false }, kinds := [], alts := [], laidByText := true, laidKinds := [.data, .data, .data, .data, .pinned], laidTests := true, laidLooks := .later }
def FnExactBlockRestCardSaid : Prop := Claim7.holds Tryz.pinned (.plain (OpenSpec.ofChange fnExactBlockRestSpec)) fnExactBlockRestCard

/-- THE SECOND FORM's CARD OF 'laws.FnExactBlockRest'. -/
def fnExactBlockRestUptoCard : Claim7 := { stood := { row := fnExactBlockRestUptoRow, standIns := [], harness := (true, "eb1413ceace584f57bfe302fb43cb343801109ffcf47ab462cba31bfe50f2831"), looks := false }, kinds := [], alts := [], laidByText := true, laidKinds := [.data, .data, .data, .data, .pinned], laidTests := true, laidLooks := .later }
def FnExactBlockRestUptoCardSaid : Prop := Claim7.holds Tryz.pinned (.plain (OpenSpec.upto fnExactBlockRestSpec)) fnExactBlockRestUptoCard
end Rows
end Go.Proofs.YtdcbjglpdbcjpaaGreatDoor
