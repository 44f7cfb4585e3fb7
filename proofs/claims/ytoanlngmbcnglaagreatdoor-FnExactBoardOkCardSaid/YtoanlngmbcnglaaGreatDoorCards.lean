/-
  DERIVED. GIVEN WITH THE SEED: THE CARDS: each row of YtoanlngmbcnglaaGreatDoorRows.lean that lists a variable, with what it lists TIED to the program's text (the seventh form; the later family's looks); each row that meets fmt, with fmt's text TOLD by the authors' own Lean function (tested against real Go, not proved from fmt's source: count such statements apart). THE CARD IS WHAT COUNTS. Prove the row's statement (the work); the ties are given (YtoanlngmbcnglaaGreatDoorTie.lean); close each card by the builder's one call (the guide's Derived/Test/ToyasCard.lean, 'card_holds'). Laid BY PROGRAM, IN A SANDBOX (cutbox-door.mjs). By AI agents, Wed Nov 11 2026. No macro, syntax, notation, axiom, sorry.
-/
import Derived.Test.YtoanlngmbcnglaaGreatDoorRows
import GoSem.ClaimSeven
namespace Go.Proofs.YtoanlngmbcnglaaGreatDoor
namespace Rows

/-- THE TIED CARD OF 'laws.FnExactBoardOk'. -/
def fnExactBoardOkCard : Claim7 := { stood := { row := fnExactBoardOkRow, standIns := [], harness := (true, "c5380430c2f82dbf1da6e53c09a0e31a2d7dbd47314da526743d42b409f1b19a"), looks := false }, kinds := [], alts := [], laidByText := true, laidKinds := [.data, .data, .data, .data, .pinned], laidTests := true, laidLooks := .later }
def FnExactBoardOkCardSaid : Prop := Claim7.holds Tryz.pinned (.plain (OpenSpec.ofChange fnExactBoardOkSpec)) fnExactBoardOkCard

/-- THE SECOND FORM's CARD OF 'laws.FnExactBoardOk'. -/
def fnExactBoardOkUptoCard : Claim7 := { stood := { row := fnExactBoardOkUptoRow, standIns := [], harness := (true, "c5380430c2f82dbf1da6e53c09a0e31a2d7dbd47314da526743d42b409f1b19a"), looks := false }, kinds := [], alts := [], laidByText := true, laidKinds := [.data, .data, .data, .data, .pinned], laidTests := true, laidLooks := .later }
def FnExactBoardOkUptoCardSaid : Prop := Claim7.holds Tryz.pinned (.plain (OpenSpec.upto fnExactBoardOkSpec)) fnExactBoardOkUptoCard
end Rows
end Go.Proofs.YtoanlngmbcnglaaGreatDoor
