/-
  DERIVED. GIVEN WITH THE SEED: THE CARDS: each row of YtkgecjmfkcohkaaGreatDoorRows.lean that lists a variable, with what it lists TIED to the program's text (the seventh form; the later family's looks); each row that meets fmt, with fmt's text TOLD by the authors' own Lean function (tested against real Go, not proved from fmt's source: count such statements apart). THE CARD IS WHAT COUNTS. Prove the row's statement (the work); the ties are given (YtkgecjmfkcohkaaGreatDoorTie.lean); close each card by the builder's one call (the guide's Derived/Test/ToyasCard.lean, 'card_holds'). Laid BY PROGRAM, IN A SANDBOX (cutbox-door.mjs). By AI agents, Wed Nov 11 2026. No macro, syntax, notation, axiom, sorry.
-/
import Derived.Test.YtkgecjmfkcohkaaGreatDoorRows
import GoSem.ClaimSeven
namespace Go.Proofs.YtkgecjmfkcohkaaGreatDoor
namespace Rows

/-- THE TIED CARD OF 'laws.FnExactFinish'. -/
def fnExactFinishCard : Claim7 := { stood := { row := fnExactFinishRow, standIns := [], harness := (true, "0f0f6ff701884b81112c41c6e7076987b26328eb36e83954325601e317d017e0"), looks := false }, kinds := [], alts := [], laidByText := true, laidKinds := [.data, .data, .data, .data, .pinned], laidTests := true, laidLooks := .later }
def FnExactFinishCardSaid : Prop := Claim7.holds Tryz.pinned (.plain (OpenSpec.ofChange fnExactFinishSpec)) fnExactFinishCard

/-- THE SECOND FORM's CARD OF 'laws.FnExactFinish'. -/
def fnExactFinishUptoCard : Claim7 := { stood := { row := fnExactFinishUptoRow, standIns := [], harness := (true, "0f0f6ff701884b81112c41c6e7076987b26328eb36e83954325601e317d017e0"), looks := false }, kinds := [], alts := [], laidByText := true, laidKinds := [.data, .data, .data, .data, .pinned], laidTests := true, laidLooks := .later }
def FnExactFinishUptoCardSaid : Prop := Claim7.holds Tryz.pinned (.plain (OpenSpec.upto fnExactFinishSpec)) fnExactFinishUptoCard
end Rows
end Go.Proofs.YtkgecjmfkcohkaaGreatDoor
