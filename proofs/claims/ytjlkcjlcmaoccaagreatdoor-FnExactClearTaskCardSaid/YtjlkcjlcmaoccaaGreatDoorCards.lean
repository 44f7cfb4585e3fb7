/-
  DERIVED. GIVEN WITH THE SEED: THE CARDS: each row of YtjlkcjlcmaoccaaGreatDoorRows.lean that lists a variable, with what it lists TIED to the program's text (the seventh form; the later family's looks); each row that meets fmt, with fmt's text TOLD by the authors' own Lean function (tested against real Go, not proved from fmt's source: count such statements apart). THE CARD IS WHAT COUNTS. Prove the row's statement (the work); the ties are given (YtjlkcjlcmaoccaaGreatDoorTie.lean); close each card by the builder's one call (the guide's Derived/Test/ToyasCard.lean, 'card_holds'). Laid BY PROGRAM, IN A SANDBOX (cutbox-door.mjs). By AI agents, Wed Nov 11 2026. No macro, syntax, notation, axiom, sorry.
-/
import Derived.Test.YtjlkcjlcmaoccaaGreatDoorRows
import GoSem.ClaimSeven
namespace Go.Proofs.YtjlkcjlcmaoccaaGreatDoor
namespace Rows

/-- THE TIED CARD OF 'laws.FnExactClearTask'. -/
def fnExactClearTaskCard : Claim7 := { stood := { row := fnExactClearTaskRow, standIns := [], harness := (true, "03f5ce6ca6714b09e2fe6aeb3bf4e5597f52b44cba1928dd77240a9e1708a177"), looks := false }, kinds := [], alts := [], laidByText := true, laidKinds := [.data, .data, .data, .data, .pinned], laidTests := true, laidLooks := .later }
def FnExactClearTaskCardSaid : Prop := Claim7.holds Tryz.pinned (.plain (OpenSpec.ofChange fnExactClearTaskSpec)) fnExactClearTaskCard

/-- THE SECOND FORM's CARD OF 'laws.FnExactClearTask'. -/
def fnExactClearTaskUptoCard : Claim7 := { stood := { row := fnExactClearTaskUptoRow, standIns := [], harness := (true, "03f5ce6ca6714b09e2fe6aeb3bf4e5597f52b44cba1928dd77240a9e1708a177"), looks := false }, kinds := [], alts := [], laidByText := true, laidKinds := [.data, .data, .data, .data, .pinned], laidTests := true, laidLooks := .later }
def FnExactClearTaskUptoCardSaid : Prop := Claim7.holds Tryz.pinned (.plain (OpenSpec.upto fnExactClearTaskSpec)) fnExactClearTaskUptoCard
end Rows
end Go.Proofs.YtjlkcjlcmaoccaaGreatDoor
