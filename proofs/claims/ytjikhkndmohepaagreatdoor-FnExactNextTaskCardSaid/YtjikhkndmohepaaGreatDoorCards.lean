/-
  DERIVED. GIVEN WITH THE SEED: THE CARDS: each row of YtjikhkndmohepaaGreatDoorRows.lean that lists a variable, with what it lists TIED to the program's text (the seventh form; the later family's looks); each row that meets fmt, with fmt's text TOLD by the authors' own Lean function (tested against real Go, not proved from fmt's source: count such statements apart). THE CARD IS WHAT COUNTS. Prove the row's statement (the work); the ties are given (YtjikhkndmohepaaGreatDoorTie.lean); close each card by the builder's one call (the guide's Derived/Test/ToyasCard.lean, 'card_holds'). Laid BY PROGRAM, IN A SANDBOX (cutbox-door.mjs). By AI agents, Wed Nov 11 2026. No macro, syntax, notation, axiom, sorry.
-/
import Derived.Test.YtjikhkndmohepaaGreatDoorRows
import GoSem.ClaimSeven
namespace Go.Proofs.YtjikhkndmohepaaGreatDoor
namespace Rows

/-- THE TIED CARD OF 'laws.FnExactNextTask'. -/
def fnExactNextTaskCard : Claim7 := { stood := { row := fnExactNextTaskRow, standIns := [], harness := (true, "a8588bb0a045296c49018467c1a76b4a18ef0f9157cca269b37de4ab3a2aaa5c"), looks := false }, kinds := [], alts := [], laidByText := true, laidKinds := [.data, .data, .data, .data, .pinned], laidTests := true, laidLooks := .later }
def FnExactNextTaskCardSaid : Prop := Claim7.holds Tryz.pinned (.plain (OpenSpec.ofChange fnExactNextTaskSpec)) fnExactNextTaskCard

/-- THE SECOND FORM's CARD OF 'laws.FnExactNextTask'. -/
def fnExactNextTaskUptoCard : Claim7 := { stood := { row := fnExactNextTaskUptoRow, standIns := [], harness := (true, "a8588bb0a045296c49018467c1a76b4a18ef0f9157cca269b37de4ab3a2aaa5c"), looks := false }, kinds := [], alts := [], laidByText := true, laidKinds := [.data, .data, .data, .data, .pinned], laidTests := true, laidLooks := .later }
def FnExactNextTaskUptoCardSaid : Prop := Claim7.holds Tryz.pinned (.plain (OpenSpec.upto fnExactNextTaskSpec)) fnExactNextTaskUptoCard
end Rows
end Go.Proofs.YtjikhkndmohepaaGreatDoor
