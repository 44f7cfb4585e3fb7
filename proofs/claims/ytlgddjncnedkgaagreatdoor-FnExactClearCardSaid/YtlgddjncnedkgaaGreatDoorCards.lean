/-
  DERIVED. GIVEN WITH THE SEED: THE CARDS: each row of YtlgddjncnedkgaaGreatDoorRows.lean that lists a variable, with what it lists TIED to the program's text (the seventh form; the later family's looks); each row that meets fmt, with fmt's text TOLD by the authors' own Lean function (tested against real Go, not proved from fmt's source: count such statements apart). THE CARD IS WHAT COUNTS. Prove the row's statement (the work); the ties are given (YtlgddjncnedkgaaGreatDoorTie.lean); close each card by the builder's one call (the guide's Derived/Test/ToyasCard.lean, 'card_holds'). Laid BY PROGRAM, IN A SANDBOX (cutbox-door.mjs). By AI agents, Wed Nov 11 2026. No macro, syntax, notation, axiom, sorry.
-/
import Derived.Test.YtlgddjncnedkgaaGreatDoorRows
import GoSem.ClaimSeven
namespace Go.Proofs.YtlgddjncnedkgaaGreatDoor
namespace Rows

/-- THE TIED CARD OF 'laws.FnExactClear'. -/
def fnExactClearCard : Claim7 := { stood := { row := fnExactClearRow, standIns := [], harness := (true, "828fbcb72853e56a0f347ffef7ec0f8bcc01ba0cd1dd1b8f0112eb7c7ab7ccb2"), looks := false }, kinds := [], alts := [], laidByText := true, laidKinds := [.data, .data, .data, .data, .pinned], laidTests := true, laidLooks := .later }
def FnExactClearCardSaid : Prop := Claim7.holds Tryz.pinned (.plain (OpenSpec.ofChange fnExactClearSpec)) fnExactClearCard

/-- THE SECOND FORM's CARD OF 'laws.FnExactClear'. -/
def fnExactClearUptoCard : Claim7 := { stood := { row := fnExactClearUptoRow, standIns := [], harness := (true, "828fbcb72853e56a0f347ffef7ec0f8bcc01ba0cd1dd1b8f0112eb7c7ab7ccb2"), looks := false }, kinds := [], alts := [], laidByText := true, laidKinds := [.data, .data, .data, .data, .pinned], laidTests := true, laidLooks := .later }
def FnExactClearUptoCardSaid : Prop := Claim7.holds Tryz.pinned (.plain (OpenSpec.upto fnExactClearSpec)) fnExactClearUptoCard
end Rows
end Go.Proofs.YtlgddjncnedkgaaGreatDoor
