/-
  DERIVED. GIVEN WITH THE SEED: THE CARDS: each row of YtfbhcpmlihdmcaaGreatDoorRows.lean that lists a variable, with what it lists TIED to the program's text (the seventh form; the later family's looks); each row that meets fmt, with fmt's text TOLD by the authors' own Lean function (tested against real Go, not proved from fmt's source: count such statements apart). THE CARD IS WHAT COUNTS. Prove the row's statement (the work); the ties are given (YtfbhcpmlihdmcaaGreatDoorTie.lean); close each card by the builder's one call (the guide's Derived/Test/ToyasCard.lean, 'card_holds'). Laid BY PROGRAM, IN A SANDBOX (cutbox-door.mjs). By AI agents, Wed Nov 11 2026. No macro, syntax, notation, axiom, sorry.
-/
import Derived.Test.YtfbhcpmlihdmcaaGreatDoorRows
import GoSem.ClaimSeven
namespace Go.Proofs.YtfbhcpmlihdmcaaGreatDoor
namespace Rows

/-- THE TIED CARD OF 'laws.FnExactDagOk'. -/
def fnExactDagOkCard : Claim7 := { stood := { row := fnExactDagOkRow, standIns := [], harness := (true, "fbc170e4ab14d293956a2e9dd51dba45f9b7cc69645055e95fd7bb0550b99c8f"), looks := false }, kinds := [], alts := [], laidByText := true, laidKinds := [.data, .data, .data, .data, .pinned], laidTests := true, laidLooks := .later }
def FnExactDagOkCardSaid : Prop := Claim7.holds Tryz.pinned (.plain (OpenSpec.ofChange fnExactDagOkSpec)) fnExactDagOkCard

/-- THE SECOND FORM's CARD OF 'laws.FnExactDagOk'. -/
def fnExactDagOkUptoCard : Claim7 := { stood := { row := fnExactDagOkUptoRow, standIns := [], harness := (true, "fbc170e4ab14d293956a2e9dd51dba45f9b7cc69645055e95fd7bb0550b99c8f"), looks := false }, kinds := [], alts := [], laidByText := true, laidKinds := [.data, .data, .data, .data, .pinned], laidTests := true, laidLooks := .later }
def FnExactDagOkUptoCardSaid : Prop := Claim7.holds Tryz.pinned (.plain (OpenSpec.upto fnExactDagOkSpec)) fnExactDagOkUptoCard
end Rows
end Go.Proofs.YtfbhcpmlihdmcaaGreatDoor
