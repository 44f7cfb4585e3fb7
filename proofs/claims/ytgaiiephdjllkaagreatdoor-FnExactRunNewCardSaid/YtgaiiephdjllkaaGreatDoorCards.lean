/-
  DERIVED. GIVEN WITH THE SEED: THE CARDS: each row of YtgaiiephdjllkaaGreatDoorRows.lean that lists a variable, with what it lists TIED to the program's text (the seventh form; the later family's looks); each row that meets fmt, with fmt's text TOLD by the authors' own Lean function (tested against real Go, not proved from fmt's source: count such statements apart). THE CARD IS WHAT COUNTS. Prove the row's statement (the work); the ties are given (YtgaiiephdjllkaaGreatDoorTie.lean); close each card by the builder's one call (the guide's Derived/Test/ToyasCard.lean, 'card_holds'). Laid BY PROGRAM, IN A SANDBOX (cutbox-door.mjs). By AI agents, Wed Nov 11 2026. No macro, syntax, notation, axiom, sorry.
-/
import Derived.Test.YtgaiiephdjllkaaGreatDoorRows
import GoSem.ClaimSeven
namespace Go.Proofs.YtgaiiephdjllkaaGreatDoor
namespace Rows

/-- THE TIED CARD OF 'laws.FnExactRunNew'. -/
def fnExactRunNewCard : Claim7 := { stood := { row := fnExactRunNewRow, standIns := [], harness := (true, "1ebbf59b39b94595b7967bb5696adfc877bfa01e57266b9c4ca2cfa107df7746"), looks := false }, kinds := [], alts := [], laidByText := true, laidKinds := [.data, .data, .data, .data, .pinned], laidTests := true, laidLooks := .later }
def FnExactRunNewCardSaid : Prop := Claim7.holds Tryz.pinned (.plain (OpenSpec.ofChange fnExactRunNewSpec)) fnExactRunNewCard

/-- THE TIED CARD OF 'laws.FnExactRunOk'. -/
def fnExactRunOkCard : Claim7 := { stood := { row := fnExactRunOkRow, standIns := [], harness := (true, "1ebbf59b39b94595b7967bb5696adfc877bfa01e57266b9c4ca2cfa107df7746"), looks := false }, kinds := [], alts := [], laidByText := true, laidKinds := [.data, .data, .data, .data, .pinned], laidTests := true, laidLooks := .later }
def FnExactRunOkCardSaid : Prop := Claim7.holds Tryz.pinned (.plain (OpenSpec.ofChange fnExactRunOkSpec)) fnExactRunOkCard

/-- THE TIED CARD OF 'laws.FnExactReady'. -/
def fnExactReadyCard : Claim7 := { stood := { row := fnExactReadyRow, standIns := [], harness := (true, "1ebbf59b39b94595b7967bb5696adfc877bfa01e57266b9c4ca2cfa107df7746"), looks := false }, kinds := [], alts := [], laidByText := true, laidKinds := [.data, .data, .data, .data, .pinned], laidTests := true, laidLooks := .later }
def FnExactReadyCardSaid : Prop := Claim7.holds Tryz.pinned (.plain (OpenSpec.ofChange fnExactReadySpec)) fnExactReadyCard

/-- THE SECOND FORM's CARD OF 'laws.FnExactRunNew'. -/
def fnExactRunNewUptoCard : Claim7 := { stood := { row := fnExactRunNewUptoRow, standIns := [], harness := (true, "1ebbf59b39b94595b7967bb5696adfc877bfa01e57266b9c4ca2cfa107df7746"), looks := false }, kinds := [], alts := [], laidByText := true, laidKinds := [.data, .data, .data, .data, .pinned], laidTests := true, laidLooks := .later }
def FnExactRunNewUptoCardSaid : Prop := Claim7.holds Tryz.pinned (.plain (OpenSpec.upto fnExactRunNewSpec)) fnExactRunNewUptoCard

/-- THE SECOND FORM's CARD OF 'laws.FnExactRunOk'. -/
def fnExactRunOkUptoCard : Claim7 := { stood := { row := fnExactRunOkUptoRow, standIns := [], harness := (true, "1ebbf59b39b94595b7967bb5696adfc877bfa01e57266b9c4ca2cfa107df7746"), looks := false }, kinds := [], alts := [], laidByText := true, laidKinds := [.data, .data, .data, .data, .pinned], laidTests := true, laidLooks := .later }
def FnExactRunOkUptoCardSaid : Prop := Claim7.holds Tryz.pinned (.plain (OpenSpec.upto fnExactRunOkSpec)) fnExactRunOkUptoCard

/-- THE SECOND FORM's CARD OF 'laws.FnExactReady'. -/
def fnExactReadyUptoCard : Claim7 := { stood := { row := fnExactReadyUptoRow, standIns := [], harness := (true, "1ebbf59b39b94595b7967bb5696adfc877bfa01e57266b9c4ca2cfa107df7746"), looks := false }, kinds := [], alts := [], laidByText := true, laidKinds := [.data, .data, .data, .data, .pinned], laidTests := true, laidLooks := .later }
def FnExactReadyUptoCardSaid : Prop := Claim7.holds Tryz.pinned (.plain (OpenSpec.upto fnExactReadySpec)) fnExactReadyUptoCard
end Rows
end Go.Proofs.YtgaiiephdjllkaaGreatDoor
