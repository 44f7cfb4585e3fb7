/-
  DERIVED. GIVEN WITH THE SEED: THE CARDS: each row of YtjfbofdmjihglaaGreatDoorRows.lean that lists a variable, with what it lists TIED to the program's text (the seventh form; the later family's looks); each row that meets fmt, with fmt's text TOLD by the authors' own Lean function (tested against real Go, not proved from fmt's source: count such statements apart). THE CARD IS WHAT COUNTS. Prove the row's statement (the work); the ties are given (YtjfbofdmjihglaaGreatDoorTie.lean); close each card by the builder's one call (the guide's Derived/Test/ToyasCard.lean, 'card_holds'). Laid BY PROGRAM, IN A SANDBOX (cutbox-door.mjs). By AI agents, Wed Nov 11 2026. No macro, syntax, notation, axiom, sorry.
-/
import Derived.Test.YtjfbofdmjihglaaGreatDoorRows
import GoSem.ClaimSeven
namespace Go.Proofs.YtjfbofdmjihglaaGreatDoor
namespace Rows

/-- THE TIED CARD OF 'laws.FnExactHeightOf'. -/
def fnExactHeightOfCard : Claim7 := { stood := { row := fnExactHeightOfRow, standIns := [], harness := (true, "5d2d9a259d95ac017517471e890a3483be5bccce4816c56c5b0c681b7087e1c6"), looks := false }, kinds := [], alts := [], laidByText := true, laidKinds := [.data, .data, .data, .data, .pinned], laidTests := true, laidLooks := .later }
def FnExactHeightOfCardSaid : Prop := Claim7.holds Tryz.pinned (.plain (OpenSpec.ofChange fnExactHeightOfSpec)) fnExactHeightOfCard

/-- THE TIED CARD OF 'laws.FnExactDagText'. -/
def fnExactDagTextCard : Claim7 := { stood := { row := fnExactDagTextRow, standIns := [], harness := (true, "5d2d9a259d95ac017517471e890a3483be5bccce4816c56c5b0c681b7087e1c6"), looks := false }, kinds := [], alts := [], laidByText := true, laidKinds := [.data, .data, .data, .data, .pinned], laidTests := true, laidLooks := .later }
def FnExactDagTextCardSaid : Prop := Claim7.holds Tryz.pinned (.plain (OpenSpec.ofChange fnExactDagTextSpec)) fnExactDagTextCard

/-- THE TIED CARD OF 'laws.FnExactOrderOf'. -/
def fnExactOrderOfCard : Claim7 := { stood := { row := fnExactOrderOfRow, standIns := [], harness := (true, "5d2d9a259d95ac017517471e890a3483be5bccce4816c56c5b0c681b7087e1c6"), looks := false }, kinds := [], alts := [], laidByText := true, laidKinds := [.data, .data, .data, .data, .pinned], laidTests := true, laidLooks := .later }
def FnExactOrderOfCardSaid : Prop := Claim7.holds Tryz.pinned (.plain (OpenSpec.ofChange fnExactOrderOfSpec)) fnExactOrderOfCard

/-- THE TIED CARD OF 'laws.FnExactUpsOf'. -/
def fnExactUpsOfCard : Claim7 := { stood := { row := fnExactUpsOfRow, standIns := [], harness := (true, "5d2d9a259d95ac017517471e890a3483be5bccce4816c56c5b0c681b7087e1c6"), looks := false }, kinds := [], alts := [], laidByText := true, laidKinds := [.data, .data, .data, .data, .pinned], laidTests := true, laidLooks := .later }
def FnExactUpsOfCardSaid : Prop := Claim7.holds Tryz.pinned (.plain (OpenSpec.ofChange fnExactUpsOfSpec)) fnExactUpsOfCard

/-- THE TIED CARD OF 'laws.FnExactDownsOf'. -/
def fnExactDownsOfCard : Claim7 := { stood := { row := fnExactDownsOfRow, standIns := [], harness := (true, "5d2d9a259d95ac017517471e890a3483be5bccce4816c56c5b0c681b7087e1c6"), looks := false }, kinds := [], alts := [], laidByText := true, laidKinds := [.data, .data, .data, .data, .pinned], laidTests := true, laidLooks := .later }
def FnExactDownsOfCardSaid : Prop := Claim7.holds Tryz.pinned (.plain (OpenSpec.ofChange fnExactDownsOfSpec)) fnExactDownsOfCard

/-- THE SECOND FORM's CARD OF 'laws.FnExactHeightOf'. -/
def fnExactHeightOfUptoCard : Claim7 := { stood := { row := fnExactHeightOfUptoRow, standIns := [], harness := (true, "5d2d9a259d95ac017517471e890a3483be5bccce4816c56c5b0c681b7087e1c6"), looks := false }, kinds := [], alts := [], laidByText := true, laidKinds := [.data, .data, .data, .data, .pinned], laidTests := true, laidLooks := .later }
def FnExactHeightOfUptoCardSaid : Prop := Claim7.holds Tryz.pinned (.plain (OpenSpec.upto fnExactHeightOfSpec)) fnExactHeightOfUptoCard

/-- THE SECOND FORM's CARD OF 'laws.FnExactDagText'. -/
def fnExactDagTextUptoCard : Claim7 := { stood := { row := fnExactDagTextUptoRow, standIns := [], harness := (true, "5d2d9a259d95ac017517471e890a3483be5bccce4816c56c5b0c681b7087e1c6"), looks := false }, kinds := [], alts := [], laidByText := true, laidKinds := [.data, .data, .data, .data, .pinned], laidTests := true, laidLooks := .later }
def FnExactDagTextUptoCardSaid : Prop := Claim7.holds Tryz.pinned (.plain (OpenSpec.upto fnExactDagTextSpec)) fnExactDagTextUptoCard

/-- THE SECOND FORM's CARD OF 'laws.FnExactOrderOf'. -/
def fnExactOrderOfUptoCard : Claim7 := { stood := { row := fnExactOrderOfUptoRow, standIns := [], harness := (true, "5d2d9a259d95ac017517471e890a3483be5bccce4816c56c5b0c681b7087e1c6"), looks := false }, kinds := [], alts := [], laidByText := true, laidKinds := [.data, .data, .data, .data, .pinned], laidTests := true, laidLooks := .later }
def FnExactOrderOfUptoCardSaid : Prop := Claim7.holds Tryz.pinned (.plain (OpenSpec.upto fnExactOrderOfSpec)) fnExactOrderOfUptoCard

/-- THE SECOND FORM's CARD OF 'laws.FnExactUpsOf'. -/
def fnExactUpsOfUptoCard : Claim7 := { stood := { row := fnExactUpsOfUptoRow, standIns := [], harness := (true, "5d2d9a259d95ac017517471e890a3483be5bccce4816c56c5b0c681b7087e1c6"), looks := false }, kinds := [], alts := [], laidByText := true, laidKinds := [.data, .data, .data, .data, .pinned], laidTests := true, laidLooks := .later }
def FnExactUpsOfUptoCardSaid : Prop := Claim7.holds Tryz.pinned (.plain (OpenSpec.upto fnExactUpsOfSpec)) fnExactUpsOfUptoCard

/-- THE SECOND FORM's CARD OF 'laws.FnExactDownsOf'. -/
def fnExactDownsOfUptoCard : Claim7 := { stood := { row := fnExactDownsOfUptoRow, standIns := [], harness := (true, "5d2d9a259d95ac017517471e890a3483be5bccce4816c56c5b0c681b7087e1c6"), looks := false }, kinds := [], alts := [], laidByText := true, laidKinds := [.data, .data, .data, .data, .pinned], laidTests := true, laidLooks := .later }
def FnExactDownsOfUptoCardSaid : Prop := Claim7.holds Tryz.pinned (.plain (OpenSpec.upto fnExactDownsOfSpec)) fnExactDownsOfUptoCard
end Rows
end Go.Proofs.YtjfbofdmjihglaaGreatDoor
