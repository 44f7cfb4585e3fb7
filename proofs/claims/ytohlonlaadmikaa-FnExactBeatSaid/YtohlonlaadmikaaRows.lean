/-
  No cell of these rows narrows 'for every input' (looked for: loops, veiled, ifaces, maps, wideKeys, modest, calm, conditions, laid).
  DERIVED. THE GIVEN ROWS OF THIS SEAT. 9 by the template 'for every input the law returns true; each argument reads behind the call as it read before'; 0 by the template 'total and deterministic' (their statements: YtohlonlaadmikaaTotals.lean).
  GIVEN WITH THE SEED: the statements are not yours to turn. If you find one false, say at which input.
  Laid BY PROGRAM, IN A SANDBOX (cutbox-rows.mjs): the forced cells as the released guide's own fill.sh prints them over the translation 4b7d3ac2c78b37b8… (all of the seat's roots in one cut). By AI agents, Wed Nov 11 2026. No macro, syntax, notation, axiom, sorry.
-/
import Derived.Test.YtohlonlaadmikaaChecked
import GoSem.Claim
import GoSem.ClaimJoined
import GoSem.ClaimMapViews
import Derived.JoinedTies
import Derived.KernelRfl
namespace Go.Proofs.Ytohlonlaadmikaa
/- THE CELL 'sum', in the pinned program and in every row, IS THE sha256 OF THE DUMP (.gsa) THAT YtohlonlaadmikaaProg.lean LOADS. Nothing in Lean hashes anything: it is a label: what it is worth is what the hold of that sum in a sandbox is worth. -/
noncomputable def Try.pinned : Pinned := { name := "ytohlonlaadmikaa", sum := "4b7d3ac2c78b37b8d07cce9daab47f51bb9521c989c846a73b9752427e582873", checked := Try.checked }
namespace Rows
def none {H : Type} : Left H := { results := [], args := [] }

/-- 'laws.FnExactPlanAt': WHATEVER THE INPUT: true; the input reads as it did. -/
def fnExactPlanAtSpec : ChangeSpec := { name := "fnExactPlanAt", fn := fun _ => fun
  | [d1, d2] => { results := [.lit (.bool true)], args := [d1, d2] }
  | _ => none }
def fnExactPlanAtRow : OpenClaim := { program := "ytohlonlaadmikaa", sum := "4b7d3ac2c78b37b8d07cce9daab47f51bb9521c989c846a73b9752427e582873", func := "loop.example/g00188/laws.FnExactPlanAt", spec := "fnExactPlanAt", unfollowed := true, recurses := true, apart := false }
def FnExactPlanAtSaid : Prop := fnExactPlanAtRow.holds Try.pinned (OpenSpec.ofChange fnExactPlanAtSpec)

/-- ITS FALSE NEIGHBOUR: 'it returns false'. Refute it at one input. -/
def fnExactPlanAtWrong : ChangeSpec := { name := "fnExactPlanAt", fn := fun _ => fun
  | [d1, d2] => { results := [.lit (.bool false)], args := [d1, d2] }
  | _ => none }
def FnExactPlanAtWrongFalsely : Prop := fnExactPlanAtRow.holds Try.pinned (OpenSpec.ofChange fnExactPlanAtWrong)

/-- 'laws.FnExactRunAt': WHATEVER THE INPUT: true; the input reads as it did. -/
def fnExactRunAtSpec : ChangeSpec := { name := "fnExactRunAt", fn := fun _ => fun
  | [d1, d2, d3] => { results := [.lit (.bool true)], args := [d1, d2, d3] }
  | _ => none }
def fnExactRunAtRow : OpenClaim := { program := "ytohlonlaadmikaa", sum := "4b7d3ac2c78b37b8d07cce9daab47f51bb9521c989c846a73b9752427e582873", func := "loop.example/g00188/laws.FnExactRunAt", spec := "fnExactRunAt", unfollowed := true, recurses := true, apart := false }
def FnExactRunAtSaid : Prop := fnExactRunAtRow.holds Try.pinned (OpenSpec.ofChange fnExactRunAtSpec)

/-- ITS FALSE NEIGHBOUR: 'it returns false'. Refute it at one input. -/
def fnExactRunAtWrong : ChangeSpec := { name := "fnExactRunAt", fn := fun _ => fun
  | [d1, d2, d3] => { results := [.lit (.bool false)], args := [d1, d2, d3] }
  | _ => none }
def FnExactRunAtWrongFalsely : Prop := fnExactRunAtRow.holds Try.pinned (OpenSpec.ofChange fnExactRunAtWrong)

/-- 'laws.FnExactActiveOf': WHATEVER THE INPUT: true; the input reads as it did. -/
def fnExactActiveOfSpec : ChangeSpec := { name := "fnExactActiveOf", fn := fun _ => fun
  | [d1, d2] => { results := [.lit (.bool true)], args := [d1, d2] }
  | _ => none }
def fnExactActiveOfRow : OpenClaim := { program := "ytohlonlaadmikaa", sum := "4b7d3ac2c78b37b8d07cce9daab47f51bb9521c989c846a73b9752427e582873", func := "loop.example/g00188/laws.FnExactActiveOf", spec := "fnExactActiveOf", apart := false }
def FnExactActiveOfSaid : Prop := fnExactActiveOfRow.holds Try.pinned (OpenSpec.ofChange fnExactActiveOfSpec)

/-- ITS FALSE NEIGHBOUR: 'it returns false'. Refute it at one input. -/
def fnExactActiveOfWrong : ChangeSpec := { name := "fnExactActiveOf", fn := fun _ => fun
  | [d1, d2] => { results := [.lit (.bool false)], args := [d1, d2] }
  | _ => none }
def FnExactActiveOfWrongFalsely : Prop := fnExactActiveOfRow.holds Try.pinned (OpenSpec.ofChange fnExactActiveOfWrong)

/-- 'laws.FnExactPastOf': WHATEVER THE INPUT: true; the input reads as it did. -/
def fnExactPastOfSpec : ChangeSpec := { name := "fnExactPastOf", fn := fun _ => fun
  | [d1, d2, d3] => { results := [.lit (.bool true)], args := [d1, d2, d3] }
  | _ => none }
def fnExactPastOfRow : OpenClaim := { program := "ytohlonlaadmikaa", sum := "4b7d3ac2c78b37b8d07cce9daab47f51bb9521c989c846a73b9752427e582873", func := "loop.example/g00188/laws.FnExactPastOf", spec := "fnExactPastOf", apart := false }
def FnExactPastOfSaid : Prop := fnExactPastOfRow.holds Try.pinned (OpenSpec.ofChange fnExactPastOfSpec)

/-- ITS FALSE NEIGHBOUR: 'it returns false'. Refute it at one input. -/
def fnExactPastOfWrong : ChangeSpec := { name := "fnExactPastOf", fn := fun _ => fun
  | [d1, d2, d3] => { results := [.lit (.bool false)], args := [d1, d2, d3] }
  | _ => none }
def FnExactPastOfWrongFalsely : Prop := fnExactPastOfRow.holds Try.pinned (OpenSpec.ofChange fnExactPastOfWrong)

/-- 'laws.FnExactUsedBy': WHATEVER THE INPUT: true; the input reads as it did. -/
def fnExactUsedBySpec : ChangeSpec := { name := "fnExactUsedBy", fn := fun _ => fun
  | [d1, d2] => { results := [.lit (.bool true)], args := [d1, d2] }
  | _ => none }
def fnExactUsedByRow : OpenClaim := { program := "ytohlonlaadmikaa", sum := "4b7d3ac2c78b37b8d07cce9daab47f51bb9521c989c846a73b9752427e582873", func := "loop.example/g00188/laws.FnExactUsedBy", spec := "fnExactUsedBy", unfollowed := true, recurses := true, apart := false }
def FnExactUsedBySaid : Prop := fnExactUsedByRow.holds Try.pinned (OpenSpec.ofChange fnExactUsedBySpec)

/-- ITS FALSE NEIGHBOUR: 'it returns false'. Refute it at one input. -/
def fnExactUsedByWrong : ChangeSpec := { name := "fnExactUsedBy", fn := fun _ => fun
  | [d1, d2] => { results := [.lit (.bool false)], args := [d1, d2] }
  | _ => none }
def FnExactUsedByWrongFalsely : Prop := fnExactUsedByRow.holds Try.pinned (OpenSpec.ofChange fnExactUsedByWrong)

/-- 'laws.FnExactSameBoard': WHATEVER THE INPUT: true; the input reads as it did. -/
def fnExactSameBoardSpec : ChangeSpec := { name := "fnExactSameBoard", fn := fun _ => fun
  | [d1, d2] => { results := [.lit (.bool true)], args := [d1, d2] }
  | _ => none }
def fnExactSameBoardRow : OpenClaim := { program := "ytohlonlaadmikaa", sum := "4b7d3ac2c78b37b8d07cce9daab47f51bb9521c989c846a73b9752427e582873", func := "loop.example/g00188/laws.FnExactSameBoard", spec := "fnExactSameBoard", unfollowed := true, recurses := true, apart := false }
def FnExactSameBoardSaid : Prop := fnExactSameBoardRow.holds Try.pinned (OpenSpec.ofChange fnExactSameBoardSpec)

/-- ITS FALSE NEIGHBOUR: 'it returns false'. Refute it at one input. -/
def fnExactSameBoardWrong : ChangeSpec := { name := "fnExactSameBoard", fn := fun _ => fun
  | [d1, d2] => { results := [.lit (.bool false)], args := [d1, d2] }
  | _ => none }
def FnExactSameBoardWrongFalsely : Prop := fnExactSameBoardRow.holds Try.pinned (OpenSpec.ofChange fnExactSameBoardWrong)

/-- 'laws.FnExactBoardNew': WHATEVER THE INPUT: true; the input reads as it did. -/
def fnExactBoardNewSpec : ChangeSpec := { name := "fnExactBoardNew", fn := fun _ => fun
  | [] => { results := [.lit (.bool true)], args := [] }
  | _ => none }
def fnExactBoardNewRow : OpenClaim := { program := "ytohlonlaadmikaa", sum := "4b7d3ac2c78b37b8d07cce9daab47f51bb9521c989c846a73b9752427e582873", func := "loop.example/g00188/laws.FnExactBoardNew", spec := "fnExactBoardNew", apart := false }
def FnExactBoardNewSaid : Prop := fnExactBoardNewRow.holds Try.pinned (OpenSpec.ofChange fnExactBoardNewSpec)

/-- ITS FALSE NEIGHBOUR: 'it returns false'. Refute it at one input. -/
def fnExactBoardNewWrong : ChangeSpec := { name := "fnExactBoardNew", fn := fun _ => fun
  | [] => { results := [.lit (.bool false)], args := [] }
  | _ => none }
def FnExactBoardNewWrongFalsely : Prop := fnExactBoardNewRow.holds Try.pinned (OpenSpec.ofChange fnExactBoardNewWrong)

/-- 'laws.FnExactBeat': WHATEVER THE INPUT: true; the input reads as it did. -/
def fnExactBeatSpec : ChangeSpec := { name := "fnExactBeat", fn := fun _ => fun
  | [d1, d2] => { results := [.lit (.bool true)], args := [d1, d2] }
  | _ => none }
def fnExactBeatRow : OpenClaim := { program := "ytohlonlaadmikaa", sum := "4b7d3ac2c78b37b8d07cce9daab47f51bb9521c989c846a73b9752427e582873", func := "loop.example/g00188/laws.FnExactBeat", spec := "fnExactBeat", apart := false }
def FnExactBeatSaid : Prop := fnExactBeatRow.holds Try.pinned (OpenSpec.ofChange fnExactBeatSpec)

/-- ITS FALSE NEIGHBOUR: 'it returns false'. Refute it at one input. -/
def fnExactBeatWrong : ChangeSpec := { name := "fnExactBeat", fn := fun _ => fun
  | [d1, d2] => { results := [.lit (.bool false)], args := [d1, d2] }
  | _ => none }
def FnExactBeatWrongFalsely : Prop := fnExactBeatRow.holds Try.pinned (OpenSpec.ofChange fnExactBeatWrong)

/-- 'laws.FnExactSweep': WHATEVER THE INPUT: true; the input reads as it did. -/
def fnExactSweepSpec : ChangeSpec := { name := "fnExactSweep", fn := fun _ => fun
  | [d] => { results := [.lit (.bool true)], args := [d] }
  | _ => none }
def fnExactSweepRow : OpenClaim := { program := "ytohlonlaadmikaa", sum := "4b7d3ac2c78b37b8d07cce9daab47f51bb9521c989c846a73b9752427e582873", func := "loop.example/g00188/laws.FnExactSweep", spec := "fnExactSweep", unfollowed := true, recurses := true, apart := false }
def FnExactSweepSaid : Prop := fnExactSweepRow.holds Try.pinned (OpenSpec.ofChange fnExactSweepSpec)

/-- ITS FALSE NEIGHBOUR: 'it returns false'. Refute it at one input. -/
def fnExactSweepWrong : ChangeSpec := { name := "fnExactSweep", fn := fun _ => fun
  | [d] => { results := [.lit (.bool false)], args := [d] }
  | _ => none }
def FnExactSweepWrongFalsely : Prop := fnExactSweepRow.holds Try.pinned (OpenSpec.ofChange fnExactSweepWrong)

/- THE SECOND FORM. 'bulk': how many values and letters a reading holds, each counted each time it is reached (what is shared counts as often as it is met; a slice's spare places count too). A statement '..UptoSaid' is the law's where the arguments, and the package variables that the reading takes, are together of bulk at most 1048576: NARROWER than '..Said'. Prove '..Said' where nothing that the law and all that it calls make is longer than what came in: it says more and counts as full. Else prove '..UptoSaid'. A law counts once. -/
mutual
def uptoBulk {H : Type} : DataW H → Nat
  | .lit (.string bytes) => bytes.length + 1
  | .lit _ => 1
  | .nil => 1
  | .ptr d => uptoBulk d + 1
  | .slice elems spare => uptoBulkAll elems + uptoBulkAll spare + 1
  | .agg parts => uptoBulkAll parts + 1
  | .iface _ d => uptoBulk d + 1
  | .map entries => uptoBulkEntries entries + 1
  | .held _ => 1
def uptoBulkAll {H : Type} : List (DataW H) → Nat
  | [] => 0
  | d :: r => uptoBulk d + uptoBulkAll r
def uptoBulkEntries {H : Type} : List (Lit × DataW H) → Nat
  | [] => 0
  | x :: r => uptoBulkEntry x + uptoBulkEntries r
def uptoBulkEntry {H : Type} : Lit × DataW H → Nat
  | (.string bytes, d) => bytes.length + uptoBulk d + 1
  | (_, d) => uptoBulk d + 1
 end
def uptoSmall : (H : Type) → List (DataW H) → Bool := fun _ ds => decide (uptoBulkAll ds ≤ 1048576)
def OpenSpec.upto (s : _root_.Go.ChangeSpec) : _root_.Go.OpenSpec := { _root_.Go.OpenSpec.ofChange s with cond := some uptoSmall }

/-- 'laws.FnExactPlanAt', WHERE WHAT IT READS IS OF BULK AT MOST 1048576: true; the input reads as it did. -/
def fnExactPlanAtUptoRow : OpenClaim := { program := "ytohlonlaadmikaa", sum := "4b7d3ac2c78b37b8d07cce9daab47f51bb9521c989c846a73b9752427e582873", func := "loop.example/g00188/laws.FnExactPlanAt", spec := "fnExactPlanAt", unfollowed := true, recurses := true, apart := false, narrowed := true }
def FnExactPlanAtUptoSaid : Prop := fnExactPlanAtUptoRow.holds Try.pinned (OpenSpec.upto fnExactPlanAtSpec)

/-- 'laws.FnExactRunAt', WHERE WHAT IT READS IS OF BULK AT MOST 1048576: true; the input reads as it did. -/
def fnExactRunAtUptoRow : OpenClaim := { program := "ytohlonlaadmikaa", sum := "4b7d3ac2c78b37b8d07cce9daab47f51bb9521c989c846a73b9752427e582873", func := "loop.example/g00188/laws.FnExactRunAt", spec := "fnExactRunAt", unfollowed := true, recurses := true, apart := false, narrowed := true }
def FnExactRunAtUptoSaid : Prop := fnExactRunAtUptoRow.holds Try.pinned (OpenSpec.upto fnExactRunAtSpec)

/-- 'laws.FnExactActiveOf', WHERE WHAT IT READS IS OF BULK AT MOST 1048576: true; the input reads as it did. -/
def fnExactActiveOfUptoRow : OpenClaim := { program := "ytohlonlaadmikaa", sum := "4b7d3ac2c78b37b8d07cce9daab47f51bb9521c989c846a73b9752427e582873", func := "loop.example/g00188/laws.FnExactActiveOf", spec := "fnExactActiveOf", apart := false, narrowed := true }
def FnExactActiveOfUptoSaid : Prop := fnExactActiveOfUptoRow.holds Try.pinned (OpenSpec.upto fnExactActiveOfSpec)

/-- 'laws.FnExactPastOf', WHERE WHAT IT READS IS OF BULK AT MOST 1048576: true; the input reads as it did. -/
def fnExactPastOfUptoRow : OpenClaim := { program := "ytohlonlaadmikaa", sum := "4b7d3ac2c78b37b8d07cce9daab47f51bb9521c989c846a73b9752427e582873", func := "loop.example/g00188/laws.FnExactPastOf", spec := "fnExactPastOf", apart := false, narrowed := true }
def FnExactPastOfUptoSaid : Prop := fnExactPastOfUptoRow.holds Try.pinned (OpenSpec.upto fnExactPastOfSpec)

/-- 'laws.FnExactUsedBy', WHERE WHAT IT READS IS OF BULK AT MOST 1048576: true; the input reads as it did. -/
def fnExactUsedByUptoRow : OpenClaim := { program := "ytohlonlaadmikaa", sum := "4b7d3ac2c78b37b8d07cce9daab47f51bb9521c989c846a73b9752427e582873", func := "loop.example/g00188/laws.FnExactUsedBy", spec := "fnExactUsedBy", unfollowed := true, recurses := true, apart := false, narrowed := true }
def FnExactUsedByUptoSaid : Prop := fnExactUsedByUptoRow.holds Try.pinned (OpenSpec.upto fnExactUsedBySpec)

/-- 'laws.FnExactSameBoard', WHERE WHAT IT READS IS OF BULK AT MOST 1048576: true; the input reads as it did. -/
def fnExactSameBoardUptoRow : OpenClaim := { program := "ytohlonlaadmikaa", sum := "4b7d3ac2c78b37b8d07cce9daab47f51bb9521c989c846a73b9752427e582873", func := "loop.example/g00188/laws.FnExactSameBoard", spec := "fnExactSameBoard", unfollowed := true, recurses := true, apart := false, narrowed := true }
def FnExactSameBoardUptoSaid : Prop := fnExactSameBoardUptoRow.holds Try.pinned (OpenSpec.upto fnExactSameBoardSpec)

/-- 'laws.FnExactBoardNew', WHERE WHAT IT READS IS OF BULK AT MOST 1048576: true; the input reads as it did. -/
def fnExactBoardNewUptoRow : OpenClaim := { program := "ytohlonlaadmikaa", sum := "4b7d3ac2c78b37b8d07cce9daab47f51bb9521c989c846a73b9752427e582873", func := "loop.example/g00188/laws.FnExactBoardNew", spec := "fnExactBoardNew", apart := false, narrowed := true }
def FnExactBoardNewUptoSaid : Prop := fnExactBoardNewUptoRow.holds Try.pinned (OpenSpec.upto fnExactBoardNewSpec)

/-- 'laws.FnExactBeat', WHERE WHAT IT READS IS OF BULK AT MOST 1048576: true; the input reads as it did. -/
def fnExactBeatUptoRow : OpenClaim := { program := "ytohlonlaadmikaa", sum := "4b7d3ac2c78b37b8d07cce9daab47f51bb9521c989c846a73b9752427e582873", func := "loop.example/g00188/laws.FnExactBeat", spec := "fnExactBeat", apart := false, narrowed := true }
def FnExactBeatUptoSaid : Prop := fnExactBeatUptoRow.holds Try.pinned (OpenSpec.upto fnExactBeatSpec)

/-- 'laws.FnExactSweep', WHERE WHAT IT READS IS OF BULK AT MOST 1048576: true; the input reads as it did. -/
def fnExactSweepUptoRow : OpenClaim := { program := "ytohlonlaadmikaa", sum := "4b7d3ac2c78b37b8d07cce9daab47f51bb9521c989c846a73b9752427e582873", func := "loop.example/g00188/laws.FnExactSweep", spec := "fnExactSweep", unfollowed := true, recurses := true, apart := false, narrowed := true }
def FnExactSweepUptoSaid : Prop := fnExactSweepUptoRow.holds Try.pinned (OpenSpec.upto fnExactSweepSpec)

end Rows
end Go.Proofs.Ytohlonlaadmikaa
