/-
  No cell of these rows narrows 'for every input' (looked for: loops, veiled, ifaces, maps, wideKeys, modest, calm, conditions, laid).
  DERIVED. THE GIVEN ROWS OF THIS SEAT. 12 by the template 'for every input the law returns true; each argument reads behind the call as it read before'; 0 by the template 'total and deterministic' (their statements: YtbphhigmepdohaaTotals.lean).
  GIVEN WITH THE SEED: the statements are not yours to turn. If you find one false, say at which input.
  Laid BY PROGRAM, IN A SANDBOX (cutbox-rows.mjs): the forced cells as the released guide's own fill.sh prints them over the translation 1c2679a9e56e56f3… (all of the seat's roots in one cut). By AI agents, Wed Nov 11 2026. No macro, syntax, notation, axiom, sorry.
-/
import Derived.Test.YtbphhigmepdohaaChecked
import GoSem.Claim
import GoSem.ClaimJoined
import GoSem.ClaimMapViews
import Derived.JoinedTies
import Derived.KernelRfl
namespace Go.Proofs.Ytbphhigmepdohaa
/- THE CELL 'sum', in the pinned program and in every row, IS THE sha256 OF THE DUMP (.gsa) THAT YtbphhigmepdohaaProg.lean LOADS. Nothing in Lean hashes anything: it is a label: what it is worth is what the hold of that sum in a sandbox is worth. -/
noncomputable def Try.pinned : Pinned := { name := "ytbphhigmepdohaa", sum := "1c2679a9e56e56f38b307e40c87d574e8a8f79d90d09606bf4d8e979ef575b17", checked := Try.checked }
namespace Rows
def none {H : Type} : Left H := { results := [], args := [] }

/-- 'laws.FnExactBackoff': WHATEVER THE INPUT: true; the input reads as it did. -/
def fnExactBackoffSpec : ChangeSpec := { name := "fnExactBackoff", fn := fun _ => fun
  | [d] => { results := [.lit (.bool true)], args := [d] }
  | _ => none }
def fnExactBackoffRow : OpenClaim := { program := "ytbphhigmepdohaa", sum := "1c2679a9e56e56f38b307e40c87d574e8a8f79d90d09606bf4d8e979ef575b17", func := "loop.example/g00188/laws.FnExactBackoff", spec := "fnExactBackoff", apart := false }
def FnExactBackoffSaid : Prop := fnExactBackoffRow.holds Try.pinned (OpenSpec.ofChange fnExactBackoffSpec)

/-- ITS FALSE NEIGHBOUR: 'it returns false'. Refute it at one input. -/
def fnExactBackoffWrong : ChangeSpec := { name := "fnExactBackoff", fn := fun _ => fun
  | [d] => { results := [.lit (.bool false)], args := [d] }
  | _ => none }
def FnExactBackoffWrongFalsely : Prop := fnExactBackoffRow.holds Try.pinned (OpenSpec.ofChange fnExactBackoffWrong)

/-- 'laws.FnExactPoolSize': WHATEVER THE INPUT: true; the input reads as it did. -/
def fnExactPoolSizeSpec : ChangeSpec := { name := "fnExactPoolSize", fn := fun _ => fun
  | [d] => { results := [.lit (.bool true)], args := [d] }
  | _ => none }
def fnExactPoolSizeRow : OpenClaim := { program := "ytbphhigmepdohaa", sum := "1c2679a9e56e56f38b307e40c87d574e8a8f79d90d09606bf4d8e979ef575b17", func := "loop.example/g00188/laws.FnExactPoolSize", spec := "fnExactPoolSize", apart := false }
def FnExactPoolSizeSaid : Prop := fnExactPoolSizeRow.holds Try.pinned (OpenSpec.ofChange fnExactPoolSizeSpec)

/-- ITS FALSE NEIGHBOUR: 'it returns false'. Refute it at one input. -/
def fnExactPoolSizeWrong : ChangeSpec := { name := "fnExactPoolSize", fn := fun _ => fun
  | [d] => { results := [.lit (.bool false)], args := [d] }
  | _ => none }
def FnExactPoolSizeWrongFalsely : Prop := fnExactPoolSizeRow.holds Try.pinned (OpenSpec.ofChange fnExactPoolSizeWrong)

/-- 'laws.FnExactNameOk': WHATEVER THE INPUT: true; the input reads as it did. -/
def fnExactNameOkSpec : ChangeSpec := { name := "fnExactNameOk", fn := fun _ => fun
  | [d] => { results := [.lit (.bool true)], args := [d] }
  | _ => none }
def fnExactNameOkRow : OpenClaim := { program := "ytbphhigmepdohaa", sum := "1c2679a9e56e56f38b307e40c87d574e8a8f79d90d09606bf4d8e979ef575b17", func := "loop.example/g00188/laws.FnExactNameOk", spec := "fnExactNameOk", apart := false }
def FnExactNameOkSaid : Prop := fnExactNameOkRow.holds Try.pinned (OpenSpec.ofChange fnExactNameOkSpec)

/-- ITS FALSE NEIGHBOUR: 'it returns false'. Refute it at one input. -/
def fnExactNameOkWrong : ChangeSpec := { name := "fnExactNameOk", fn := fun _ => fun
  | [d] => { results := [.lit (.bool false)], args := [d] }
  | _ => none }
def FnExactNameOkWrongFalsely : Prop := fnExactNameOkRow.holds Try.pinned (OpenSpec.ofChange fnExactNameOkWrong)

/-- 'laws.FnExactCommandOk': WHATEVER THE INPUT: true; the input reads as it did. -/
def fnExactCommandOkSpec : ChangeSpec := { name := "fnExactCommandOk", fn := fun _ => fun
  | [d] => { results := [.lit (.bool true)], args := [d] }
  | _ => none }
def fnExactCommandOkRow : OpenClaim := { program := "ytbphhigmepdohaa", sum := "1c2679a9e56e56f38b307e40c87d574e8a8f79d90d09606bf4d8e979ef575b17", func := "loop.example/g00188/laws.FnExactCommandOk", spec := "fnExactCommandOk", apart := false }
def FnExactCommandOkSaid : Prop := fnExactCommandOkRow.holds Try.pinned (OpenSpec.ofChange fnExactCommandOkSpec)

/-- ITS FALSE NEIGHBOUR: 'it returns false'. Refute it at one input. -/
def fnExactCommandOkWrong : ChangeSpec := { name := "fnExactCommandOk", fn := fun _ => fun
  | [d] => { results := [.lit (.bool false)], args := [d] }
  | _ => none }
def FnExactCommandOkWrongFalsely : Prop := fnExactCommandOkRow.holds Try.pinned (OpenSpec.ofChange fnExactCommandOkWrong)

/-- 'laws.FnExactOver': WHATEVER THE INPUT: true; the input reads as it did. -/
def fnExactOverSpec : ChangeSpec := { name := "fnExactOver", fn := fun _ => fun
  | [d] => { results := [.lit (.bool true)], args := [d] }
  | _ => none }
def fnExactOverRow : OpenClaim := { program := "ytbphhigmepdohaa", sum := "1c2679a9e56e56f38b307e40c87d574e8a8f79d90d09606bf4d8e979ef575b17", func := "loop.example/g00188/laws.FnExactOver", spec := "fnExactOver", unfollowed := true, recurses := true, apart := false }
def FnExactOverSaid : Prop := fnExactOverRow.holds Try.pinned (OpenSpec.ofChange fnExactOverSpec)

/-- ITS FALSE NEIGHBOUR: 'it returns false'. Refute it at one input. -/
def fnExactOverWrong : ChangeSpec := { name := "fnExactOver", fn := fun _ => fun
  | [d] => { results := [.lit (.bool false)], args := [d] }
  | _ => none }
def FnExactOverWrongFalsely : Prop := fnExactOverRow.holds Try.pinned (OpenSpec.ofChange fnExactOverWrong)

/-- 'laws.FnExactTaskAt': WHATEVER THE INPUT: true; the input reads as it did. -/
def fnExactTaskAtSpec : ChangeSpec := { name := "fnExactTaskAt", fn := fun _ => fun
  | [d1, d2] => { results := [.lit (.bool true)], args := [d1, d2] }
  | _ => none }
def fnExactTaskAtRow : OpenClaim := { program := "ytbphhigmepdohaa", sum := "1c2679a9e56e56f38b307e40c87d574e8a8f79d90d09606bf4d8e979ef575b17", func := "loop.example/g00188/laws.FnExactTaskAt", spec := "fnExactTaskAt", unfollowed := true, recurses := true, apart := false }
def FnExactTaskAtSaid : Prop := fnExactTaskAtRow.holds Try.pinned (OpenSpec.ofChange fnExactTaskAtSpec)

/-- ITS FALSE NEIGHBOUR: 'it returns false'. Refute it at one input. -/
def fnExactTaskAtWrong : ChangeSpec := { name := "fnExactTaskAt", fn := fun _ => fun
  | [d1, d2] => { results := [.lit (.bool false)], args := [d1, d2] }
  | _ => none }
def FnExactTaskAtWrongFalsely : Prop := fnExactTaskAtRow.holds Try.pinned (OpenSpec.ofChange fnExactTaskAtWrong)

/-- 'laws.FnExactCommandText': WHATEVER THE INPUT: true; the input reads as it did. -/
def fnExactCommandTextSpec : ChangeSpec := { name := "fnExactCommandText", fn := fun _ => fun
  | [d] => { results := [.lit (.bool true)], args := [d] }
  | _ => none }
def fnExactCommandTextRow : OpenClaim := { program := "ytbphhigmepdohaa", sum := "1c2679a9e56e56f38b307e40c87d574e8a8f79d90d09606bf4d8e979ef575b17", func := "loop.example/g00188/laws.FnExactCommandText", spec := "fnExactCommandText", apart := false }
def FnExactCommandTextSaid : Prop := fnExactCommandTextRow.holds Try.pinned (OpenSpec.ofChange fnExactCommandTextSpec)

/-- ITS FALSE NEIGHBOUR: 'it returns false'. Refute it at one input. -/
def fnExactCommandTextWrong : ChangeSpec := { name := "fnExactCommandText", fn := fun _ => fun
  | [d] => { results := [.lit (.bool false)], args := [d] }
  | _ => none }
def FnExactCommandTextWrongFalsely : Prop := fnExactCommandTextRow.holds Try.pinned (OpenSpec.ofChange fnExactCommandTextWrong)

/-- 'laws.FnSpans': WHATEVER THE INPUT: true; the input reads as it did. -/
def fnSpansSpec : ChangeSpec := { name := "fnSpans", fn := fun _ => fun
  | [d] => { results := [.lit (.bool true)], args := [d] }
  | _ => none }
def fnSpansRow : OpenClaim := { program := "ytbphhigmepdohaa", sum := "1c2679a9e56e56f38b307e40c87d574e8a8f79d90d09606bf4d8e979ef575b17", func := "loop.example/g00188/laws.FnSpans", spec := "fnSpans", apart := false }
def FnSpansSaid : Prop := fnSpansRow.holds Try.pinned (OpenSpec.ofChange fnSpansSpec)

/-- ITS FALSE NEIGHBOUR: 'it returns false'. Refute it at one input. -/
def fnSpansWrong : ChangeSpec := { name := "fnSpans", fn := fun _ => fun
  | [d] => { results := [.lit (.bool false)], args := [d] }
  | _ => none }
def FnSpansWrongFalsely : Prop := fnSpansRow.holds Try.pinned (OpenSpec.ofChange fnSpansWrong)

/-- 'laws.FnExactBegin': WHATEVER THE INPUT: true; the input reads as it did. -/
def fnExactBeginSpec : ChangeSpec := { name := "fnExactBegin", fn := fun _ => fun
  | [d1, d2, d3, d4] => { results := [.lit (.bool true)], args := [d1, d2, d3, d4] }
  | _ => none }
def fnExactBeginRow : OpenClaim := { program := "ytbphhigmepdohaa", sum := "1c2679a9e56e56f38b307e40c87d574e8a8f79d90d09606bf4d8e979ef575b17", func := "loop.example/g00188/laws.FnExactBegin", spec := "fnExactBegin", apart := false }
def FnExactBeginSaid : Prop := fnExactBeginRow.holds Try.pinned (OpenSpec.ofChange fnExactBeginSpec)

/-- ITS FALSE NEIGHBOUR: 'it returns false'. Refute it at one input. -/
def fnExactBeginWrong : ChangeSpec := { name := "fnExactBegin", fn := fun _ => fun
  | [d1, d2, d3, d4] => { results := [.lit (.bool false)], args := [d1, d2, d3, d4] }
  | _ => none }
def FnExactBeginWrongFalsely : Prop := fnExactBeginRow.holds Try.pinned (OpenSpec.ofChange fnExactBeginWrong)

/-- 'laws.FnExactMessageOk': WHATEVER THE INPUT: true; the input reads as it did. -/
def fnExactMessageOkSpec : ChangeSpec := { name := "fnExactMessageOk", fn := fun _ => fun
  | [d] => { results := [.lit (.bool true)], args := [d] }
  | _ => none }
def fnExactMessageOkRow : OpenClaim := { program := "ytbphhigmepdohaa", sum := "1c2679a9e56e56f38b307e40c87d574e8a8f79d90d09606bf4d8e979ef575b17", func := "loop.example/g00188/laws.FnExactMessageOk", spec := "fnExactMessageOk", apart := false }
def FnExactMessageOkSaid : Prop := fnExactMessageOkRow.holds Try.pinned (OpenSpec.ofChange fnExactMessageOkSpec)

/-- ITS FALSE NEIGHBOUR: 'it returns false'. Refute it at one input. -/
def fnExactMessageOkWrong : ChangeSpec := { name := "fnExactMessageOk", fn := fun _ => fun
  | [d] => { results := [.lit (.bool false)], args := [d] }
  | _ => none }
def FnExactMessageOkWrongFalsely : Prop := fnExactMessageOkRow.holds Try.pinned (OpenSpec.ofChange fnExactMessageOkWrong)

/-- 'laws.FnExactLatest': WHATEVER THE INPUT: true; the input reads as it did. -/
def fnExactLatestSpec : ChangeSpec := { name := "fnExactLatest", fn := fun _ => fun
  | [d1, d2, d3] => { results := [.lit (.bool true)], args := [d1, d2, d3] }
  | _ => none }
def fnExactLatestRow : OpenClaim := { program := "ytbphhigmepdohaa", sum := "1c2679a9e56e56f38b307e40c87d574e8a8f79d90d09606bf4d8e979ef575b17", func := "loop.example/g00188/laws.FnExactLatest", spec := "fnExactLatest", apart := false }
def FnExactLatestSaid : Prop := fnExactLatestRow.holds Try.pinned (OpenSpec.ofChange fnExactLatestSpec)

/-- ITS FALSE NEIGHBOUR: 'it returns false'. Refute it at one input. -/
def fnExactLatestWrong : ChangeSpec := { name := "fnExactLatest", fn := fun _ => fun
  | [d1, d2, d3] => { results := [.lit (.bool false)], args := [d1, d2, d3] }
  | _ => none }
def FnExactLatestWrongFalsely : Prop := fnExactLatestRow.holds Try.pinned (OpenSpec.ofChange fnExactLatestWrong)

/-- 'laws.FnExactConfAt': WHATEVER THE INPUT: true; the input reads as it did. -/
def fnExactConfAtSpec : ChangeSpec := { name := "fnExactConfAt", fn := fun _ => fun
  | [d1, d2] => { results := [.lit (.bool true)], args := [d1, d2] }
  | _ => none }
def fnExactConfAtRow : OpenClaim := { program := "ytbphhigmepdohaa", sum := "1c2679a9e56e56f38b307e40c87d574e8a8f79d90d09606bf4d8e979ef575b17", func := "loop.example/g00188/laws.FnExactConfAt", spec := "fnExactConfAt", apart := false }
def FnExactConfAtSaid : Prop := fnExactConfAtRow.holds Try.pinned (OpenSpec.ofChange fnExactConfAtSpec)

/-- ITS FALSE NEIGHBOUR: 'it returns false'. Refute it at one input. -/
def fnExactConfAtWrong : ChangeSpec := { name := "fnExactConfAt", fn := fun _ => fun
  | [d1, d2] => { results := [.lit (.bool false)], args := [d1, d2] }
  | _ => none }
def FnExactConfAtWrongFalsely : Prop := fnExactConfAtRow.holds Try.pinned (OpenSpec.ofChange fnExactConfAtWrong)

/- THE SECOND FORM. 'bulk': how many values and letters a reading holds, each counted each time it is reached (what is shared counts as often as it is met; a slice's spare places count too). A statement '..UptoSaid' is the law's where the arguments, and the package variables that the reading takes, are together of bulk at most 1048576: NARROWER than '..Said'. Prove '..Said' where nothing that the law and all that it calls make is longer than what came in: it says more and counts as full. Else prove '..UptoSaid'. A law counts once. -/
mutual
def uptoBulk {H : Type} : DataW H → Nat
  | .lit (.string bytes) => bytes.length + 1
  | .lit _ => 1
  | .nil => 1
  | .ptr d => uptoBulk d + 1
  | .slice elems spare => uptoBulkAll elems + uptoBulkAll spare + 1
  | .agg parts => uptoBulkAll parts + 1
  | .iface _ d => uptoBulk d + 1
  | .map entries => uptoBulkEntries entries + 1
  | .held _ => 1
def uptoBulkAll {H : Type} : List (DataW H) → Nat
  | [] => 0
  | d :: r => uptoBulk d + uptoBulkAll r
def uptoBulkEntries {H : Type} : List (Lit × DataW H) → Nat
  | [] => 0
  | x :: r => uptoBulkEntry x + uptoBulkEntries r
def uptoBulkEntry {H : Type} : Lit × DataW H → Nat
  | (.string bytes, d) => bytes.length + uptoBulk d + 1
  | (_, d) => uptoBulk d + 1
 end
def uptoSmall : (H : Type) → List (DataW H) → Bool := fun _ ds => decide (uptoBulkAll ds ≤ 1048576)
def OpenSpec.upto (s : _root_.Go.ChangeSpec) : _root_.Go.OpenSpec := { _root_.Go.OpenSpec.ofChange s with cond := some uptoSmall }

/-- 'laws.FnExactBackoff', WHERE WHAT IT READS IS OF BULK AT MOST 1048576: true; the input reads as it did. -/
def fnExactBackoffUptoRow : OpenClaim := { program := "ytbphhigmepdohaa", sum := "1c2679a9e56e56f38b307e40c87d574e8a8f79d90d09606bf4d8e979ef575b17", func := "loop.example/g00188/laws.FnExactBackoff", spec := "fnExactBackoff", apart := false, narrowed := true }
def FnExactBackoffUptoSaid : Prop := fnExactBackoffUptoRow.holds Try.pinned (OpenSpec.upto fnExactBackoffSpec)

/-- 'laws.FnExactPoolSize', WHERE WHAT IT READS IS OF BULK AT MOST 1048576: true; the input reads as it did. -/
def fnExactPoolSizeUptoRow : OpenClaim := { program := "ytbphhigmepdohaa", sum := "1c2679a9e56e56f38b307e40c87d574e8a8f79d90d09606bf4d8e979ef575b17", func := "loop.example/g00188/laws.FnExactPoolSize", spec := "fnExactPoolSize", apart := false, narrowed := true }
def FnExactPoolSizeUptoSaid : Prop := fnExactPoolSizeUptoRow.holds Try.pinned (OpenSpec.upto fnExactPoolSizeSpec)

/-- 'laws.FnExactNameOk', WHERE WHAT IT READS IS OF BULK AT MOST 1048576: true; the input reads as it did. -/
def fnExactNameOkUptoRow : OpenClaim := { program := "ytbphhigmepdohaa", sum := "1c2679a9e56e56f38b307e40c87d574e8a8f79d90d09606bf4d8e979ef575b17", func := "loop.example/g00188/laws.FnExactNameOk", spec := "fnExactNameOk", apart := false, narrowed := true }
def FnExactNameOkUptoSaid : Prop := fnExactNameOkUptoRow.holds Try.pinned (OpenSpec.upto fnExactNameOkSpec)

/-- 'laws.FnExactCommandOk', WHERE WHAT IT READS IS OF BULK AT MOST 1048576: true; the input reads as it did. -/
def fnExactCommandOkUptoRow : OpenClaim := { program := "ytbphhigmepdohaa", sum := "1c2679a9e56e56f38b307e40c87d574e8a8f79d90d09606bf4d8e979ef575b17", func := "loop.example/g00188/laws.FnExactCommandOk", spec := "fnExactCommandOk", apart := false, narrowed := true }
def FnExactCommandOkUptoSaid : Prop := fnExactCommandOkUptoRow.holds Try.pinned (OpenSpec.upto fnExactCommandOkSpec)

/-- 'laws.FnExactOver', WHERE WHAT IT READS IS OF BULK AT MOST 1048576: true; the input reads as it did. -/
def fnExactOverUptoRow : OpenClaim := { program := "ytbphhigmepdohaa", sum := "1c2679a9e56e56f38b307e40c87d574e8a8f79d90d09606bf4d8e979ef575b17", func := "loop.example/g00188/laws.FnExactOver", spec := "fnExactOver", unfollowed := true, recurses := true, apart := false, narrowed := true }
def FnExactOverUptoSaid : Prop := fnExactOverUptoRow.holds Try.pinned (OpenSpec.upto fnExactOverSpec)

/-- 'laws.FnExactTaskAt', WHERE WHAT IT READS IS OF BULK AT MOST 1048576: true; the input reads as it did. -/
def fnExactTaskAtUptoRow : OpenClaim := { program := "ytbphhigmepdohaa", sum := "1c2679a9e56e56f38b307e40c87d574e8a8f79d90d09606bf4d8e979ef575b17", func := "loop.example/g00188/laws.FnExactTaskAt", spec := "fnExactTaskAt", unfollowed := true, recurses := true, apart := false, narrowed := true }
def FnExactTaskAtUptoSaid : Prop := fnExactTaskAtUptoRow.holds Try.pinned (OpenSpec.upto fnExactTaskAtSpec)

/-- 'laws.FnExactCommandText', WHERE WHAT IT READS IS OF BULK AT MOST 1048576: true; the input reads as it did. -/
def fnExactCommandTextUptoRow : OpenClaim := { program := "ytbphhigmepdohaa", sum := "1c2679a9e56e56f38b307e40c87d574e8a8f79d90d09606bf4d8e979ef575b17", func := "loop.example/g00188/laws.FnExactCommandText", spec := "fnExactCommandText", apart := false, narrowed := true }
def FnExactCommandTextUptoSaid : Prop := fnExactCommandTextUptoRow.holds Try.pinned (OpenSpec.upto fnExactCommandTextSpec)

/-- 'laws.FnSpans', WHERE WHAT IT READS IS OF BULK AT MOST 1048576: true; the input reads as it did. -/
def fnSpansUptoRow : OpenClaim := { program := "ytbphhigmepdohaa", sum := "1c2679a9e56e56f38b307e40c87d574e8a8f79d90d09606bf4d8e979ef575b17", func := "loop.example/g00188/laws.FnSpans", spec := "fnSpans", apart := false, narrowed := true }
def FnSpansUptoSaid : Prop := fnSpansUptoRow.holds Try.pinned (OpenSpec.upto fnSpansSpec)

/-- 'laws.FnExactBegin', WHERE WHAT IT READS IS OF BULK AT MOST 1048576: true; the input reads as it did. -/
def fnExactBeginUptoRow : OpenClaim := { program := "ytbphhigmepdohaa", sum := "1c2679a9e56e56f38b307e40c87d574e8a8f79d90d09606bf4d8e979ef575b17", func := "loop.example/g00188/laws.FnExactBegin", spec := "fnExactBegin", apart := false, narrowed := true }
def FnExactBeginUptoSaid : Prop := fnExactBeginUptoRow.holds Try.pinned (OpenSpec.upto fnExactBeginSpec)

/-- 'laws.FnExactMessageOk', WHERE WHAT IT READS IS OF BULK AT MOST 1048576: true; the input reads as it did. -/
def fnExactMessageOkUptoRow : OpenClaim := { program := "ytbphhigmepdohaa", sum := "1c2679a9e56e56f38b307e40c87d574e8a8f79d90d09606bf4d8e979ef575b17", func := "loop.example/g00188/laws.FnExactMessageOk", spec := "fnExactMessageOk", apart := false, narrowed := true }
def FnExactMessageOkUptoSaid : Prop := fnExactMessageOkUptoRow.holds Try.pinned (OpenSpec.upto fnExactMessageOkSpec)

/-- 'laws.FnExactLatest', WHERE WHAT IT READS IS OF BULK AT MOST 1048576: true; the input reads as it did. -/
def fnExactLatestUptoRow : OpenClaim := { program := "ytbphhigmepdohaa", sum := "1c2679a9e56e56f38b307e40c87d574e8a8f79d90d09606bf4d8e979ef575b17", func := "loop.example/g00188/laws.FnExactLatest", spec := "fnExactLatest", apart := false, narrowed := true }
def FnExactLatestUptoSaid : Prop := fnExactLatestUptoRow.holds Try.pinned (OpenSpec.upto fnExactLatestSpec)

/-- 'laws.FnExactConfAt', WHERE WHAT IT READS IS OF BULK AT MOST 1048576: true; the input reads as it did. -/
def fnExactConfAtUptoRow : OpenClaim := { program := "ytbphhigmepdohaa", sum := "1c2679a9e56e56f38b307e40c87d574e8a8f79d90d09606bf4d8e979ef575b17", func := "loop.example/g00188/laws.FnExactConfAt", spec := "fnExactConfAt", apart := false, narrowed := true }
def FnExactConfAtUptoSaid : Prop := fnExactConfAtUptoRow.holds Try.pinned (OpenSpec.upto fnExactConfAtSpec)

end Rows
end Go.Proofs.Ytbphhigmepdohaa
