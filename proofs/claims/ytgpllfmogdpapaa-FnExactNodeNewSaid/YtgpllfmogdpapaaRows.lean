/-
  No cell of these rows narrows 'for every input' (looked for: loops, veiled, ifaces, maps, wideKeys, modest, calm, conditions, laid).
  DERIVED. THE GIVEN ROWS OF THIS SEAT. 10 by the template 'for every input the law returns true; each argument reads behind the call as it read before'; 0 by the template 'total and deterministic' (their statements: YtgpllfmogdpapaaTotals.lean).
  GIVEN WITH THE SEED: the statements are not yours to turn. If you find one false, say at which input.
  Laid BY PROGRAM, IN A SANDBOX (cutbox-rows.mjs): the forced cells as the released guide's own fill.sh prints them over the translation 1b74a12823700de5… (all of the seat's roots in one cut). By AI agents, Wed Nov 11 2026. No macro, syntax, notation, axiom, sorry.
-/
import Derived.Test.YtgpllfmogdpapaaChecked
import GoSem.Claim
import GoSem.ClaimJoined
import GoSem.ClaimMapViews
import Derived.JoinedTies
import Derived.KernelRfl
namespace Go.Proofs.Ytgpllfmogdpapaa
/- THE CELL 'sum', in the pinned program and in every row, IS THE sha256 OF THE DUMP (.gsa) THAT YtgpllfmogdpapaaProg.lean LOADS. Nothing in Lean hashes anything: it is a label: what it is worth is what the hold of that sum in a sandbox is worth. -/
noncomputable def Try.pinned : Pinned := { name := "ytgpllfmogdpapaa", sum := "1b74a12823700de5dd83eeb2054ebf7ab62753fc46e69e5cb2974929e5f2c6ea", checked := Try.checked }
namespace Rows
def none {H : Type} : Left H := { results := [], args := [] }

/-- 'laws.FnExactConfOf': WHATEVER THE INPUT: true; the input reads as it did. -/
def fnExactConfOfSpec : ChangeSpec := { name := "fnExactConfOf", fn := fun _ => fun
  | [d] => { results := [.lit (.bool true)], args := [d] }
  | _ => none }
def fnExactConfOfRow : OpenClaim := { program := "ytgpllfmogdpapaa", sum := "1b74a12823700de5dd83eeb2054ebf7ab62753fc46e69e5cb2974929e5f2c6ea", func := "loop.example/g00188/laws.FnExactConfOf", spec := "fnExactConfOf", apart := false }
def FnExactConfOfSaid : Prop := fnExactConfOfRow.holds Try.pinned (OpenSpec.ofChange fnExactConfOfSpec)

/-- ITS FALSE NEIGHBOUR: 'it returns false'. Refute it at one input. -/
def fnExactConfOfWrong : ChangeSpec := { name := "fnExactConfOf", fn := fun _ => fun
  | [d] => { results := [.lit (.bool false)], args := [d] }
  | _ => none }
def FnExactConfOfWrongFalsely : Prop := fnExactConfOfRow.holds Try.pinned (OpenSpec.ofChange fnExactConfOfWrong)

/-- 'laws.FnExactNodeOk': WHATEVER THE INPUT: true; the input reads as it did. -/
def fnExactNodeOkSpec : ChangeSpec := { name := "fnExactNodeOk", fn := fun _ => fun
  | [d] => { results := [.lit (.bool true)], args := [d] }
  | _ => none }
def fnExactNodeOkRow : OpenClaim := { program := "ytgpllfmogdpapaa", sum := "1b74a12823700de5dd83eeb2054ebf7ab62753fc46e69e5cb2974929e5f2c6ea", func := "loop.example/g00188/laws.FnExactNodeOk", spec := "fnExactNodeOk", unfollowed := true, recurses := true, apart := false }
def FnExactNodeOkSaid : Prop := fnExactNodeOkRow.holds Try.pinned (OpenSpec.ofChange fnExactNodeOkSpec)

/-- ITS FALSE NEIGHBOUR: 'it returns false'. Refute it at one input. -/
def fnExactNodeOkWrong : ChangeSpec := { name := "fnExactNodeOk", fn := fun _ => fun
  | [d] => { results := [.lit (.bool false)], args := [d] }
  | _ => none }
def FnExactNodeOkWrongFalsely : Prop := fnExactNodeOkRow.holds Try.pinned (OpenSpec.ofChange fnExactNodeOkWrong)

/-- 'laws.FnExactNodeNew': WHATEVER THE INPUT: true; the input reads as it did. -/
def fnExactNodeNewSpec : ChangeSpec := { name := "fnExactNodeNew", fn := fun _ => fun
  | [d1, d2] => { results := [.lit (.bool true)], args := [d1, d2] }
  | _ => none }
def fnExactNodeNewRow : OpenClaim := { program := "ytgpllfmogdpapaa", sum := "1b74a12823700de5dd83eeb2054ebf7ab62753fc46e69e5cb2974929e5f2c6ea", func := "loop.example/g00188/laws.FnExactNodeNew", spec := "fnExactNodeNew", unfollowed := true, recurses := true, apart := false }
def FnExactNodeNewSaid : Prop := fnExactNodeNewRow.holds Try.pinned (OpenSpec.ofChange fnExactNodeNewSpec)

/-- ITS FALSE NEIGHBOUR: 'it returns false'. Refute it at one input. -/
def fnExactNodeNewWrong : ChangeSpec := { name := "fnExactNodeNew", fn := fun _ => fun
  | [d1, d2] => { results := [.lit (.bool false)], args := [d1, d2] }
  | _ => none }
def FnExactNodeNewWrongFalsely : Prop := fnExactNodeNewRow.holds Try.pinned (OpenSpec.ofChange fnExactNodeNewWrong)

/-- 'laws.FnExactSettle': WHATEVER THE INPUT: true; the input reads as it did. -/
def fnExactSettleSpec : ChangeSpec := { name := "fnExactSettle", fn := fun _ => fun
  | [d1, d2] => { results := [.lit (.bool true)], args := [d1, d2] }
  | _ => none }
def fnExactSettleRow : OpenClaim := { program := "ytgpllfmogdpapaa", sum := "1b74a12823700de5dd83eeb2054ebf7ab62753fc46e69e5cb2974929e5f2c6ea", func := "loop.example/g00188/laws.FnExactSettle", spec := "fnExactSettle", unfollowed := true, recurses := true, apart := false }
def FnExactSettleSaid : Prop := fnExactSettleRow.holds Try.pinned (OpenSpec.ofChange fnExactSettleSpec)

/-- ITS FALSE NEIGHBOUR: 'it returns false'. Refute it at one input. -/
def fnExactSettleWrong : ChangeSpec := { name := "fnExactSettle", fn := fun _ => fun
  | [d1, d2] => { results := [.lit (.bool false)], args := [d1, d2] }
  | _ => none }
def FnExactSettleWrongFalsely : Prop := fnExactSettleRow.holds Try.pinned (OpenSpec.ofChange fnExactSettleWrong)

/-- 'laws.FnExactSpans': WHATEVER THE INPUT: true; the input reads as it did. -/
def fnExactSpansSpec : ChangeSpec := { name := "fnExactSpans", fn := fun _ => fun
  | [d1, d2, d3, d4] => { results := [.lit (.bool true)], args := [d1, d2, d3, d4] }
  | _ => none }
def fnExactSpansRow : OpenClaim := { program := "ytgpllfmogdpapaa", sum := "1b74a12823700de5dd83eeb2054ebf7ab62753fc46e69e5cb2974929e5f2c6ea", func := "loop.example/g00188/laws.FnExactSpans", spec := "fnExactSpans", apart := false }
def FnExactSpansSaid : Prop := fnExactSpansRow.holds Try.pinned (OpenSpec.ofChange fnExactSpansSpec)

/-- ITS FALSE NEIGHBOUR: 'it returns false'. Refute it at one input. -/
def fnExactSpansWrong : ChangeSpec := { name := "fnExactSpans", fn := fun _ => fun
  | [d1, d2, d3, d4] => { results := [.lit (.bool false)], args := [d1, d2, d3, d4] }
  | _ => none }
def FnExactSpansWrongFalsely : Prop := fnExactSpansRow.holds Try.pinned (OpenSpec.ofChange fnExactSpansWrong)

/-- 'laws.FnExactEncode': WHATEVER THE INPUT: true; the input reads as it did. -/
def fnExactEncodeSpec : ChangeSpec := { name := "fnExactEncode", fn := fun _ => fun
  | [d] => { results := [.lit (.bool true)], args := [d] }
  | _ => none }
def fnExactEncodeRow : OpenClaim := { program := "ytgpllfmogdpapaa", sum := "1b74a12823700de5dd83eeb2054ebf7ab62753fc46e69e5cb2974929e5f2c6ea", func := "loop.example/g00188/laws.FnExactEncode", spec := "fnExactEncode", inPlace := ["internal/abi.NoEscape"], apart := false }
def FnExactEncodeSaid : Prop := fnExactEncodeRow.holds Try.pinned (OpenSpec.ofChange fnExactEncodeSpec)

/-- ITS FALSE NEIGHBOUR: 'it returns false'. Refute it at one input. -/
def fnExactEncodeWrong : ChangeSpec := { name := "fnExactEncode", fn := fun _ => fun
  | [d] => { results := [.lit (.bool false)], args := [d] }
  | _ => none }
def FnExactEncodeWrongFalsely : Prop := fnExactEncodeRow.holds Try.pinned (OpenSpec.ofChange fnExactEncodeWrong)

/-- 'laws.FnAlone': WHATEVER THE INPUT: true; the input reads as it did. -/
def fnAloneSpec : ChangeSpec := { name := "fnAlone", fn := fun _ => fun
  | [d] => { results := [.lit (.bool true)], args := [d] }
  | _ => none }
def fnAloneRow : OpenClaim := { program := "ytgpllfmogdpapaa", sum := "1b74a12823700de5dd83eeb2054ebf7ab62753fc46e69e5cb2974929e5f2c6ea", func := "loop.example/g00188/laws.FnAlone", spec := "fnAlone", unfollowed := true, recurses := true, apart := false }
def FnAloneSaid : Prop := fnAloneRow.holds Try.pinned (OpenSpec.ofChange fnAloneSpec)

/-- ITS FALSE NEIGHBOUR: 'it returns false'. Refute it at one input. -/
def fnAloneWrong : ChangeSpec := { name := "fnAlone", fn := fun _ => fun
  | [d] => { results := [.lit (.bool false)], args := [d] }
  | _ => none }
def FnAloneWrongFalsely : Prop := fnAloneRow.holds Try.pinned (OpenSpec.ofChange fnAloneWrong)

/-- 'laws.FnPuts': WHATEVER THE INPUT: true; the input reads as it did. -/
def fnPutsSpec : ChangeSpec := { name := "fnPuts", fn := fun _ => fun
  | [d] => { results := [.lit (.bool true)], args := [d] }
  | _ => none }
def fnPutsRow : OpenClaim := { program := "ytgpllfmogdpapaa", sum := "1b74a12823700de5dd83eeb2054ebf7ab62753fc46e69e5cb2974929e5f2c6ea", func := "loop.example/g00188/laws.FnPuts", spec := "fnPuts", apart := false }
def FnPutsSaid : Prop := fnPutsRow.holds Try.pinned (OpenSpec.ofChange fnPutsSpec)

/-- ITS FALSE NEIGHBOUR: 'it returns false'. Refute it at one input. -/
def fnPutsWrong : ChangeSpec := { name := "fnPuts", fn := fun _ => fun
  | [d] => { results := [.lit (.bool false)], args := [d] }
  | _ => none }
def FnPutsWrongFalsely : Prop := fnPutsRow.holds Try.pinned (OpenSpec.ofChange fnPutsWrong)

/-- 'laws.FnLogs': WHATEVER THE INPUT: true; the input reads as it did. -/
def fnLogsSpec : ChangeSpec := { name := "fnLogs", fn := fun _ => fun
  | [d] => { results := [.lit (.bool true)], args := [d] }
  | _ => none }
def fnLogsRow : OpenClaim := { program := "ytgpllfmogdpapaa", sum := "1b74a12823700de5dd83eeb2054ebf7ab62753fc46e69e5cb2974929e5f2c6ea", func := "loop.example/g00188/laws.FnLogs", spec := "fnLogs", apart := false }
def FnLogsSaid : Prop := fnLogsRow.holds Try.pinned (OpenSpec.ofChange fnLogsSpec)

/-- ITS FALSE NEIGHBOUR: 'it returns false'. Refute it at one input. -/
def fnLogsWrong : ChangeSpec := { name := "fnLogs", fn := fun _ => fun
  | [d] => { results := [.lit (.bool false)], args := [d] }
  | _ => none }
def FnLogsWrongFalsely : Prop := fnLogsRow.holds Try.pinned (OpenSpec.ofChange fnLogsWrong)

/-- 'laws.FnLatest': WHATEVER THE INPUT: true; the input reads as it did. -/
def fnLatestSpec : ChangeSpec := { name := "fnLatest", fn := fun _ => fun
  | [d] => { results := [.lit (.bool true)], args := [d] }
  | _ => none }
def fnLatestRow : OpenClaim := { program := "ytgpllfmogdpapaa", sum := "1b74a12823700de5dd83eeb2054ebf7ab62753fc46e69e5cb2974929e5f2c6ea", func := "loop.example/g00188/laws.FnLatest", spec := "fnLatest", apart := false }
def FnLatestSaid : Prop := fnLatestRow.holds Try.pinned (OpenSpec.ofChange fnLatestSpec)

/-- ITS FALSE NEIGHBOUR: 'it returns false'. Refute it at one input. -/
def fnLatestWrong : ChangeSpec := { name := "fnLatest", fn := fun _ => fun
  | [d] => { results := [.lit (.bool false)], args := [d] }
  | _ => none }
def FnLatestWrongFalsely : Prop := fnLatestRow.holds Try.pinned (OpenSpec.ofChange fnLatestWrong)

/- THE SECOND FORM. 'bulk': how many values and letters a reading holds, each counted each time it is reached (what is shared counts as often as it is met; a slice's spare places count too). A statement '..UptoSaid' is the law's where the arguments, and the package variables that the reading takes, are together of bulk at most 1048576: NARROWER than '..Said'. Prove '..Said' where nothing that the law and all that it calls make is longer than what came in: it says more and counts as full. Else prove '..UptoSaid'. A law counts once. -/
mutual
def uptoBulk {H : Type} : DataW H → Nat
  | .lit (.string bytes) => bytes.length + 1
  | .lit _ => 1
  | .nil => 1
  | .ptr d => uptoBulk d + 1
  | .slice elems spare => uptoBulkAll elems + uptoBulkAll spare + 1
  | .agg parts => uptoBulkAll parts + 1
  | .iface _ d => uptoBulk d + 1
  | .map entries => uptoBulkEntries entries + 1
  | .held _ => 1
def uptoBulkAll {H : Type} : List (DataW H) → Nat
  | [] => 0
  | d :: r => uptoBulk d + uptoBulkAll r
def uptoBulkEntries {H : Type} : List (Lit × DataW H) → Nat
  | [] => 0
  | x :: r => uptoBulkEntry x + uptoBulkEntries r
def uptoBulkEntry {H : Type} : Lit × DataW H → Nat
  | (.string bytes, d) => bytes.length + uptoBulk d + 1
  | (_, d) => uptoBulk d + 1
 end
def uptoSmall : (H : Type) → List (DataW H) → Bool := fun _ ds => decide (uptoBulkAll ds ≤ 1048576)
def OpenSpec.upto (s : _root_.Go.ChangeSpec) : _root_.Go.OpenSpec := { _root_.Go.OpenSpec.ofChange s with cond := some uptoSmall }

/-- 'laws.FnExactConfOf', WHERE WHAT IT READS IS OF BULK AT MOST 1048576: true; the input reads as it did. -/
def fnExactConfOfUptoRow : OpenClaim := { program := "ytgpllfmogdpapaa", sum := "1b74a12823700de5dd83eeb2054ebf7ab62753fc46e69e5cb2974929e5f2c6ea", func := "loop.example/g00188/laws.FnExactConfOf", spec := "fnExactConfOf", apart := false, narrowed := true }
def FnExactConfOfUptoSaid : Prop := fnExactConfOfUptoRow.holds Try.pinned (OpenSpec.upto fnExactConfOfSpec)

/-- 'laws.FnExactNodeOk', WHERE WHAT IT READS IS OF BULK AT MOST 1048576: true; the input reads as it did. -/
def fnExactNodeOkUptoRow : OpenClaim := { program := "ytgpllfmogdpapaa", sum := "1b74a12823700de5dd83eeb2054ebf7ab62753fc46e69e5cb2974929e5f2c6ea", func := "loop.example/g00188/laws.FnExactNodeOk", spec := "fnExactNodeOk", unfollowed := true, recurses := true, apart := false, narrowed := true }
def FnExactNodeOkUptoSaid : Prop := fnExactNodeOkUptoRow.holds Try.pinned (OpenSpec.upto fnExactNodeOkSpec)

/-- 'laws.FnExactNodeNew', WHERE WHAT IT READS IS OF BULK AT MOST 1048576: true; the input reads as it did. -/
def fnExactNodeNewUptoRow : OpenClaim := { program := "ytgpllfmogdpapaa", sum := "1b74a12823700de5dd83eeb2054ebf7ab62753fc46e69e5cb2974929e5f2c6ea", func := "loop.example/g00188/laws.FnExactNodeNew", spec := "fnExactNodeNew", unfollowed := true, recurses := true, apart := false, narrowed := true }
def FnExactNodeNewUptoSaid : Prop := fnExactNodeNewUptoRow.holds Try.pinned (OpenSpec.upto fnExactNodeNewSpec)

/-- 'laws.FnExactSettle', WHERE WHAT IT READS IS OF BULK AT MOST 1048576: true; the input reads as it did. -/
def fnExactSettleUptoRow : OpenClaim := { program := "ytgpllfmogdpapaa", sum := "1b74a12823700de5dd83eeb2054ebf7ab62753fc46e69e5cb2974929e5f2c6ea", func := "loop.example/g00188/laws.FnExactSettle", spec := "fnExactSettle", unfollowed := true, recurses := true, apart := false, narrowed := true }
def FnExactSettleUptoSaid : Prop := fnExactSettleUptoRow.holds Try.pinned (OpenSpec.upto fnExactSettleSpec)

/-- 'laws.FnExactSpans', WHERE WHAT IT READS IS OF BULK AT MOST 1048576: true; the input reads as it did. -/
def fnExactSpansUptoRow : OpenClaim := { program := "ytgpllfmogdpapaa", sum := "1b74a12823700de5dd83eeb2054ebf7ab62753fc46e69e5cb2974929e5f2c6ea", func := "loop.example/g00188/laws.FnExactSpans", spec := "fnExactSpans", apart := false, narrowed := true }
def FnExactSpansUptoSaid : Prop := fnExactSpansUptoRow.holds Try.pinned (OpenSpec.upto fnExactSpansSpec)

/-- 'laws.FnExactEncode', WHERE WHAT IT READS IS OF BULK AT MOST 1048576: true; the input reads as it did. -/
def fnExactEncodeUptoRow : OpenClaim := { program := "ytgpllfmogdpapaa", sum := "1b74a12823700de5dd83eeb2054ebf7ab62753fc46e69e5cb2974929e5f2c6ea", func := "loop.example/g00188/laws.FnExactEncode", spec := "fnExactEncode", inPlace := ["internal/abi.NoEscape"], apart := false, narrowed := true }
def FnExactEncodeUptoSaid : Prop := fnExactEncodeUptoRow.holds Try.pinned (OpenSpec.upto fnExactEncodeSpec)

/-- 'laws.FnAlone', WHERE WHAT IT READS IS OF BULK AT MOST 1048576: true; the input reads as it did. -/
def fnAloneUptoRow : OpenClaim := { program := "ytgpllfmogdpapaa", sum := "1b74a12823700de5dd83eeb2054ebf7ab62753fc46e69e5cb2974929e5f2c6ea", func := "loop.example/g00188/laws.FnAlone", spec := "fnAlone", unfollowed := true, recurses := true, apart := false, narrowed := true }
def FnAloneUptoSaid : Prop := fnAloneUptoRow.holds Try.pinned (OpenSpec.upto fnAloneSpec)

/-- 'laws.FnPuts', WHERE WHAT IT READS IS OF BULK AT MOST 1048576: true; the input reads as it did. -/
def fnPutsUptoRow : OpenClaim := { program := "ytgpllfmogdpapaa", sum := "1b74a12823700de5dd83eeb2054ebf7ab62753fc46e69e5cb2974929e5f2c6ea", func := "loop.example/g00188/laws.FnPuts", spec := "fnPuts", apart := false, narrowed := true }
def FnPutsUptoSaid : Prop := fnPutsUptoRow.holds Try.pinned (OpenSpec.upto fnPutsSpec)

/-- 'laws.FnLogs', WHERE WHAT IT READS IS OF BULK AT MOST 1048576: true; the input reads as it did. -/
def fnLogsUptoRow : OpenClaim := { program := "ytgpllfmogdpapaa", sum := "1b74a12823700de5dd83eeb2054ebf7ab62753fc46e69e5cb2974929e5f2c6ea", func := "loop.example/g00188/laws.FnLogs", spec := "fnLogs", apart := false, narrowed := true }
def FnLogsUptoSaid : Prop := fnLogsUptoRow.holds Try.pinned (OpenSpec.upto fnLogsSpec)

/-- 'laws.FnLatest', WHERE WHAT IT READS IS OF BULK AT MOST 1048576: true; the input reads as it did. -/
def fnLatestUptoRow : OpenClaim := { program := "ytgpllfmogdpapaa", sum := "1b74a12823700de5dd83eeb2054ebf7ab62753fc46e69e5cb2974929e5f2c6ea", func := "loop.example/g00188/laws.FnLatest", spec := "fnLatest", apart := false, narrowed := true }
def FnLatestUptoSaid : Prop := fnLatestUptoRow.holds Try.pinned (OpenSpec.upto fnLatestSpec)

end Rows
end Go.Proofs.Ytgpllfmogdpapaa
