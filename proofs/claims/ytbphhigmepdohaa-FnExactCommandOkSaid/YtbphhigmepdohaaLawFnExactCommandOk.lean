/- laws.FnExactCommandOk returns true for every command, and leaves the command as it was. Conditions: none. -/
import Derived.Test.YtbphhigmepdohaaRows
import Derived.Test.YtbphhigmepdohaaCommandOka
import Derived.WalkKit
import Derived.ProofKit
import Derived.OpenShut
import Derived.ShutString
import Derived.ChangeOld
import Derived.Below
import Derived.SizedLaws
namespace Go.Proofs.Ytbphhigmepdohaa.fnExactCommandOk
open Go.ChangeShapes Go.WideShapes Go.ChangeAt Go.RowKit Go.Proofs.Ytbphhigmepdohaa.Am
open Go.ChangeMaps (open_string shut_string)
set_option linter.unusedVariables false
theorem own : ownKnob Try.prog.godebug = none := by kernel_rfl
theorem laid : laidOutB Try.prog = true := by kernel_rfl
def cmdTy : Ty := .struct (.cons (.int .i64) (.cons (.int .i64) (.cons (.int .i64) (.cons .str (.cons .str (.cons (.int .i64) (.cons (.int .i64) (.cons .bool .nil))))))))
theorem cmdOk : Ty.ok Try.prog cmdTy 27 = true := by kernel_rfl
theorem cmdShape {ts : List DT} (h : Shape cmdTy ts) : ∃ x0 x1 x2 x3 x4 x5 x6 x7, ts = [.v (.int .i64 x0), .v (.int .i64 x1), .v (.int .i64 x2), .v (.string x3), .v (.string x4), .v (.int .i64 x5), .v (.int .i64 x6), .v (.bool x7)] ∧
    x3.size ≤ maxLen ∧ x4.size ≤ maxLen := by
  simp only [cmdTy, Shape, ShapeF] at h
  obtain ⟨_, _, rfl, ⟨x0, rfl, _⟩, _, _, rfl, ⟨x1, rfl, _⟩, _, _, rfl, ⟨x2, rfl, _⟩, _, _, rfl, ⟨x3, rfl, h3⟩, _, _, rfl, ⟨x4, rfl, h4⟩, _, _, rfl, ⟨x5, rfl, _⟩, _, _, rfl, ⟨x6, rfl, _⟩, _, _, rfl, ⟨x7, rfl⟩, rfl⟩ := h
  exact ⟨x0, x1, x2, x3, x4, x5, x6, x7, rfl, h3, h4⟩
theorem vcells_v {xs : List Value} {cs : List Value} (h : VCells (xs.map T.v) cs) : cs = xs := by
  obtain ⟨hl, hv⟩ := h
  apply List.ext_getElem (by simpa using hl.symm)
  intro i h1 h2
  exact (hv i (.v xs[i]) cs[i] (by simp) (by simp)).1
set_option maxRecDepth 100000 in
theorem lifted (os : Os) (started : os.Started) (H : Type) (enc : TypeId × Value → H) :
    ReturnsInHanded {} Try.checked os 6 .any (Rows.fnExactCommandOkSpec.pre6 enc Try.prog Try.f6 Rows.fnExactCommandOkRow.domain false) (Rows.fnExactCommandOkSpec.post enc Try.prog Try.f6 false true false false) := by
  refine returnsInHanded_of_change_sized (C := Try.checked) own started (by kernel_rfl) Try.func6
    (ChangeSpec.witness6 (enc := enc) (C := Try.checked) false ⟨#[], #[.agg #[.int .i64 0, .int .i64 0, .int .i64 0, .string ByteArray.empty, .string ByteArray.empty, .int .i64 0, .int .i64 0, .bool false]], []⟩ 8 (by kernel_rfl) (by kernel_rfl) (by kernel_rfl) (by kernel_rfl)) ?_
  intro W base args ds gs before hval0 hW hcnd hsz0 _
  have hval : ∀ (j : Nat) t v, Try.f6.params[j]? = some t → args[j]? = some v → Value.okWide Try.prog W .any base t v := hval0
  have hW' := hW
  obtain ⟨p, q, hA0, hV, rfl, hfz, hnd⟩ := hW
  have hA : DataW.TrodAll enc Try.prog W 0 (fun _ => true) true Try.f6.params.toList args.toList ds p := hA0
  rw [Try.params6] at hA hval
  have hlt := hA.lt
  obtain ⟨v0, vs0, d0, ds0, p0, q0, hargs, rfl, rfl, h0, r0⟩ := trodAll_cons hA
  obtain ⟨rfl, rfl, rfl⟩ := trodAll_nil r0
  obtain rfl : args = #[v0] := by cases args; simp_all
  obtain ⟨rfl, rfl⟩ := trodVars_none hV
  have hok := hval 0 27 v0 rfl rfl
  unfold Value.okWide at hok
  rw [Try.underlying27] at hok
  obtain ⟨cs, rfl, _, _⟩ := hok
  have h0k := h0
  obtain ⟨n, h0⟩ := h0
  obtain ⟨ts, R, S, L⟩ := Ty.open cmdTy n 27 _ _ cmdOk h0
  obtain ⟨x0, x1, x2, x3, x4, x5, x6, x7, rfl, w3, w4⟩ := cmdShape S
  have hcs := vcells_v (xs := [.int .i64 x0, .int .i64 x1, .int .i64 x2, .string x3, .string x4, .int .i64 x5, .int .i64 x6, .bool x7]) R.cells
  obtain rfl : cs = #[.int .i64 x0, .int .i64 x1, .int .i64 x2, .string x3, .string x4, .int .i64 x5, .int .i64 x6, .bool x7] := by
    rw [← Array.toList_inj]; exact hcs
  clear hA0 hval0 hsz0
  refine (runs (law6 ⟨x0, x1, x2, x3, x4, x5, x6, x7⟩ w3 w4) (ad := [.agg _]) (by rfl) (ArgsOk.cons (AOk.agg R (Shape.noLent cmdTy _ S)) (ArgsOk.nil W))).mono fun e W' ⟨he, bel⟩ => ?_
  subst he
  exact ⟨_, rfl, _, _, _, [], _, [], hW', trodAll_mk1 (shut_bool Try.underlying4 _),
    (trodAll_cons_mk (Below.trod laid (by kernel_rfl) (of_decide_eq_true (by kernel_rfl)) h0k bel (fun x hx => hlt x (by simpa using hx))) trodAll_mk0), rfl, bel.frame _, fun h => by cases h⟩
theorem over : Rows.fnExactCommandOkRow.holds Try.pinned (OpenSpec.ofChange Rows.fnExactCommandOkSpec) :=
  OpenClaim.holds_of_wide 6 Try.f6 rfl rfl rfl rfl rfl rfl rfl ⟨rfl, rfl, rfl, rfl, rfl⟩ rfl rfl rfl rfl rfl (by kernel_rfl) Try.func6 (by kernel_rfl)
    (of_decide_eq_true (by kernel_rfl)) (by unfold Func.isWrapper; first | (rw [if_pos (by decide +kernel)]; kernel_rfl) | (rw [if_neg (by decide +kernel)]; exact ⟨rfl, rfl⟩))
    (fun os started H enc _ => lifted os started H enc)
theorem proved : Rows.FnExactCommandOkSaid := over
end Go.Proofs.Ytbphhigmepdohaa.fnExactCommandOk
namespace Go.Proofs.Ytbphhigmepdohaa
/-- The row, under a short name, for the claim. -/
theorem fnExactCommandOk_holds : Rows.FnExactCommandOkSaid := fnExactCommandOk.proved
end Go.Proofs.Ytbphhigmepdohaa
