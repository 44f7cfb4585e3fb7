/- The statement's row. Conditions: none. -/
import Derived.Test.YtohlonlaadmikaaRows
import Derived.Test.YtohlonlaadmikaaAct
import Derived.WalkKit
import Derived.ProofKit
import Derived.OpenShut
import Derived.ShutString
import Derived.ChangeOld
import Derived.Below
import Derived.SizedLaws
namespace Go.Proofs.Ytohlonlaadmikaa.fnExactBoardNew
open Go.ChangeShapes Go.WideShapes Go.ChangeAt Go.RowKit Go.Proofs.Ytohlonlaadmikaa.Am
open Go.ChangeMaps (open_string shut_string)
set_option linter.unusedVariables false
set_option linter.unusedSimpArgs false
theorem own : ownKnob Try.prog.godebug = none := by kernel_rfl
theorem laid : laidOutB Try.prog = true := by kernel_rfl
theorem rowsOpen {α : Type} {enc : α → List (T Unit)} {B : α → Prop} : ∀ (rows : List (List DT)), (∀ r ∈ rows, ∃ x, erL r = enc x ∧ B x) → ∃ l : List α, rows.map erL = l.map enc ∧ l.length = rows.length ∧ ∀ y ∈ l, B y
  | [], _ => ⟨[], rfl, rfl, fun y h => by cases h⟩
  | r :: rs, h => by
    obtain ⟨x, h1, h2⟩ := h r (by simp)
    obtain ⟨l, g1, g2, g3⟩ := rowsOpen rs fun q hq => h q (by simp [hq])
    refine ⟨x :: l, by simp only [List.map_cons, h1, g1], by simp [g2], fun y hy => ?_⟩
    rcases List.mem_cons.1 hy with rfl | hy
    · exact h2
    · exact g3 y hy

set_option maxRecDepth 100000 in
theorem lifted (os : Os) (started : os.Started) (H : Type) (enc : TypeId × Value → H) :
    ReturnsInHanded {} Try.checked os 9 .any (Rows.fnExactBoardNewSpec.pre6 enc Try.prog Try.f9 Rows.fnExactBoardNewRow.domain false) (Rows.fnExactBoardNewSpec.post enc Try.prog Try.f9 false true false false) := by
  refine returnsInHanded_of_change_sized (C := Try.checked) own started (by kernel_rfl) Try.func9
    (ChangeSpec.witness6 (enc := enc) (C := Try.checked) false ⟨#[], #[], []⟩ 8 (by kernel_rfl) (by kernel_rfl) (by kernel_rfl) (by kernel_rfl)) ?_
  intro W base args ds gs before hval0 hW hcnd hsz0 _
  have hval : ∀ (j : Nat) t v, Try.f9.params[j]? = some t → args[j]? = some v → Value.okWide Try.prog W .any base t v := hval0
  have hW' := hW
  obtain ⟨p, q, hA0, hV, rfl, hfz, hnd⟩ := hW
  have hA : DataW.TrodAll enc Try.prog W 0 (fun _ => true) true Try.f9.params.toList args.toList ds p := hA0
  rw [Try.params9] at hA hval
  have hlt := hA.lt
  obtain ⟨hargs, rfl, rfl⟩ := trodAll_nil hA
  obtain rfl : args = #[] := by cases args; simp_all
  obtain ⟨rfl, rfl⟩ := trodVars_none hV
  clear hA0 hval0 hsz0
  refine (runs (T_law_BoardNew) (ad := []) (by simp only [List.map_cons, List.map_nil, Sl.er, er_v]) (ArgsIn.nil W)).mono fun e W' ⟨he, bel⟩ => ?_
  subst he
  exact ⟨_, rfl, _, _, _, [], _, [], hW', trodAll_mk1 (shut_bool Try.underlying4 _), trodAll_mk0, rfl, bel.frame _, fun h => by cases h⟩
theorem over : Rows.fnExactBoardNewRow.holds Try.pinned (OpenSpec.ofChange Rows.fnExactBoardNewSpec) :=
  OpenClaim.holds_of_wide 9 Try.f9 rfl rfl rfl rfl rfl rfl rfl ⟨rfl, rfl, rfl, rfl, rfl⟩ rfl rfl rfl rfl rfl (by kernel_rfl) Try.func9 (by kernel_rfl)
    (of_decide_eq_true (by kernel_rfl)) (by unfold Func.isWrapper; first | (rw [if_pos (by decide +kernel)]; kernel_rfl) | (rw [if_neg (by decide +kernel)]; exact ⟨rfl, rfl⟩))
    (fun os started H enc _ => lifted os started H enc)
theorem proved : Rows.FnExactBoardNewSaid := over
end Go.Proofs.Ytohlonlaadmikaa.fnExactBoardNew
namespace Go.Proofs.Ytohlonlaadmikaa
/-- The row, under a short name, for the claim. -/
theorem fnExactBoardNew_holds : Rows.FnExactBoardNewSaid := fnExactBoardNew.proved
end Go.Proofs.Ytohlonlaadmikaa
