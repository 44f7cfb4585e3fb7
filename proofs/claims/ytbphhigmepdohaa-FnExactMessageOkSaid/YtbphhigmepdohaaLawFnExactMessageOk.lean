/- 'laws.FnExactMessageOk' returns true for every message, and leaves it as it was. Conditions: none. -/
import Derived.Test.YtbphhigmepdohaaRows
import Derived.Test.YtbphhigmepdohaaMsgc
import Derived.WalkKit
import Derived.ProofKit
import Derived.OpenShut
import Derived.ShutString
import Derived.ChangeOld
import Derived.Below
import Derived.SizedLaws
namespace Go.Proofs.Ytbphhigmepdohaa.fnExactMessageOk
open Go.ChangeShapes Go.WideShapes Go.ChangeAt Go.RowKit Go.Proofs.Ytbphhigmepdohaa.Am
open Go.ChangeMaps (open_string shut_string)
set_option linter.unusedVariables false
set_option linter.unusedSimpArgs false
theorem own : ownKnob Try.prog.godebug = none := by kernel_rfl
theorem laid : laidOutB Try.prog = true := by kernel_rfl
theorem rowsOpen {α : Type} {enc : α → List (T Unit)} {B : α → Prop} : ∀ (rows : List (List DT)), (∀ r ∈ rows, ∃ x, erL r = enc x ∧ B x) → ∃ l : List α, rows.map erL = l.map enc ∧ l.length = rows.length ∧ ∀ y ∈ l, B y
  | [], _ => ⟨[], rfl, rfl, fun y h => by cases h⟩
  | r :: rs, h => by
    obtain ⟨x, h1, h2⟩ := h r (by simp)
    obtain ⟨l, g1, g2, g3⟩ := rowsOpen rs fun q hq => h q (by simp [hq])
    refine ⟨x :: l, by simp only [List.map_cons, h1, g1], by simp [g2], fun y hy => ?_⟩
    rcases List.mem_cons.1 hy with rfl | hy
    · exact h2
    · exact g3 y hy
def ty152 : Ty := (.struct (.cons (.int .i64) (.cons (.int .i64) (.cons .str .nil))))
def In152 (x : S152) : Prop := (Lit.int .i64 x.f0).wf = true ∧ (Lit.int .i64 x.f1).wf = true ∧ x.f2.size ≤ maxLen
theorem open152 {ts : List DT} (h : Shape ty152 ts) : ∃ x : S152, erL ts = S152.t x ∧ In152 x := by
  simp only [ty152, Shape, ShapeF] at h
  obtain ⟨xs0, ys0, rfl, s0, xs1, ys1, rfl, s1, xs2, ys2, rfl, s2, rfl⟩ := h
  obtain ⟨v0, rfl, k0⟩ := s0
  obtain ⟨v1, rfl, k1⟩ := s1
  obtain ⟨v2, rfl, k2⟩ := s2
  refine ⟨⟨v0, v1, v2⟩, ?_, ⟨k0, k1, k2⟩⟩
  simp only [List.map_append, List.map_cons, List.map_nil, erL, er_s, er_v]
  rfl
def ty81 : Ty := (.struct (.cons (.int .i64) (.cons (.int .i64) (.cons (.int .i64) (.cons (.int .i64) (.cons (.int .i64) (.cons (.int .i64) (.cons (.int .i64) (.cons .bool (.cons (.slice (.struct (.cons (.int .i64) (.cons (.int .i64) (.cons .str .nil))))) (.cons (.slice (.int .i64)) (.cons .str (.cons .bool .nil)))))))))))))
def In81 (x : S81) : Prop := (Lit.int .i64 x.f0).wf = true ∧ (Lit.int .i64 x.f1).wf = true ∧ (Lit.int .i64 x.f2).wf = true ∧ (Lit.int .i64 x.f3).wf = true ∧ (Lit.int .i64 x.f4).wf = true ∧ (Lit.int .i64 x.f5).wf = true ∧ (Lit.int .i64 x.f6).wf = true ∧ x.f8.length ≤ maxLen ∧ (∀ y ∈ x.f8, In152 y) ∧ x.f9.length ≤ maxLen ∧ x.f10.size ≤ maxLen
theorem open81 {ts : List DT} (h : Shape ty81 ts) : ∃ x : S81, erL ts = S81.t .far x ∧ In81 x := by
  simp only [ty81, Shape, ShapeF] at h
  obtain ⟨xs0, ys0, rfl, s0, xs1, ys1, rfl, s1, xs2, ys2, rfl, s2, xs3, ys3, rfl, s3, xs4, ys4, rfl, s4, xs5, ys5, rfl, s5, xs6, ys6, rfl, s6, xs7, ys7, rfl, s7, xs8, ys8, rfl, s8, xs9, ys9, rfl, s9, xs10, ys10, rfl, s10, xs11, ys11, rfl, s11, rfl⟩ := h
  obtain ⟨v0, rfl, k0⟩ := s0
  obtain ⟨v1, rfl, k1⟩ := s1
  obtain ⟨v2, rfl, k2⟩ := s2
  obtain ⟨v3, rfl, k3⟩ := s3
  obtain ⟨v4, rfl, k4⟩ := s4
  obtain ⟨v5, rfl, k5⟩ := s5
  obtain ⟨v6, rfl, k6⟩ := s6
  obtain ⟨v7, rfl⟩ := s7
  obtain ⟨d8, r8, rfl, k8, a8⟩ := s8
  obtain ⟨v8, e8, b8, c8⟩ := rowsOpen (enc := S152.t) (B := In152) r8 (fun r hr => open152 (by simp only [ty152, Shape, ShapeF]; exact a8 r hr))
  obtain ⟨d9, r9, rfl, k9, a9⟩ := s9
  obtain ⟨v9, e9, b9, c9⟩ := rowsOpen (enc := etI) (B := fun n => (Lit.int .i64 n).wf = true) r9 (fun r hr => (by obtain ⟨n, rfl, hn⟩ := a9 r hr; exact ⟨n, rfl, hn⟩))
  obtain ⟨v10, rfl, k10⟩ := s10
  obtain ⟨v11, rfl⟩ := s11
  refine ⟨⟨v0, v1, v2, v3, v4, v5, v6, v7, v8, v9, v10, v11⟩, ?_, ⟨k0, k1, k2, k3, k4, k5, k6, (by rw [b8]; exact k8), c8, (by rw [b9]; exact k9), k10⟩⟩
  simp only [List.map_append, List.map_cons, List.map_nil, erL, er_s, er_v, e8, e9]
  rfl
set_option maxRecDepth 100000 in
theorem lifted (os : Os) (started : os.Started) (H : Type) (enc : TypeId × Value → H) :
    ReturnsInHanded {} Try.checked os 12 .any (Rows.fnExactMessageOkSpec.pre6 enc Try.prog Try.f12 Rows.fnExactMessageOkRow.domain false) (Rows.fnExactMessageOkSpec.post enc Try.prog Try.f12 false true false false) := by
  refine returnsInHanded_of_change_sized (C := Try.checked) own started (by kernel_rfl) Try.func12
    (ChangeSpec.witness6 (enc := enc) (C := Try.checked) false ⟨#[], #[.agg #[.int .i64 0, .int .i64 0, .int .i64 0, .int .i64 0, .int .i64 0, .int .i64 0, .int .i64 0, .bool false, .slice none 0 0, .slice none 0 0, .string ByteArray.empty, .bool false]], []⟩ 8 (by kernel_rfl) (by kernel_rfl) (by kernel_rfl) (by kernel_rfl)) ?_
  intro W base args ds gs before hval0 hW hcnd hsz0 _
  have hval : ∀ (j : Nat) t v, Try.f12.params[j]? = some t → args[j]? = some v → Value.okWide Try.prog W .any base t v := hval0
  have hW' := hW
  obtain ⟨p, q, hA0, hV, rfl, hfz, hnd⟩ := hW
  have hA : DataW.TrodAll enc Try.prog W 0 (fun _ => true) true Try.f12.params.toList args.toList ds p := hA0
  rw [Try.params12] at hA hval
  have hlt := hA.lt
  obtain ⟨v0, vs0, d0, ds0, p0, q0, hargs, rfl, rfl, h0, r0⟩ := trodAll_cons hA
  obtain ⟨rfl, rfl, rfl⟩ := trodAll_nil r0
  obtain rfl : args = #[v0] := by cases args; simp_all
  obtain ⟨rfl, rfl⟩ := trodVars_none hV
  have hok0 := hval 0 82 v0 rfl rfl
  unfold Value.okWide at hok0
  rw [Try.underlying82] at hok0
  obtain ⟨cs0, rfl, _, _⟩ := hok0
  have h0k := h0
  obtain ⟨n0, h0⟩ := h0
  obtain ⟨ts0, R0, S0, L0⟩ := Ty.open ty81 n0 82 _ _ (by kernel_rfl) h0
  obtain ⟨x0, e0, k0⟩ := open81 S0
  clear hA0 hval0 hsz0
  refine (runs (law12 x0 k0.2.2.2.2.2.2.2.1 (fun y hy => (k0.2.2.2.2.2.2.2.2.1 y hy).2.2) k0.2.2.2.2.2.2.2.2.2.1 k0.2.2.2.2.2.2.2.2.2.2) (ad := [.agg ts0]) (by simp only [List.map_cons, List.map_nil, Sl.er, er_v]; rw [e0]) (ArgsOk.cons (AOk.agg R0 (Shape.noLent ty81 _ S0)) (ArgsOk.nil W))).mono fun e W' ⟨he, bel⟩ => ?_
  subst he
  exact ⟨_, rfl, _, _, _, [], _, [], hW', trodAll_mk1 (shut_bool Try.underlying4 _), (trodAll_cons_mk (Below.trod laid (by kernel_rfl) (of_decide_eq_true (by kernel_rfl)) h0k bel (fun x hx => hlt x (by simp [hx]))) trodAll_mk0), rfl, bel.frame _, fun h => by cases h⟩
theorem over : Rows.fnExactMessageOkRow.holds Try.pinned (OpenSpec.ofChange Rows.fnExactMessageOkSpec) :=
  OpenClaim.holds_of_wide 12 Try.f12 rfl rfl rfl rfl rfl rfl rfl ⟨rfl, rfl, rfl, rfl, rfl⟩ rfl rfl rfl rfl rfl (by kernel_rfl) Try.func12 (by kernel_rfl)
    (of_decide_eq_true (by kernel_rfl)) (by unfold Func.isWrapper; first | (rw [if_pos (by decide +kernel)]; kernel_rfl) | (rw [if_neg (by decide +kernel)]; exact ⟨rfl, rfl⟩))
    (fun os started H enc _ => lifted os started H enc)
theorem proved : Rows.FnExactMessageOkSaid := over
end Go.Proofs.Ytbphhigmepdohaa.fnExactMessageOk
namespace Go.Proofs.Ytbphhigmepdohaa
/-- The row, under a short name, for the claim. -/
theorem fnExactMessageOk_holds : Rows.FnExactMessageOkSaid := fnExactMessageOk.proved
end Go.Proofs.Ytbphhigmepdohaa
