/- The statement's row. Conditions: none. -/
import Derived.Test.YtbphhigmepdohaaRows
import Derived.Test.YtbphhigmepdohaaAct
import Derived.WalkKit
import Derived.ProofKit
import Derived.OpenShut
import Derived.ShutString
import Derived.ChangeOld
import Derived.Below
import Derived.SizedLaws
namespace Go.Proofs.Ytbphhigmepdohaa.fnExactBegin
open Go.ChangeShapes Go.WideShapes Go.ChangeAt Go.RowKit Go.Proofs.Ytbphhigmepdohaa.Am
open Go.ChangeMaps (open_string shut_string)
set_option linter.unusedVariables false
set_option linter.unusedSimpArgs false
theorem own : ownKnob Try.prog.godebug = none := by kernel_rfl
theorem laid : laidOutB Try.prog = true := by kernel_rfl
theorem rowsOpen {α : Type} {enc : α → List (T Unit)} {B : α → Prop} : ∀ (rows : List (List DT)), (∀ r ∈ rows, ∃ x, erL r = enc x ∧ B x) → ∃ l : List α, rows.map erL = l.map enc ∧ l.length = rows.length ∧ ∀ y ∈ l, B y
  | [], _ => ⟨[], rfl, rfl, fun y h => by cases h⟩
  | r :: rs, h => by
    obtain ⟨x, h1, h2⟩ := h r (by simp)
    obtain ⟨l, g1, g2, g3⟩ := rowsOpen rs fun q hq => h q (by simp [hq])
    refine ⟨x :: l, by simp only [List.map_cons, h1, g1], by simp [g2], fun y hy => ?_⟩
    rcases List.mem_cons.1 hy with rfl | hy
    · exact h2
    · exact g3 y hy
def ty_GSpan : Ty := (.struct (.cons (.int .i64) (.cons (.int .i64) .nil)))
theorem open_GSpan {ts : List DT} (h : Shape ty_GSpan ts) : ∃ x : GSpan, erL ts = GSpan.t x ∧ Wf.wf x := by
  simp only [ty_GSpan, Shape, ShapeF] at h
  obtain ⟨xs0, ys0, rfl, s0, xs1, ys1, rfl, s1, rfl⟩ := h
  obtain ⟨v0, rfl, k0⟩ := s0
  obtain ⟨v1, rfl, k1⟩ := s1
  refine ⟨⟨v0, v1⟩, ?_, trivial⟩
  simp only [List.map_append, List.map_cons, List.map_nil, erL, er_s, er_v]
  rfl
def ty_GState : Ty := (.struct (.cons (.int .i64) (.cons (.int .i64) (.cons (.int .i64) (.cons (.int .i64) .nil)))))
theorem open_GState {ts : List DT} (h : Shape ty_GState ts) : ∃ x : GState, erL ts = GState.t x ∧ Wf.wf x := by
  simp only [ty_GState, Shape, ShapeF] at h
  obtain ⟨xs0, ys0, rfl, s0, xs1, ys1, rfl, s1, xs2, ys2, rfl, s2, xs3, ys3, rfl, s3, rfl⟩ := h
  obtain ⟨v0, rfl, k0⟩ := s0
  obtain ⟨v1, rfl, k1⟩ := s1
  obtain ⟨v2, rfl, k2⟩ := s2
  obtain ⟨v3, rfl, k3⟩ := s3
  refine ⟨⟨v0, v1, v2, v3⟩, ?_, trivial⟩
  simp only [List.map_append, List.map_cons, List.map_nil, erL, er_s, er_v]
  rfl
def ty_LRun : Ty := (.struct (.cons .str (.cons (.struct (.cons (.int .i64) (.cons (.int .i64) .nil))) (.cons (.int .i64) (.cons (.slice (.struct (.cons (.int .i64) (.cons (.int .i64) (.cons (.int .i64) (.cons (.int .i64) .nil)))))) .nil)))))
theorem open_LRun {ts : List DT} (h : Shape ty_LRun ts) : ∃ x : LRun, erL ts = LRun.t .far x ∧ Wf.wf x := by
  simp only [ty_LRun, Shape, ShapeF] at h
  obtain ⟨xs0, ys0, rfl, s0, xs1, ys1, rfl, s1, xs2, ys2, rfl, s2, xs3, ys3, rfl, s3, rfl⟩ := h
  obtain ⟨v0, rfl, k0⟩ := s0
  obtain ⟨v1, e1, k1⟩ := open_GSpan (ts := xs1) (by simp only [ty_GSpan, Shape, ShapeF]; exact s1)
  obtain ⟨v2, rfl, k2⟩ := s2
  obtain ⟨d3, r3, rfl, k3, a3⟩ := s3
  obtain ⟨v3, e3, b3, c3⟩ := rowsOpen (enc := GState.t) (B := Wf.wf) r3 (fun r hr => open_GState (by simp only [ty_GState, Shape, ShapeF]; exact a3 r hr))
  refine ⟨⟨v0, v1, v2, v3⟩, ?_, ⟨k0, k1, ⟨by rw [b3]; exact k3, c3⟩⟩⟩
  simp only [List.map_append, List.map_cons, List.map_nil, erL, er_s, er_v, e1, e3]
  rfl
set_option maxRecDepth 100000 in
theorem lifted (os : Os) (started : os.Started) (H : Type) (enc : TypeId × Value → H) :
    ReturnsInHanded {} Try.checked os 11 .any (Rows.fnExactBeginSpec.pre6 enc Try.prog Try.f11 Rows.fnExactBeginRow.domain false) (Rows.fnExactBeginSpec.post enc Try.prog Try.f11 false true false false) := by
  refine returnsInHanded_of_change_sized (C := Try.checked) own started (by kernel_rfl) Try.func11
    (ChangeSpec.witness6 (enc := enc) (C := Try.checked) false ⟨#[], #[.agg #[.string ByteArray.empty, .int .i64 0, .int .i64 0, .int .i64 0, .slice none 0 0], .int .i64 0, .int .i64 0, .int .i64 0], []⟩ 8 (by kernel_rfl) (by kernel_rfl) (by kernel_rfl) (by kernel_rfl)) ?_
  intro W base args ds gs before hval0 hW hcnd hsz0 _
  have hval : ∀ (j : Nat) t v, Try.f11.params[j]? = some t → args[j]? = some v → Value.okWide Try.prog W .any base t v := hval0
  have hW' := hW
  obtain ⟨p, q, hA0, hV, rfl, hfz, hnd⟩ := hW
  have hA : DataW.TrodAll enc Try.prog W 0 (fun _ => true) true Try.f11.params.toList args.toList ds p := hA0
  rw [Try.params11] at hA hval
  have hlt := hA.lt
  obtain ⟨v0, vs0, d0, ds0, p0, q0, hargs, rfl, rfl, h0, r0⟩ := trodAll_cons hA
  obtain ⟨v1, vs1, d1, ds1, p1, q1, hargs1, rfl, rfl, h1, r1⟩ := trodAll_cons r0
  obtain ⟨v2, vs2, d2, ds2, p2, q2, hargs2, rfl, rfl, h2, r2⟩ := trodAll_cons r1
  obtain ⟨v3, vs3, d3, ds3, p3, q3, hargs3, rfl, rfl, h3, r3⟩ := trodAll_cons r2
  obtain ⟨rfl, rfl, rfl⟩ := trodAll_nil r3
  obtain rfl : args = #[v0, v1, v2, v3] := by cases args; simp_all
  obtain ⟨rfl, rfl⟩ := trodVars_none hV
  have hok0 := hval 0 37 v0 rfl rfl
  unfold Value.okWide at hok0
  rw [Try.underlying37] at hok0
  obtain ⟨cs0, rfl, _, _⟩ := hok0
  have h0k := h0
  obtain ⟨n0, h0⟩ := h0
  obtain ⟨ts0, R0, S0, L0⟩ := Ty.open ty_LRun n0 37 _ _ (by kernel_rfl) h0
  obtain ⟨x0, e0, k0⟩ := open_LRun S0
  obtain ⟨x1, rfl, rfl, rfl, k1⟩ := open_int Try.underlying3 (hval 1 3 v1 rfl rfl) h1
  obtain ⟨x2, rfl, rfl, rfl, k2⟩ := open_int Try.underlying3 (hval 2 3 v2 rfl rfl) h2
  obtain ⟨x3, rfl, rfl, rfl, k3⟩ := open_int Try.underlying3 (hval 3 3 v3 rfl rfl) h3
  clear hA0 hval0 hsz0
  refine (runs (T_law_Begin x0 x1 x2 x3 k0) (ad := [.agg ts0, .one (.v (.int .i64 x1)), .one (.v (.int .i64 x2)), .one (.v (.int .i64 x3))]) (by simp only [List.map_cons, List.map_nil, Sl.er, er_v]; rw [e0]) (ArgsIn.cons (AOk.agg R0 (Shape.noLent ty_LRun _ S0)) (ArgsIn.cons (AOk.one (t := .v (.int .i64 x1)) (Reads.val rfl) rfl) (ArgsIn.cons (AOk.one (t := .v (.int .i64 x2)) (Reads.val rfl) rfl) (ArgsIn.cons (AOk.one (t := .v (.int .i64 x3)) (Reads.val rfl) rfl) (ArgsIn.nil W)))))).mono fun e W' ⟨he, bel⟩ => ?_
  subst he
  exact ⟨_, rfl, _, _, _, [], _, [], hW', trodAll_mk1 (shut_bool Try.underlying4 _), (trodAll_cons_mk (Below.trod laid (by kernel_rfl) (of_decide_eq_true (by kernel_rfl)) h0k bel (fun x hx => hlt x (by simp [hx]))) (trodAll_cons_mk (shut_int Try.underlying3 k1) (trodAll_cons_mk (shut_int Try.underlying3 k2) (trodAll_cons_mk (shut_int Try.underlying3 k3) trodAll_mk0)))), rfl, bel.frame _, fun h => by cases h⟩
theorem over : Rows.fnExactBeginRow.holds Try.pinned (OpenSpec.ofChange Rows.fnExactBeginSpec) :=
  OpenClaim.holds_of_wide 11 Try.f11 rfl rfl rfl rfl rfl rfl rfl ⟨rfl, rfl, rfl, rfl, rfl⟩ rfl rfl rfl rfl rfl (by kernel_rfl) Try.func11 (by kernel_rfl)
    (of_decide_eq_true (by kernel_rfl)) (by unfold Func.isWrapper; first | (rw [if_pos (by decide +kernel)]; kernel_rfl) | (rw [if_neg (by decide +kernel)]; exact ⟨rfl, rfl⟩))
    (fun os started H enc _ => lifted os started H enc)
theorem proved : Rows.FnExactBeginSaid := over
end Go.Proofs.Ytbphhigmepdohaa.fnExactBegin
namespace Go.Proofs.Ytbphhigmepdohaa
/-- The row, under a short name, for the claim. -/
theorem fnExactBegin_holds : Rows.FnExactBeginSaid := fnExactBegin.proved
end Go.Proofs.Ytbphhigmepdohaa
