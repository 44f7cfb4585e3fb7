/- The statement's row. Conditions: none. -/
import Derived.Test.YtohlonlaadmikaaRows
import Derived.Test.YtohlonlaadmikaaAct
import Derived.WalkKit
import Derived.ProofKit
import Derived.OpenShut
import Derived.ShutString
import Derived.ChangeOld
import Derived.Below
import Derived.SizedLaws
namespace Go.Proofs.Ytohlonlaadmikaa.fnExactBeat
open Go.ChangeShapes Go.WideShapes Go.ChangeAt Go.RowKit Go.Proofs.Ytohlonlaadmikaa.Am
open Go.ChangeMaps (open_string shut_string)
set_option linter.unusedVariables false
set_option linter.unusedSimpArgs false
theorem own : ownKnob Try.prog.godebug = none := by kernel_rfl
theorem laid : laidOutB Try.prog = true := by kernel_rfl
theorem rowsOpen {α : Type} {enc : α → List (T Unit)} {B : α → Prop} : ∀ (rows : List (List DT)), (∀ r ∈ rows, ∃ x, erL r = enc x ∧ B x) → ∃ l : List α, rows.map erL = l.map enc ∧ l.length = rows.length ∧ ∀ y ∈ l, B y
  | [], _ => ⟨[], rfl, rfl, fun y h => by cases h⟩
  | r :: rs, h => by
    obtain ⟨x, h1, h2⟩ := h r (by simp)
    obtain ⟨l, g1, g2, g3⟩ := rowsOpen rs fun q hq => h q (by simp [hq])
    refine ⟨x :: l, by simp only [List.map_cons, h1, g1], by simp [g2], fun y hy => ?_⟩
    rcases List.mem_cons.1 hy with rfl | hy
    · exact h2
    · exact g3 y hy
def ty_GSession : Ty := (.struct (.cons (.int .i64) (.cons (.int .i64) (.cons .str .nil))))
theorem open_GSession {ts : List DT} (h : Shape ty_GSession ts) : ∃ x : GSession, erL ts = GSession.t x ∧ Wf.wf x := by
  simp only [ty_GSession, Shape, ShapeF] at h
  obtain ⟨xs0, ys0, rfl, s0, xs1, ys1, rfl, s1, xs2, ys2, rfl, s2, rfl⟩ := h
  obtain ⟨v0, rfl, k0⟩ := s0
  obtain ⟨v1, rfl, k1⟩ := s1
  obtain ⟨v2, rfl, k2⟩ := s2
  refine ⟨⟨v0, v1, v2⟩, ?_, k2⟩
  simp only [List.map_append, List.map_cons, List.map_nil, erL, er_s, er_v]
  rfl
def ty_GTask : Ty := (.struct (.cons .str (.cons .str (.cons (.int .i64) (.cons .bool (.cons (.slice .str) .nil))))))
theorem open_GTask {ts : List DT} (h : Shape ty_GTask ts) : ∃ x : GTask, erL ts = GTask.t .far x ∧ Wf.wf x := by
  simp only [ty_GTask, Shape, ShapeF] at h
  obtain ⟨xs0, ys0, rfl, s0, xs1, ys1, rfl, s1, xs2, ys2, rfl, s2, xs3, ys3, rfl, s3, xs4, ys4, rfl, s4, rfl⟩ := h
  obtain ⟨v0, rfl, k0⟩ := s0
  obtain ⟨v1, rfl, k1⟩ := s1
  obtain ⟨v2, rfl, k2⟩ := s2
  obtain ⟨v3, rfl⟩ := s3
  obtain ⟨d4, r4, rfl, k4, a4⟩ := s4
  obtain ⟨v4, e4, b4, c4⟩ := rowsOpen (enc := etS) (B := Wf.wf) r4 (fun r hr => (by obtain ⟨s, rfl, hs⟩ := a4 r hr; exact ⟨s, rfl, hs⟩))
  refine ⟨⟨v0, v1, v2, v3, v4⟩, ?_, ⟨k0, k1, ⟨by rw [b4]; exact k4, c4⟩⟩⟩
  simp only [List.map_append, List.map_cons, List.map_nil, erL, er_s, er_v, e4]
  rfl
def ty_LDag : Ty := (.struct (.cons .str (.cons .str (.cons (.int .i64) (.cons (.int .i64) (.cons .bool (.cons (.slice (.struct (.cons .str (.cons .str (.cons (.int .i64) (.cons .bool (.cons (.slice .str) .nil))))))) .nil)))))))
theorem open_LDag {ts : List DT} (h : Shape ty_LDag ts) : ∃ x : LDag, erL ts = LDag.t .far .far x ∧ Wf.wf x := by
  simp only [ty_LDag, Shape, ShapeF] at h
  obtain ⟨xs0, ys0, rfl, s0, xs1, ys1, rfl, s1, xs2, ys2, rfl, s2, xs3, ys3, rfl, s3, xs4, ys4, rfl, s4, xs5, ys5, rfl, s5, rfl⟩ := h
  obtain ⟨v0, rfl, k0⟩ := s0
  obtain ⟨v1, rfl, k1⟩ := s1
  obtain ⟨v2, rfl, k2⟩ := s2
  obtain ⟨v3, rfl, k3⟩ := s3
  obtain ⟨v4, rfl⟩ := s4
  obtain ⟨d5, r5, rfl, k5, a5⟩ := s5
  obtain ⟨v5, e5, b5, c5⟩ := rowsOpen (enc := (GTask.t .far)) (B := Wf.wf) r5 (fun r hr => open_GTask (by simp only [ty_GTask, Shape, ShapeF]; exact a5 r hr))
  refine ⟨⟨v0, v1, v2, v3, v4, v5⟩, ?_, ⟨k0, k1, ⟨by rw [b5]; exact k5, c5⟩⟩⟩
  simp only [List.map_append, List.map_cons, List.map_nil, erL, er_s, er_v, e5]
  rfl
def ty_LPlan : Ty := (.struct (.cons (.struct (.cons .str (.cons .str (.cons (.int .i64) (.cons (.int .i64) (.cons .bool (.cons (.slice (.struct (.cons .str (.cons .str (.cons (.int .i64) (.cons .bool (.cons (.slice .str) .nil))))))) .nil))))))) (.cons .bool (.cons (.int .i64) (.cons (.int .i64) .nil)))))
theorem open_LPlan {ts : List DT} (h : Shape ty_LPlan ts) : ∃ x : LPlan, erL ts = LPlan.t .far .far x ∧ Wf.wf x := by
  simp only [ty_LPlan, Shape, ShapeF] at h
  obtain ⟨xs0, ys0, rfl, s0, xs1, ys1, rfl, s1, xs2, ys2, rfl, s2, xs3, ys3, rfl, s3, rfl⟩ := h
  obtain ⟨v0, e0, k0⟩ := open_LDag (ts := xs0) (by simp only [ty_LDag, Shape, ShapeF]; exact s0)
  obtain ⟨v1, rfl⟩ := s1
  obtain ⟨v2, rfl, k2⟩ := s2
  obtain ⟨v3, rfl, k3⟩ := s3
  refine ⟨⟨v0, v1, v2, v3⟩, ?_, k0⟩
  simp only [List.map_append, List.map_cons, List.map_nil, erL, er_s, er_v, e0]
  rfl
def ty_GSpan : Ty := (.struct (.cons (.int .i64) (.cons (.int .i64) .nil)))
theorem open_GSpan {ts : List DT} (h : Shape ty_GSpan ts) : ∃ x : GSpan, erL ts = GSpan.t x ∧ Wf.wf x := by
  simp only [ty_GSpan, Shape, ShapeF] at h
  obtain ⟨xs0, ys0, rfl, s0, xs1, ys1, rfl, s1, rfl⟩ := h
  obtain ⟨v0, rfl, k0⟩ := s0
  obtain ⟨v1, rfl, k1⟩ := s1
  refine ⟨⟨v0, v1⟩, ?_, trivial⟩
  simp only [List.map_append, List.map_cons, List.map_nil, erL, er_s, er_v]
  rfl
def ty_GState : Ty := (.struct (.cons (.int .i64) (.cons (.int .i64) (.cons (.int .i64) (.cons (.int .i64) .nil)))))
theorem open_GState {ts : List DT} (h : Shape ty_GState ts) : ∃ x : GState, erL ts = GState.t x ∧ Wf.wf x := by
  simp only [ty_GState, Shape, ShapeF] at h
  obtain ⟨xs0, ys0, rfl, s0, xs1, ys1, rfl, s1, xs2, ys2, rfl, s2, xs3, ys3, rfl, s3, rfl⟩ := h
  obtain ⟨v0, rfl, k0⟩ := s0
  obtain ⟨v1, rfl, k1⟩ := s1
  obtain ⟨v2, rfl, k2⟩ := s2
  obtain ⟨v3, rfl, k3⟩ := s3
  refine ⟨⟨v0, v1, v2, v3⟩, ?_, trivial⟩
  simp only [List.map_append, List.map_cons, List.map_nil, erL, er_s, er_v]
  rfl
def ty_LRun : Ty := (.struct (.cons .str (.cons (.struct (.cons (.int .i64) (.cons (.int .i64) .nil))) (.cons (.int .i64) (.cons (.slice (.struct (.cons (.int .i64) (.cons (.int .i64) (.cons (.int .i64) (.cons (.int .i64) .nil)))))) .nil)))))
theorem open_LRun {ts : List DT} (h : Shape ty_LRun ts) : ∃ x : LRun, erL ts = LRun.t .far x ∧ Wf.wf x := by
  simp only [ty_LRun, Shape, ShapeF] at h
  obtain ⟨xs0, ys0, rfl, s0, xs1, ys1, rfl, s1, xs2, ys2, rfl, s2, xs3, ys3, rfl, s3, rfl⟩ := h
  obtain ⟨v0, rfl, k0⟩ := s0
  obtain ⟨v1, e1, k1⟩ := open_GSpan (ts := xs1) (by simp only [ty_GSpan, Shape, ShapeF]; exact s1)
  obtain ⟨v2, rfl, k2⟩ := s2
  obtain ⟨d3, r3, rfl, k3, a3⟩ := s3
  obtain ⟨v3, e3, b3, c3⟩ := rowsOpen (enc := GState.t) (B := Wf.wf) r3 (fun r hr => open_GState (by simp only [ty_GState, Shape, ShapeF]; exact a3 r hr))
  refine ⟨⟨v0, v1, v2, v3⟩, ?_, ⟨k0, k1, ⟨by rw [b3]; exact k3, c3⟩⟩⟩
  simp only [List.map_append, List.map_cons, List.map_nil, erL, er_s, er_v, e1, e3]
  rfl
def ty_LBoard : Ty := (.struct (.cons (.slice (.struct (.cons (.int .i64) (.cons (.int .i64) (.cons .str .nil))))) (.cons (.slice (.struct (.cons (.struct (.cons .str (.cons .str (.cons (.int .i64) (.cons (.int .i64) (.cons .bool (.cons (.slice (.struct (.cons .str (.cons .str (.cons (.int .i64) (.cons .bool (.cons (.slice .str) .nil))))))) .nil))))))) (.cons .bool (.cons (.int .i64) (.cons (.int .i64) .nil)))))) (.cons (.slice (.struct (.cons .str (.cons (.struct (.cons (.int .i64) (.cons (.int .i64) .nil))) (.cons (.int .i64) (.cons (.slice (.struct (.cons (.int .i64) (.cons (.int .i64) (.cons (.int .i64) (.cons (.int .i64) .nil)))))) .nil)))))) (.cons (.int .i64) (.cons (.int .i64) .nil))))))
theorem open_LBoard {ts : List DT} (h : Shape ty_LBoard ts) : ∃ x : LBoard, erL ts = LBoard.t .far .far x ∧ Wf.wf x := by
  simp only [ty_LBoard, Shape, ShapeF] at h
  obtain ⟨xs0, ys0, rfl, s0, xs1, ys1, rfl, s1, xs2, ys2, rfl, s2, xs3, ys3, rfl, s3, xs4, ys4, rfl, s4, rfl⟩ := h
  obtain ⟨d0, r0, rfl, k0, a0⟩ := s0
  obtain ⟨v0, e0, b0, c0⟩ := rowsOpen (enc := GSession.t) (B := Wf.wf) r0 (fun r hr => open_GSession (by simp only [ty_GSession, Shape, ShapeF]; exact a0 r hr))
  obtain ⟨d1, r1, rfl, k1, a1⟩ := s1
  obtain ⟨v1, e1, b1, c1⟩ := rowsOpen (enc := (LPlan.t .far .far)) (B := Wf.wf) r1 (fun r hr => open_LPlan (by simp only [ty_LPlan, Shape, ShapeF]; exact a1 r hr))
  obtain ⟨d2, r2, rfl, k2, a2⟩ := s2
  obtain ⟨v2, e2, b2, c2⟩ := rowsOpen (enc := (LRun.t .far)) (B := Wf.wf) r2 (fun r hr => open_LRun (by simp only [ty_LRun, Shape, ShapeF]; exact a2 r hr))
  obtain ⟨v3, rfl, k3⟩ := s3
  obtain ⟨v4, rfl, k4⟩ := s4
  refine ⟨⟨v0, v1, v2, v3, v4⟩, ?_, ⟨⟨by rw [b0]; exact k0, c0⟩, ⟨by rw [b1]; exact k1, c1⟩, ⟨by rw [b2]; exact k2, c2⟩⟩⟩
  simp only [List.map_append, List.map_cons, List.map_nil, erL, er_s, er_v, e0, e1, e2]
  rfl
set_option maxRecDepth 100000 in
theorem lifted (os : Os) (started : os.Started) (H : Type) (enc : TypeId × Value → H) :
    ReturnsInHanded {} Try.checked os 10 .any (Rows.fnExactBeatSpec.pre6 enc Try.prog Try.f10 Rows.fnExactBeatRow.domain false) (Rows.fnExactBeatSpec.post enc Try.prog Try.f10 false true false false) := by
  refine returnsInHanded_of_change_sized (C := Try.checked) own started (by kernel_rfl) Try.func10
    (ChangeSpec.witness6 (enc := enc) (C := Try.checked) false ⟨#[], #[.agg #[.slice none 0 0, .slice none 0 0, .slice none 0 0, .int .i64 0, .int .i64 0], .int .i64 0], []⟩ 8 (by kernel_rfl) (by kernel_rfl) (by kernel_rfl) (by kernel_rfl)) ?_
  intro W base args ds gs before hval0 hW hcnd hsz0 _
  have hval : ∀ (j : Nat) t v, Try.f10.params[j]? = some t → args[j]? = some v → Value.okWide Try.prog W .any base t v := hval0
  have hW' := hW
  obtain ⟨p, q, hA0, hV, rfl, hfz, hnd⟩ := hW
  have hA : DataW.TrodAll enc Try.prog W 0 (fun _ => true) true Try.f10.params.toList args.toList ds p := hA0
  rw [Try.params10] at hA hval
  have hlt := hA.lt
  obtain ⟨v0, vs0, d0, ds0, p0, q0, hargs, rfl, rfl, h0, r0⟩ := trodAll_cons hA
  obtain ⟨v1, vs1, d1, ds1, p1, q1, hargs1, rfl, rfl, h1, r1⟩ := trodAll_cons r0
  obtain ⟨rfl, rfl, rfl⟩ := trodAll_nil r1
  obtain rfl : args = #[v0, v1] := by cases args; simp_all
  obtain ⟨rfl, rfl⟩ := trodVars_none hV
  have hok0 := hval 0 26 v0 rfl rfl
  unfold Value.okWide at hok0
  rw [Try.underlying26] at hok0
  obtain ⟨cs0, rfl, _, _⟩ := hok0
  have h0k := h0
  obtain ⟨n0, h0⟩ := h0
  obtain ⟨ts0, R0, S0, L0⟩ := Ty.open ty_LBoard n0 26 _ _ (by kernel_rfl) h0
  obtain ⟨x0, e0, k0⟩ := open_LBoard S0
  obtain ⟨x1, rfl, rfl, rfl, k1⟩ := open_int Try.underlying3 (hval 1 3 v1 rfl rfl) h1
  clear hA0 hval0 hsz0
  refine (runs (T_law_Beat x0 x1 k0) (ad := [.agg ts0, .one (.v (.int .i64 x1))]) (by simp only [List.map_cons, List.map_nil, Sl.er, er_v]; rw [e0]) (ArgsIn.cons (AOk.agg R0 (Shape.noLent ty_LBoard _ S0)) (ArgsIn.cons (AOk.one (t := .v (.int .i64 x1)) (Reads.val rfl) rfl) (ArgsIn.nil W)))).mono fun e W' ⟨he, bel⟩ => ?_
  subst he
  exact ⟨_, rfl, _, _, _, [], _, [], hW', trodAll_mk1 (shut_bool Try.underlying4 _), (trodAll_cons_mk (Below.trod laid (by kernel_rfl) (of_decide_eq_true (by kernel_rfl)) h0k bel (fun x hx => hlt x (by simp [hx]))) (trodAll_cons_mk (shut_int Try.underlying3 k1) trodAll_mk0)), rfl, bel.frame _, fun h => by cases h⟩
theorem over : Rows.fnExactBeatRow.holds Try.pinned (OpenSpec.ofChange Rows.fnExactBeatSpec) :=
  OpenClaim.holds_of_wide 10 Try.f10 rfl rfl rfl rfl rfl rfl rfl ⟨rfl, rfl, rfl, rfl, rfl⟩ rfl rfl rfl rfl rfl (by kernel_rfl) Try.func10 (by kernel_rfl)
    (of_decide_eq_true (by kernel_rfl)) (by unfold Func.isWrapper; first | (rw [if_pos (by decide +kernel)]; kernel_rfl) | (rw [if_neg (by decide +kernel)]; exact ⟨rfl, rfl⟩))
    (fun os started H enc _ => lifted os started H enc)
theorem proved : Rows.FnExactBeatSaid := over
end Go.Proofs.Ytohlonlaadmikaa.fnExactBeat
namespace Go.Proofs.Ytohlonlaadmikaa
theorem fnExactBeat_holds : Rows.FnExactBeatSaid := fnExactBeat.proved
end Go.Proofs.Ytohlonlaadmikaa
