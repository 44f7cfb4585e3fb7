/- The row of FnExactSpans. Conditions: none. -/
import Derived.Test.YtgpllfmogdpapaaRows
import Derived.Test.YtgpllfmogdpapaaActb
import Derived.WalkKit
import Derived.ProofKit
import Derived.OpenShut
import Derived.ShutString
import Derived.ChangeOld
import Derived.Below
import Derived.SizedLaws
namespace Go.Proofs.Ytgpllfmogdpapaa.fnExactSpans
open Go.ChangeShapes Go.WideShapes Go.ChangeAt Go.RowKit Go.Proofs.Ytgpllfmogdpapaa.Am
open Go.ChangeMaps (open_string shut_string)
set_option linter.unusedVariables false
set_option linter.unusedSimpArgs false
theorem own : ownKnob Try.prog.godebug = none := by kernel_rfl
theorem laid : laidOutB Try.prog = true := by kernel_rfl
theorem rowsOpen {α : Type} {enc : α → List (T Unit)} {B : α → Prop} : ∀ (rows : List (List DT)), (∀ r ∈ rows, ∃ x, erL r = enc x ∧ B x) → ∃ l : List α, rows.map erL = l.map enc ∧ l.length = rows.length ∧ ∀ y ∈ l, B y
  | [], _ => ⟨[], rfl, rfl, fun y h => by cases h⟩
  | r :: rs, h => by
    obtain ⟨x, h1, h2⟩ := h r (by simp)
    obtain ⟨l, g1, g2, g3⟩ := rowsOpen rs fun q hq => h q (by simp [hq])
    refine ⟨x :: l, by simp only [List.map_cons, h1, g1], by simp [g2], fun y hy => ?_⟩
    rcases List.mem_cons.1 hy with rfl | hy
    · exact h2
    · exact g3 y hy
def ty_GCron : Ty := (.struct (.cons (.slice (.int .i64)) (.cons (.slice (.int .i64)) (.cons (.slice (.int .i64)) (.cons (.slice (.int .i64)) (.cons (.slice (.int .i64)) .nil))))))
theorem open_GCron {ts : List DT} (h : Shape ty_GCron ts) : ∃ x : GCron, erL ts = GCron.t .far x ∧ Wf.wf x := by
  simp only [ty_GCron, Shape, ShapeF] at h
  obtain ⟨xs0, ys0, rfl, s0, xs1, ys1, rfl, s1, xs2, ys2, rfl, s2, xs3, ys3, rfl, s3, xs4, ys4, rfl, s4, rfl⟩ := h
  obtain ⟨d0, r0, rfl, k0, a0⟩ := s0
  obtain ⟨v0, e0, b0, c0⟩ := rowsOpen (enc := etI) (B := Wf.wf) r0 (fun r hr => (by obtain ⟨n, rfl, hn⟩ := a0 r hr; exact ⟨n, rfl, trivial⟩))
  obtain ⟨d1, r1, rfl, k1, a1⟩ := s1
  obtain ⟨v1, e1, b1, c1⟩ := rowsOpen (enc := etI) (B := Wf.wf) r1 (fun r hr => (by obtain ⟨n, rfl, hn⟩ := a1 r hr; exact ⟨n, rfl, trivial⟩))
  obtain ⟨d2, r2, rfl, k2, a2⟩ := s2
  obtain ⟨v2, e2, b2, c2⟩ := rowsOpen (enc := etI) (B := Wf.wf) r2 (fun r hr => (by obtain ⟨n, rfl, hn⟩ := a2 r hr; exact ⟨n, rfl, trivial⟩))
  obtain ⟨d3, r3, rfl, k3, a3⟩ := s3
  obtain ⟨v3, e3, b3, c3⟩ := rowsOpen (enc := etI) (B := Wf.wf) r3 (fun r hr => (by obtain ⟨n, rfl, hn⟩ := a3 r hr; exact ⟨n, rfl, trivial⟩))
  obtain ⟨d4, r4, rfl, k4, a4⟩ := s4
  obtain ⟨v4, e4, b4, c4⟩ := rowsOpen (enc := etI) (B := Wf.wf) r4 (fun r hr => (by obtain ⟨n, rfl, hn⟩ := a4 r hr; exact ⟨n, rfl, trivial⟩))
  refine ⟨⟨v0, v1, v2, v3, v4⟩, ?_, ⟨⟨by rw [b0]; exact k0, c0⟩, ⟨by rw [b1]; exact k1, c1⟩, ⟨by rw [b2]; exact k2, c2⟩, ⟨by rw [b3]; exact k3, c3⟩, ⟨by rw [b4]; exact k4, c4⟩⟩⟩
  simp only [List.map_append, List.map_cons, List.map_nil, erL, er_s, er_v, e0, e1, e2, e3, e4]
  rfl
set_option maxRecDepth 100000 in
theorem lifted (os : Os) (started : os.Started) (H : Type) (enc : TypeId × Value → H) :
    ReturnsInHanded {} Try.checked os 7 .any (Rows.fnExactSpansSpec.pre6 enc Try.prog Try.f7 Rows.fnExactSpansRow.domain false) (Rows.fnExactSpansSpec.post enc Try.prog Try.f7 false true false false) := by
  refine returnsInHanded_of_change_sized (C := Try.checked) own started (by kernel_rfl) Try.func7
    (ChangeSpec.witness6 (enc := enc) (C := Try.checked) false ⟨#[], #[.agg #[.slice none 0 0, .slice none 0 0, .slice none 0 0, .slice none 0 0, .slice none 0 0], .int .i64 0, .int .i64 0, .int .i64 0], []⟩ 8 (by kernel_rfl) (by kernel_rfl) (by kernel_rfl) (by kernel_rfl)) ?_
  intro W base args ds gs before hval0 hW hcnd hsz0 _
  have hval : ∀ (j : Nat) t v, Try.f7.params[j]? = some t → args[j]? = some v → Value.okWide Try.prog W .any base t v := hval0
  have hW' := hW
  obtain ⟨p, q, hA0, hV, rfl, hfz, hnd⟩ := hW
  have hA : DataW.TrodAll enc Try.prog W 0 (fun _ => true) true Try.f7.params.toList args.toList ds p := hA0
  rw [Try.params7] at hA hval
  have hlt := hA.lt
  obtain ⟨v0, vs0, d0, ds0, p0, q0, hargs, rfl, rfl, h0, r0⟩ := trodAll_cons hA
  obtain ⟨v1, vs1, d1, ds1, p1, q1, hargs1, rfl, rfl, h1, r1⟩ := trodAll_cons r0
  obtain ⟨v2, vs2, d2, ds2, p2, q2, hargs2, rfl, rfl, h2, r2⟩ := trodAll_cons r1
  obtain ⟨v3, vs3, d3, ds3, p3, q3, hargs3, rfl, rfl, h3, r3⟩ := trodAll_cons r2
  obtain ⟨rfl, rfl, rfl⟩ := trodAll_nil r3
  obtain rfl : args = #[v0, v1, v2, v3] := by cases args; simp_all
  obtain ⟨rfl, rfl⟩ := trodVars_none hV
  have hok0 := hval 0 51 v0 rfl rfl
  unfold Value.okWide at hok0
  rw [Try.underlying51] at hok0
  obtain ⟨cs0, rfl, _, _⟩ := hok0
  have h0k := h0
  obtain ⟨n0, h0⟩ := h0
  obtain ⟨ts0, R0, S0, L0⟩ := Ty.open ty_GCron n0 51 _ _ (by kernel_rfl) h0
  obtain ⟨x0, e0, k0⟩ := open_GCron S0
  obtain ⟨x1, rfl, rfl, rfl, k1⟩ := open_int Try.underlying3 (hval 1 3 v1 rfl rfl) h1
  obtain ⟨x2, rfl, rfl, rfl, k2⟩ := open_int Try.underlying3 (hval 2 3 v2 rfl rfl) h2
  obtain ⟨x3, rfl, rfl, rfl, k3⟩ := open_int Try.underlying3 (hval 3 3 v3 rfl rfl) h3
  clear hA0 hval0 hsz0
  refine (runs (T_law_Spans x0 x1 x2 x3 k0) (ad := [.agg ts0, .one (.v (.int .i64 x1)), .one (.v (.int .i64 x2)), .one (.v (.int .i64 x3))]) (by simp only [List.map_cons, List.map_nil, Sl.er, er_v]; rw [e0]) (ArgsIn.cons (AOk.agg R0 (Shape.noLent ty_GCron _ S0)) (ArgsIn.cons (AOk.one (t := .v (.int .i64 x1)) (Reads.val rfl) rfl) (ArgsIn.cons (AOk.one (t := .v (.int .i64 x2)) (Reads.val rfl) rfl) (ArgsIn.cons (AOk.one (t := .v (.int .i64 x3)) (Reads.val rfl) rfl) (ArgsIn.nil W)))))).mono fun e W' ⟨he, bel⟩ => ?_
  subst he
  exact ⟨_, rfl, _, _, _, [], _, [], hW', trodAll_mk1 (shut_bool Try.underlying4 _), (trodAll_cons_mk (Below.trod laid (by kernel_rfl) (of_decide_eq_true (by kernel_rfl)) h0k bel (fun x hx => hlt x (by simp [hx]))) (trodAll_cons_mk (shut_int Try.underlying3 k1) (trodAll_cons_mk (shut_int Try.underlying3 k2) (trodAll_cons_mk (shut_int Try.underlying3 k3) trodAll_mk0)))), rfl, bel.frame _, fun h => by cases h⟩
theorem over : Rows.fnExactSpansRow.holds Try.pinned (OpenSpec.ofChange Rows.fnExactSpansSpec) :=
  OpenClaim.holds_of_wide 7 Try.f7 rfl rfl rfl rfl rfl rfl rfl ⟨rfl, rfl, rfl, rfl, rfl⟩ rfl rfl rfl rfl rfl (by kernel_rfl) Try.func7 (by kernel_rfl)
    (of_decide_eq_true (by kernel_rfl)) (by unfold Func.isWrapper; first | (rw [if_pos (by decide +kernel)]; kernel_rfl) | (rw [if_neg (by decide +kernel)]; exact ⟨rfl, rfl⟩))
    (fun os started H enc _ => lifted os started H enc)
theorem proved : Rows.FnExactSpansSaid := over
end Go.Proofs.Ytgpllfmogdpapaa.fnExactSpans
namespace Go.Proofs.Ytgpllfmogdpapaa
theorem fnExactSpans_holds : Rows.FnExactSpansSaid := fnExactSpans.proved
end Go.Proofs.Ytgpllfmogdpapaa
