/- laws.FnExactTaskAt returns true for every plan and every name, and leaves the plan as it was. Conditions: none. -/
import Derived.Test.YtbphhigmepdohaaRows
import Derived.Test.YtbphhigmepdohaaTaskAta
import Derived.WalkKit
import Derived.ProofKit
import Derived.OpenShut
import Derived.ShutString
import Derived.ChangeOld
import Derived.Below
import Derived.SizedLaws
namespace Go.Proofs.Ytbphhigmepdohaa.fnExactTaskAt
open Go.ChangeShapes Go.WideShapes Go.ChangeAt Go.RowKit Go.Proofs.Ytbphhigmepdohaa.Am
open Go.ChangeMaps (open_string shut_string)
set_option linter.unusedVariables false
set_option linter.unusedSimpArgs false
theorem own : ownKnob Try.prog.godebug = none := by kernel_rfl
theorem laid : laidOutB Try.prog = true := by kernel_rfl
theorem rowsOpen {α : Type} {enc : α → List (T Unit)} {B : α → Prop} : ∀ (rows : List (List DT)), (∀ r ∈ rows, ∃ x, erL r = enc x ∧ B x) → ∃ l : List α, rows.map erL = l.map enc ∧ l.length = rows.length ∧ ∀ y ∈ l, B y
  | [], _ => ⟨[], rfl, rfl, fun y h => by cases h⟩
  | r :: rs, h => by
    obtain ⟨x, h1, h2⟩ := h r (by simp)
    obtain ⟨l, g1, g2, g3⟩ := rowsOpen rs fun q hq => h q (by simp [hq])
    refine ⟨x :: l, by simp only [List.map_cons, h1, g1], by simp [g2], fun y hy => ?_⟩
    rcases List.mem_cons.1 hy with rfl | hy
    · exact h2
    · exact g3 y hy
def ty132 : Ty := (.struct (.cons .str (.cons .str (.cons (.int .i64) (.cons .bool (.cons (.slice .str) .nil))))))
def In132 (x : S132) : Prop := x.f0.size ≤ maxLen ∧ x.f1.size ≤ maxLen ∧ (Lit.int .i64 x.f2).wf = true ∧ x.f4.length ≤ maxLen ∧ (∀ y ∈ x.f4, y.size ≤ maxLen)
theorem open132 {ts : List DT} (h : Shape ty132 ts) : ∃ x : S132, erL ts = S132.t .far x ∧ In132 x := by
  simp only [ty132, Shape, ShapeF] at h
  obtain ⟨xs0, ys0, rfl, s0, xs1, ys1, rfl, s1, xs2, ys2, rfl, s2, xs3, ys3, rfl, s3, xs4, ys4, rfl, s4, rfl⟩ := h
  obtain ⟨v0, rfl, k0⟩ := s0
  obtain ⟨v1, rfl, k1⟩ := s1
  obtain ⟨v2, rfl, k2⟩ := s2
  obtain ⟨v3, rfl⟩ := s3
  obtain ⟨d4, r4, rfl, k4, a4⟩ := s4
  obtain ⟨v4, e4, b4, c4⟩ := rowsOpen (enc := etS) (B := fun s => s.size ≤ maxLen) r4 (fun r hr => (by obtain ⟨s, rfl, hs⟩ := a4 r hr; exact ⟨s, rfl, hs⟩))
  refine ⟨⟨v0, v1, v2, v3, v4⟩, ?_, ⟨k0, k1, k2, (by rw [b4]; exact k4), c4⟩⟩
  simp only [List.map_append, List.map_cons, List.map_nil, erL, er_s, er_v, e4]
  rfl
def ty48 : Ty := (.struct (.cons .str (.cons .str (.cons (.int .i64) (.cons (.int .i64) (.cons .bool (.cons (.slice (.struct (.cons .str (.cons .str (.cons (.int .i64) (.cons .bool (.cons (.slice .str) .nil))))))) .nil)))))))
def In48 (x : S48) : Prop := x.f0.size ≤ maxLen ∧ x.f1.size ≤ maxLen ∧ (Lit.int .i64 x.f2).wf = true ∧ (Lit.int .i64 x.f3).wf = true ∧ x.f5.length ≤ maxLen ∧ (∀ y ∈ x.f5, In132 y)
theorem open48 {ts : List DT} (h : Shape ty48 ts) : ∃ x : S48, erL ts = S48.t .far .far x ∧ In48 x := by
  simp only [ty48, Shape, ShapeF] at h
  obtain ⟨xs0, ys0, rfl, s0, xs1, ys1, rfl, s1, xs2, ys2, rfl, s2, xs3, ys3, rfl, s3, xs4, ys4, rfl, s4, xs5, ys5, rfl, s5, rfl⟩ := h
  obtain ⟨v0, rfl, k0⟩ := s0
  obtain ⟨v1, rfl, k1⟩ := s1
  obtain ⟨v2, rfl, k2⟩ := s2
  obtain ⟨v3, rfl, k3⟩ := s3
  obtain ⟨v4, rfl⟩ := s4
  obtain ⟨d5, r5, rfl, k5, a5⟩ := s5
  obtain ⟨v5, e5, b5, c5⟩ := rowsOpen (enc := (S132.t .far)) (B := In132) r5 (fun r hr => open132 (by simp only [ty132, Shape, ShapeF]; exact a5 r hr))
  refine ⟨⟨v0, v1, v2, v3, v4, v5⟩, ?_, ⟨k0, k1, k2, k3, (by rw [b5]; exact k5), c5⟩⟩
  simp only [List.map_append, List.map_cons, List.map_nil, erL, er_s, er_v, e5]
  rfl
set_option maxRecDepth 100000 in
theorem lifted (os : Os) (started : os.Started) (H : Type) (enc : TypeId × Value → H) :
    ReturnsInHanded {} Try.checked os 8 .any (Rows.fnExactTaskAtSpec.pre6 enc Try.prog Try.f8 Rows.fnExactTaskAtRow.domain false) (Rows.fnExactTaskAtSpec.post enc Try.prog Try.f8 false true false false) := by
  refine returnsInHanded_of_change_sized (C := Try.checked) own started (by kernel_rfl) Try.func8
    (ChangeSpec.witness6 (enc := enc) (C := Try.checked) false ⟨#[], #[.agg #[.string ByteArray.empty, .string ByteArray.empty, .int .i64 0, .int .i64 0, .bool false, .slice none 0 0], .string ByteArray.empty], []⟩ 8 (by kernel_rfl) (by kernel_rfl) (by kernel_rfl) (by kernel_rfl)) ?_
  intro W base args ds gs before hval0 hW hcnd hsz0 _
  have hval : ∀ (j : Nat) t v, Try.f8.params[j]? = some t → args[j]? = some v → Value.okWide Try.prog W .any base t v := hval0
  have hW' := hW
  obtain ⟨p, q, hA0, hV, rfl, hfz, hnd⟩ := hW
  have hA : DataW.TrodAll enc Try.prog W 0 (fun _ => true) true Try.f8.params.toList args.toList ds p := hA0
  rw [Try.params8] at hA hval
  have hlt := hA.lt
  obtain ⟨v0, vs0, d0, ds0, p0, q0, hargs, rfl, rfl, h0, r0⟩ := trodAll_cons hA
  obtain ⟨v1, vs1, d1, ds1, p1, q1, hargs1, rfl, rfl, h1, r1⟩ := trodAll_cons r0
  obtain ⟨rfl, rfl, rfl⟩ := trodAll_nil r1
  obtain rfl : args = #[v0, v1] := by cases args; simp_all
  obtain ⟨rfl, rfl⟩ := trodVars_none hV
  have hok0 := hval 0 49 v0 rfl rfl
  unfold Value.okWide at hok0
  rw [Try.underlying49] at hok0
  obtain ⟨cs0, rfl, _, _⟩ := hok0
  have h0k := h0
  obtain ⟨n0, h0⟩ := h0
  obtain ⟨ts0, R0, S0, L0⟩ := Ty.open ty48 n0 49 _ _ (by kernel_rfl) h0
  obtain ⟨x0, e0, k0⟩ := open48 S0
  obtain ⟨x1, rfl, rfl, rfl, k1⟩ := open_string Try.underlying9 (hval 1 9 v1 rfl rfl) h1
  clear hA0 hval0 hsz0
  refine (runs (law8 x0 x1 k0.1 k0.2.1 k0.2.2.2.2.1 (fun y hy => ⟨(k0.2.2.2.2.2 y hy).1, (k0.2.2.2.2.2 y hy).2.1, (k0.2.2.2.2.2 y hy).2.2.2.1, (k0.2.2.2.2.2 y hy).2.2.2.2⟩)) (ad := [.agg ts0, .one (.v (.string x1))]) (by simp only [List.map_cons, List.map_nil, Sl.er, er_v]; rw [e0]) (ArgsOk.cons (AOk.agg R0 (Shape.noLent ty48 _ S0)) (ArgsOk.cons (AOk.one (t := .v (.string x1)) (Reads.val rfl) rfl) (ArgsOk.nil W)))).mono fun e W' ⟨he, bel⟩ => ?_
  subst he
  exact ⟨_, rfl, _, _, _, [], _, [], hW', trodAll_mk1 (shut_bool Try.underlying4 _), (trodAll_cons_mk (Below.trod laid (by kernel_rfl) (of_decide_eq_true (by kernel_rfl)) h0k bel (fun x hx => hlt x (by simp [hx]))) (trodAll_cons_mk (shut_string Try.underlying9 k1) trodAll_mk0)), rfl, bel.frame _, fun h => by cases h⟩
theorem over : Rows.fnExactTaskAtRow.holds Try.pinned (OpenSpec.ofChange Rows.fnExactTaskAtSpec) :=
  OpenClaim.holds_of_wide 8 Try.f8 rfl rfl rfl rfl rfl rfl rfl ⟨rfl, rfl, rfl, rfl, rfl⟩ rfl rfl rfl rfl rfl (by kernel_rfl) Try.func8 (by kernel_rfl)
    (of_decide_eq_true (by kernel_rfl)) (by unfold Func.isWrapper; first | (rw [if_pos (by decide +kernel)]; kernel_rfl) | (rw [if_neg (by decide +kernel)]; exact ⟨rfl, rfl⟩))
    (fun os started H enc _ => lifted os started H enc)
theorem proved : Rows.FnExactTaskAtSaid := over
end Go.Proofs.Ytbphhigmepdohaa.fnExactTaskAt
namespace Go.Proofs.Ytbphhigmepdohaa
/-- The row, under a short name, for the claim. -/
theorem fnExactTaskAt_holds : Rows.FnExactTaskAtSaid := fnExactTaskAt.proved
end Go.Proofs.Ytbphhigmepdohaa
