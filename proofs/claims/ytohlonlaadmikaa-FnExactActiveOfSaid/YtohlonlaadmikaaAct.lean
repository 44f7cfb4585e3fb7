/- What the functions of ActiveOf do. Conditions: none. -/
import Derived.Test.YtohlonlaadmikaaBoards
namespace Go.Proofs.Ytohlonlaadmikaa.Am
set_option linter.unusedVariables false
set_option linter.unusedSimpArgs false
open Go Go.Proofs Classical
set_option maxRecDepth 100000
set_option linter.unusedVariables false
set_option linter.unusedSimpArgs false
-- loop.example/g00188/spec.ActiveOf
inductive s_ActiveOf_X1 where
  | x2 (v5 : Int)
def s_ActiveOf_Q1 {q0 : Kd} (v1 : ByteArray) (v2_0 : List GSession) (v2_1 : List GPlan) (v2_2 : List GRun) (v2_3 : Int) (v2_4 : Int) (v5 : Int) (v6 : Int) (v7 : Int) : s_ActiveOf_X1 → Prop
  | .x2 zv5 => Loops E 19 (lpAt Try.f19 1) (stL 50 [(1, .one (tS v1)), (2, .box () [.s .far () 3 (v2_0.map GSession.t), .s .far () 9 (v2_1.map (GPlan.t q0 q0)), .s .far () 5 (v2_2.map (GRun.t q0)), tI v2_3, tI v2_4]), (5, .one (tI v5)), (6, .one (tI v6)), (7, .one (tI v7))]) (.exit 2) (stL 50 [(1, .one (tS v1)), (2, .box () [.s .far () 3 (v2_0.map GSession.t), .s .far () 9 (v2_1.map (GPlan.t q0 q0)), .s .far () 5 (v2_2.map (GRun.t q0)), tI v2_3, tI v2_4]), (5, .one (tI zv5)), (6, .one (tI v6))])
theorem s_ActiveOf_R1_0 {q0 : Kd} (v1 : ByteArray) (v2_0 : List GSession) (v2_1 : List GPlan) (v2_2 : List GRun) (v2_3 : Int) (v2_4 : Int) (v5 : Int) (v6 : Int) (v7 : Int) (g0 : GRun) (g1 : GState) (h0 : getI v2_2 v6 = some g0) (h1 : (decide (v7 < (g0.f3.length : Int))) = true) (h2 : (g0.f0.toList == v1.toList) = true) (h3 : getI g0.f3 v7 = some g1) (h4 : (g1.f0 == (1 : Int)) = true) : Round E 19 (lpAt Try.f19 1) (stL 50 [(1, .one (tS v1)), (2, .box () [.s .far () 3 (v2_0.map GSession.t), .s .far () 9 (v2_1.map (GPlan.t q0 q0)), .s .far () 5 (v2_2.map (GRun.t q0)), tI v2_3, tI v2_4]), (5, .one (tI v5)), (6, .one (tI v6)), (7, .one (tI v7))]) .normal (stL 50 [(1, .one (tS v1)), (2, .box () [.s .far () 3 (v2_0.map GSession.t), .s .far () 9 (v2_1.map (GPlan.t q0 q0)), .s .far () 5 (v2_2.map (GRun.t q0)), tI v2_3, tI v2_4]), (5, .one (tI (IntKind.wrap .i64 (v5 + (1 : Int))))), (6, .one (tI v6)), (7, .one (tI (IntKind.wrap .i64 (v7 + (1 : Int)))))]) :=
  Round.path [.row ((GRun.t q0) g0), .val (.int .i64 (g0.f3.length : Int)), .b true, .row ((GRun.t q0) g0), .b true, .row ((GRun.t q0) g0), .row (GState.t g1), .b true] [fun _ => 0 ≤ v6 ∧ (v2_2.map (GRun.t q0))[v6.toNat]? = some ((GRun.t q0) g0), fun _ => ((g0.f3.map GState.t).length : Int) = (g0.f3.length : Int), fun _ => (decide (v7 < (g0.f3.length : Int))) = true, fun _ => 0 ≤ v6 ∧ (v2_2.map (GRun.t q0))[v6.toNat]? = some ((GRun.t q0) g0), fun _ => (g0.f0.toList == v1.toList) = true, fun _ => 0 ≤ v6 ∧ (v2_2.map (GRun.t q0))[v6.toNat]? = some ((GRun.t q0) g0), fun _ => 0 ≤ v7 ∧ (g0.f3.map GState.t)[v7.toNat]? = some (GState.t g1), fun _ => (g1.f0 == (1 : Int)) = true] (fun k => by kernel_rfl) ⟨Ev.c (getRow h0), Ev.c lenMap, Ev.c h1, Ev.c (getRow h0), Ev.c h2, Ev.c (getRow h0), Ev.c (getRow h3), Ev.c h4, trivial⟩
theorem s_ActiveOf_R1_1 {q0 : Kd} (v1 : ByteArray) (v2_0 : List GSession) (v2_1 : List GPlan) (v2_2 : List GRun) (v2_3 : Int) (v2_4 : Int) (v5 : Int) (v6 : Int) (v7 : Int) (g0 : GRun) (g1 : GState) (h0 : getI v2_2 v6 = some g0) (h1 : (decide (v7 < (g0.f3.length : Int))) = true) (h2 : (g0.f0.toList == v1.toList) = true) (h3 : getI g0.f3 v7 = some g1) (h4 : (g1.f0 == (1 : Int)) = false) : Round E 19 (lpAt Try.f19 1) (stL 50 [(1, .one (tS v1)), (2, .box () [.s .far () 3 (v2_0.map GSession.t), .s .far () 9 (v2_1.map (GPlan.t q0 q0)), .s .far () 5 (v2_2.map (GRun.t q0)), tI v2_3, tI v2_4]), (5, .one (tI v5)), (6, .one (tI v6)), (7, .one (tI v7))]) .normal (stL 50 [(1, .one (tS v1)), (2, .box () [.s .far () 3 (v2_0.map GSession.t), .s .far () 9 (v2_1.map (GPlan.t q0 q0)), .s .far () 5 (v2_2.map (GRun.t q0)), tI v2_3, tI v2_4]), (5, .one (tI v5)), (6, .one (tI v6)), (7, .one (tI (IntKind.wrap .i64 (v7 + (1 : Int)))))]) :=
  Round.path [.row ((GRun.t q0) g0), .val (.int .i64 (g0.f3.length : Int)), .b true, .row ((GRun.t q0) g0), .b true, .row ((GRun.t q0) g0), .row (GState.t g1), .b false] [fun _ => 0 ≤ v6 ∧ (v2_2.map (GRun.t q0))[v6.toNat]? = some ((GRun.t q0) g0), fun _ => ((g0.f3.map GState.t).length : Int) = (g0.f3.length : Int), fun _ => (decide (v7 < (g0.f3.length : Int))) = true, fun _ => 0 ≤ v6 ∧ (v2_2.map (GRun.t q0))[v6.toNat]? = some ((GRun.t q0) g0), fun _ => (g0.f0.toList == v1.toList) = true, fun _ => 0 ≤ v6 ∧ (v2_2.map (GRun.t q0))[v6.toNat]? = some ((GRun.t q0) g0), fun _ => 0 ≤ v7 ∧ (g0.f3.map GState.t)[v7.toNat]? = some (GState.t g1), fun _ => (g1.f0 == (1 : Int)) = false] (fun k => by kernel_rfl) ⟨Ev.c (getRow h0), Ev.c lenMap, Ev.c h1, Ev.c (getRow h0), Ev.c h2, Ev.c (getRow h0), Ev.c (getRow h3), Ev.c h4, trivial⟩
theorem s_ActiveOf_R1_2 {q0 : Kd} (v1 : ByteArray) (v2_0 : List GSession) (v2_1 : List GPlan) (v2_2 : List GRun) (v2_3 : Int) (v2_4 : Int) (v5 : Int) (v6 : Int) (v7 : Int) (g0 : GRun) (h0 : getI v2_2 v6 = some g0) (h1 : (decide (v7 < (g0.f3.length : Int))) = true) (h2 : (g0.f0.toList == v1.toList) = false) : Round E 19 (lpAt Try.f19 1) (stL 50 [(1, .one (tS v1)), (2, .box () [.s .far () 3 (v2_0.map GSession.t), .s .far () 9 (v2_1.map (GPlan.t q0 q0)), .s .far () 5 (v2_2.map (GRun.t q0)), tI v2_3, tI v2_4]), (5, .one (tI v5)), (6, .one (tI v6)), (7, .one (tI v7))]) .normal (stL 50 [(1, .one (tS v1)), (2, .box () [.s .far () 3 (v2_0.map GSession.t), .s .far () 9 (v2_1.map (GPlan.t q0 q0)), .s .far () 5 (v2_2.map (GRun.t q0)), tI v2_3, tI v2_4]), (5, .one (tI v5)), (6, .one (tI v6)), (7, .one (tI (IntKind.wrap .i64 (v7 + (1 : Int)))))]) :=
  Round.path [.row ((GRun.t q0) g0), .val (.int .i64 (g0.f3.length : Int)), .b true, .row ((GRun.t q0) g0), .b false] [fun _ => 0 ≤ v6 ∧ (v2_2.map (GRun.t q0))[v6.toNat]? = some ((GRun.t q0) g0), fun _ => ((g0.f3.map GState.t).length : Int) = (g0.f3.length : Int), fun _ => (decide (v7 < (g0.f3.length : Int))) = true, fun _ => 0 ≤ v6 ∧ (v2_2.map (GRun.t q0))[v6.toNat]? = some ((GRun.t q0) g0), fun _ => (g0.f0.toList == v1.toList) = false] (fun k => by kernel_rfl) ⟨Ev.c (getRow h0), Ev.c lenMap, Ev.c h1, Ev.c (getRow h0), Ev.c h2, trivial⟩
theorem s_ActiveOf_R1_3 {q0 : Kd} (v1 : ByteArray) (v2_0 : List GSession) (v2_1 : List GPlan) (v2_2 : List GRun) (v2_3 : Int) (v2_4 : Int) (v5 : Int) (v6 : Int) (v7 : Int) (g0 : GRun) (h0 : getI v2_2 v6 = some g0) (h1 : (decide (v7 < (g0.f3.length : Int))) = false) : Round E 19 (lpAt Try.f19 1) (stL 50 [(1, .one (tS v1)), (2, .box () [.s .far () 3 (v2_0.map GSession.t), .s .far () 9 (v2_1.map (GPlan.t q0 q0)), .s .far () 5 (v2_2.map (GRun.t q0)), tI v2_3, tI v2_4]), (5, .one (tI v5)), (6, .one (tI v6)), (7, .one (tI v7))]) (.exit 2) (stL 50 [(1, .one (tS v1)), (2, .box () [.s .far () 3 (v2_0.map GSession.t), .s .far () 9 (v2_1.map (GPlan.t q0 q0)), .s .far () 5 (v2_2.map (GRun.t q0)), tI v2_3, tI v2_4]), (5, .one (tI v5)), (6, .one (tI v6))]) :=
  Round.path [.row ((GRun.t q0) g0), .val (.int .i64 (g0.f3.length : Int)), .b false] [fun _ => 0 ≤ v6 ∧ (v2_2.map (GRun.t q0))[v6.toNat]? = some ((GRun.t q0) g0), fun _ => ((g0.f3.map GState.t).length : Int) = (g0.f3.length : Int), fun _ => (decide (v7 < (g0.f3.length : Int))) = false] (fun k => by kernel_rfl) ⟨Ev.c (getRow h0), Ev.c lenMap, Ev.c h1, trivial⟩
noncomputable def s_ActiveOf_l1 (v1 : ByteArray) (g0 : GRun) : List GState → Nat → Int → Option s_ActiveOf_X1
  | [], i, v5 => some (.x2 v5)
  | hd :: rest, i, v5 => cond (g0.f0.toList == v1.toList)
    (cond (hd.f0 == (1 : Int))
      (s_ActiveOf_l1 v1 g0 rest (i + 1) (IntKind.wrap .i64 (v5 + (1 : Int))))
      (s_ActiveOf_l1 v1 g0 rest (i + 1) v5))
    (s_ActiveOf_l1 v1 g0 rest (i + 1) v5)
theorem s_ActiveOf_L1 {q0 : Kd} (v1 : ByteArray) (v2_0 : List GSession) (v2_1 : List GPlan) (v2_2 : List GRun) (v2_3 : Int) (v2_4 : Int) (v6 : Int) (g0 : GRun) (hq0 : getI v2_2 v6 = some g0) (rest : List GState) : ∀ (i : Nat) (v5 : Int), (g0.f3).drop i = rest → g0.f3.length ≤ 9223372036854775807 → Ans (s_ActiveOf_l1 v1 g0 rest i v5) (s_ActiveOf_Q1 (q0 := q0) v1 v2_0 v2_1 v2_2 v2_3 v2_4 v5 v6 (i : Int)) := by
  induction rest with
  | nil =>
    intro i v5 hE hl
    have hb := foldEnd hE
    unfold s_ActiveOf_l1
    exact Ans.some (Loops.stop (s_ActiveOf_R1_3 (q0 := q0) v1 v2_0 v2_1 v2_2 v2_3 v2_4 v5 v6 (i : Int) g0 hq0 hb) (by intro h; cases h))
  | cons hd rest ih =>
    intro i v5 hE hl
    have hb := foldMore hE
    have hw := foldNext hE hl
    have hE2 := foldRest hE
    have hg := foldGet hE
    unfold s_ActiveOf_l1
    refine Ans.ite (fun h2 => ?_) (fun h2 => ?_)
    · refine Ans.ite (fun h4 => ?_) (fun h4 => ?_)
      · exact (ih (i + 1) (IntKind.wrap .i64 (v5 + (1 : Int))) hE2 hl).mono fun y hy => by
                have r := s_ActiveOf_R1_0 (q0 := q0) v1 v2_0 v2_1 v2_2 v2_3 v2_4 v5 v6 (i : Int) g0 hd hq0 hb h2 hg h4
                rw [hw] at r
                cases y <;> exact Loops.next r hy
      · exact (ih (i + 1) v5 hE2 hl).mono fun y hy => by
                have r := s_ActiveOf_R1_1 (q0 := q0) v1 v2_0 v2_1 v2_2 v2_3 v2_4 v5 v6 (i : Int) g0 hd hq0 hb h2 hg h4
                rw [hw] at r
                cases y <;> exact Loops.next r hy
    · exact (ih (i + 1) v5 hE2 hl).mono fun y hy => by
                have r := s_ActiveOf_R1_2 (q0 := q0) v1 v2_0 v2_1 v2_2 v2_3 v2_4 v5 v6 (i : Int) g0 hq0 hb h2
                rw [hw] at r
                cases y <;> exact Loops.next r hy
inductive s_ActiveOf_X0 where
  | x0 (v5 : Int)
def s_ActiveOf_Q0 {q0 : Kd} (v1 : ByteArray) (v2_0 : List GSession) (v2_1 : List GPlan) (v2_2 : List GRun) (v2_3 : Int) (v2_4 : Int) (v5 : Int) (v6 : Int) : s_ActiveOf_X0 → Prop
  | .x0 zv5 => Loops E 19 (lpAt Try.f19 0) (stL 50 [(1, .one (tS v1)), (2, .box () [.s .far () 3 (v2_0.map GSession.t), .s .far () 9 (v2_1.map (GPlan.t q0 q0)), .s .far () 5 (v2_2.map (GRun.t q0)), tI v2_3, tI v2_4]), (5, .one (tI v5)), (6, .one (tI v6))]) (.exit 0) (stL 50 [(5, .one (tI zv5))])
theorem s_ActiveOf_R0_0 {q0 : Kd} (v1 : ByteArray) (v2_0 : List GSession) (v2_1 : List GPlan) (v2_2 : List GRun) (v2_3 : Int) (v2_4 : Int) (v5 : Int) (v6 : Int) (w0_5 : Int) (h0 : (decide (v6 < (v2_2.length : Int))) = true) (h1 : Loops E 19 (lpAt Try.f19 1) (stL 50 [(1, .one (tS v1)), (2, .box () [.s .far () 3 (v2_0.map GSession.t), .s .far () 9 (v2_1.map (GPlan.t q0 q0)), .s .far () 5 (v2_2.map (GRun.t q0)), tI v2_3, tI v2_4]), (5, .one (tI v5)), (6, .one (tI v6)), (7, .one (tI (0 : Int)))]) (.exit 2) (stL 50 [(1, .one (tS v1)), (2, .box () [.s .far () 3 (v2_0.map GSession.t), .s .far () 9 (v2_1.map (GPlan.t q0 q0)), .s .far () 5 (v2_2.map (GRun.t q0)), tI v2_3, tI v2_4]), (5, .one (tI w0_5)), (6, .one (tI v6))])) : Round E 19 (lpAt Try.f19 0) (stL 50 [(1, .one (tS v1)), (2, .box () [.s .far () 3 (v2_0.map GSession.t), .s .far () 9 (v2_1.map (GPlan.t q0 q0)), .s .far () 5 (v2_2.map (GRun.t q0)), tI v2_3, tI v2_4]), (5, .one (tI v5)), (6, .one (tI v6))]) .normal (stL 50 [(1, .one (tS v1)), (2, .box () [.s .far () 3 (v2_0.map GSession.t), .s .far () 9 (v2_1.map (GPlan.t q0 q0)), .s .far () 5 (v2_2.map (GRun.t q0)), tI v2_3, tI v2_4]), (5, .one (tI w0_5)), (6, .one (tI (IntKind.wrap .i64 (v6 + (1 : Int)))))]) :=
  Round.path [.val (.int .i64 (v2_2.length : Int)), .b true, .lp (.exit 2) (stL 50 [(1, .one (tS v1)), (2, .box () [.s .far () 3 (v2_0.map GSession.t), .s .far () 9 (v2_1.map (GPlan.t q0 q0)), .s .far () 5 (v2_2.map (GRun.t q0)), tI v2_3, tI v2_4]), (5, .one (tI w0_5)), (6, .one (tI v6))])] [fun _ => ((v2_2.map (GRun.t q0)).length : Int) = (v2_2.length : Int), fun _ => (decide (v6 < (v2_2.length : Int))) = true, fun k => LoopK E 19 (lpAt Try.f19 1) (stL 50 [(1, .one (tS v1)), (2, .box () [.s .far () 3 (v2_0.map GSession.t), .s .far () 9 (v2_1.map (GPlan.t q0 q0)), .s .far () 5 (v2_2.map (GRun.t q0)), tI v2_3, tI v2_4]), (5, .one (tI v5)), (6, .one (tI v6)), (7, .one (tI (0 : Int)))]) (.exit 2) (stL 50 [(1, .one (tS v1)), (2, .box () [.s .far () 3 (v2_0.map GSession.t), .s .far () 9 (v2_1.map (GPlan.t q0 q0)), .s .far () 5 (v2_2.map (GRun.t q0)), tI v2_3, tI v2_4]), (5, .one (tI w0_5)), (6, .one (tI v6))]) k k] (fun k => by kernel_rfl) ⟨Ev.c lenMap, Ev.c h0, Loops.ev h1, trivial⟩
theorem s_ActiveOf_R0_1 {q0 : Kd} (v1 : ByteArray) (v2_0 : List GSession) (v2_1 : List GPlan) (v2_2 : List GRun) (v2_3 : Int) (v2_4 : Int) (v5 : Int) (v6 : Int) (h0 : (decide (v6 < (v2_2.length : Int))) = false) : Round E 19 (lpAt Try.f19 0) (stL 50 [(1, .one (tS v1)), (2, .box () [.s .far () 3 (v2_0.map GSession.t), .s .far () 9 (v2_1.map (GPlan.t q0 q0)), .s .far () 5 (v2_2.map (GRun.t q0)), tI v2_3, tI v2_4]), (5, .one (tI v5)), (6, .one (tI v6))]) (.exit 0) (stL 50 [(5, .one (tI v5))]) :=
  Round.path [.val (.int .i64 (v2_2.length : Int)), .b false] [fun _ => ((v2_2.map (GRun.t q0)).length : Int) = (v2_2.length : Int), fun _ => (decide (v6 < (v2_2.length : Int))) = false] (fun k => by kernel_rfl) ⟨Ev.c lenMap, Ev.c h0, trivial⟩
noncomputable def s_ActiveOf_l0 (v1 : ByteArray) : List GRun → Nat → Int → Option s_ActiveOf_X0
  | [], i, v5 => some (.x0 v5)
  | hd :: rest, i, v5 => if hd.f3.length ≤ 9223372036854775807 then (s_ActiveOf_l1 v1 hd hd.f3 0 v5).bind fun y => match y with
    | .x2 w0_5 => (s_ActiveOf_l0 v1 rest (i + 1) w0_5) else none
theorem s_ActiveOf_L0 {q0 : Kd} (v1 : ByteArray) (v2_0 : List GSession) (v2_1 : List GPlan) (v2_2 : List GRun) (v2_3 : Int) (v2_4 : Int) (rest : List GRun) : ∀ (i : Nat) (v5 : Int), (v2_2).drop i = rest → v2_2.length ≤ 9223372036854775807 → Ans (s_ActiveOf_l0 v1 rest i v5) (s_ActiveOf_Q0 (q0 := q0) v1 v2_0 v2_1 v2_2 v2_3 v2_4 v5 (i : Int)) := by
  induction rest with
  | nil =>
    intro i v5 hE hl
    have hb := foldEnd hE
    unfold s_ActiveOf_l0
    exact Ans.some (Loops.stop (s_ActiveOf_R0_1 (q0 := q0) v1 v2_0 v2_1 v2_2 v2_3 v2_4 v5 (i : Int) hb) (by intro h; cases h))
  | cons hd rest ih =>
    intro i v5 hE hl
    have hb := foldMore hE
    have hw := foldNext hE hl
    have hE2 := foldRest hE
    have hg := foldGet hE
    unfold s_ActiveOf_l0
    refine Ans.pre (fun hl2 => ?_)
    refine Ans.bind (fun y hy => ?_)
    replace hy := s_ActiveOf_L1 (q0 := q0) v1 v2_0 v2_1 v2_2 v2_3 v2_4 (i : Int) hd hg hd.f3 0 v5 rfl hl2 y hy
    cases y with
    | x2 w0_5 =>
      have h1 := hy
      exact (ih (i + 1) w0_5 hE2 hl).mono fun y hy => by
                have r := s_ActiveOf_R0_0 (q0 := q0) v1 v2_0 v2_1 v2_2 v2_3 v2_4 v5 (i : Int) w0_5 hb h1
                rw [hw] at r
                cases y <;> exact Loops.next r hy
theorem s_ActiveOf_P0 {q0 : Kd} (x0 : GBoard) (x1 : ByteArray) (w0_5 : Int) (h0 : Loops E 19 (lpAt Try.f19 0) (stL 50 [(1, .one (tS x1)), (2, .box () [.s .far () 3 (x0.f0.map GSession.t), .s .far () 9 (x0.f1.map (GPlan.t q0 q0)), .s .far () 5 (x0.f2.map (GRun.t q0)), tI x0.f3, tI x0.f4]), (5, .one (tI (0 : Int))), (6, .one (tI (0 : Int)))]) (.exit 0) (stL 50 [(5, .one (tI w0_5))])) : Does E 19 [.agg (GBoard.t .far q0 x0), .one (tS x1)] [(false, [tI w0_5])] :=
  Does.path (fn := Try.f19) [.lp (.exit 0) (stL 50 [(5, .one (tI w0_5))])] [fun k => LoopK E 19 (lpAt Try.f19 0) (stL 50 [(1, .one (tS x1)), (2, .box () [.s .far () 3 (x0.f0.map GSession.t), .s .far () 9 (x0.f1.map (GPlan.t q0 q0)), .s .far () 5 (x0.f2.map (GRun.t q0)), tI x0.f3, tI x0.f4]), (5, .one (tI (0 : Int))), (6, .one (tI (0 : Int)))]) (.exit 0) (stL 50 [(5, .one (tI w0_5))]) k k] rfl rfl (fun k => by kernel_rfl) ⟨Loops.ev h0, trivial⟩
noncomputable def s_ActiveOf_F (x0 : GBoard) (x1 : ByteArray) : Option (Int) :=
    if x0.f2.length ≤ 9223372036854775807 then (s_ActiveOf_l0 x1 x0.f2 0 (0 : Int)).bind fun y => match y with
      | .x0 w0_5 => (some (w0_5)) else none
theorem s_ActiveOf_D {q0 : Kd} (x0 : GBoard) (x1 : ByteArray) : Ans (s_ActiveOf_F x0 x1) (fun r => Does E 19 [.agg (GBoard.t .far q0 x0), .one (tS x1)] [(false, [tI r])]) := by
  unfold s_ActiveOf_F
  refine Ans.pre (fun hl1 => ?_)
  refine Ans.bind (fun y hy => ?_)
  replace hy := s_ActiveOf_L0 (q0 := q0) x1 x0.f0 x0.f1 x0.f2 x0.f3 x0.f4 x0.f2 0 (0 : Int) rfl hl1 y hy
  cases y with
  | x0 w0_5 =>
    have h0 := hy
    exact Ans.some (s_ActiveOf_P0 (q0 := q0) x0 x1 w0_5 h0)
-- loop.example/g00188/impl.ActiveOf
inductive i_ActiveOf_X1 where
  | x2 (v5 : Int)
def i_ActiveOf_Q1 {q0 : Kd} (v1 : ByteArray) (v5 : Int) (v7_0 : ByteArray) (v7_1 : Int) (v7_2 : Int) (v7_3 : Int) (v7_4 : List GState) (v11 : List GRun) (v12 : Int) (v13 : Int) (v18 : List GState) (v19 : Int) (v20 : Int) : i_ActiveOf_X1 → Prop
  | .x2 zv5 => Loops E 20 (lpAt Try.f20 1) (stL 38 [(1, .one (tS v1)), (5, .one (tI v5)), (7, .box () [tS v7_0, tI v7_1, tI v7_2, tI v7_3, .s .far () 4 (v7_4.map GState.t)]), (11, .one (.s .far () 5 (v11.map (GRun.t q0)))), (12, .one (tI v12)), (13, .one (tI v13)), (18, .one (.s .far () 4 (v18.map GState.t))), (19, .one (tI v19)), (20, .one (tI v20))]) (.exit 2) (stL 38 [(1, .one (tS v1)), (5, .one (tI zv5)), (11, .one (.s .far () 5 (v11.map (GRun.t q0)))), (12, .one (tI v12)), (13, .one (tI v13))])
theorem i_ActiveOf_R1_0 {q0 : Kd} (v1 : ByteArray) (v5 : Int) (v7_0 : ByteArray) (v7_1 : Int) (v7_2 : Int) (v7_3 : Int) (v7_4 : List GState) (v11 : List GRun) (v12 : Int) (v13 : Int) (v18 : List GState) (v19 : Int) (v20 : Int) (g0 : GState) (h0 : (decide (v20 < v19)) = true) (h1 : getI v18 v20 = some g0) (h2 : (v7_0.toList == v1.toList) = true) (h3 : (g0.f0 == (1 : Int)) = true) : Round E 20 (lpAt Try.f20 1) (stL 38 [(1, .one (tS v1)), (5, .one (tI v5)), (7, .box () [tS v7_0, tI v7_1, tI v7_2, tI v7_3, .s .far () 4 (v7_4.map GState.t)]), (11, .one (.s .far () 5 (v11.map (GRun.t q0)))), (12, .one (tI v12)), (13, .one (tI v13)), (18, .one (.s .far () 4 (v18.map GState.t))), (19, .one (tI v19)), (20, .one (tI v20))]) .normal (stL 38 [(1, .one (tS v1)), (5, .one (tI (IntKind.wrap .i64 (v5 + (1 : Int))))), (7, .box () [tS v7_0, tI v7_1, tI v7_2, tI v7_3, .s .far () 4 (v7_4.map GState.t)]), (11, .one (.s .far () 5 (v11.map (GRun.t q0)))), (12, .one (tI v12)), (13, .one (tI v13)), (18, .one (.s .far () 4 (v18.map GState.t))), (19, .one (tI v19)), (20, .one (tI (IntKind.wrap .i64 (v20 + (1 : Int)))))]) :=
  Round.path [.b true, .row (GState.t g0), .b true, .b true] [fun _ => (decide (v20 < v19)) = true, fun _ => 0 ≤ v20 ∧ (v18.map GState.t)[v20.toNat]? = some (GState.t g0), fun _ => (v7_0.toList == v1.toList) = true, fun _ => (g0.f0 == (1 : Int)) = true] (fun k => by kernel_rfl) ⟨Ev.c h0, Ev.c (getRow h1), Ev.c h2, Ev.c h3, trivial⟩
theorem i_ActiveOf_R1_1 {q0 : Kd} (v1 : ByteArray) (v5 : Int) (v7_0 : ByteArray) (v7_1 : Int) (v7_2 : Int) (v7_3 : Int) (v7_4 : List GState) (v11 : List GRun) (v12 : Int) (v13 : Int) (v18 : List GState) (v19 : Int) (v20 : Int) (g0 : GState) (h0 : (decide (v20 < v19)) = true) (h1 : getI v18 v20 = some g0) (h2 : (v7_0.toList == v1.toList) = true) (h3 : (g0.f0 == (1 : Int)) = false) : Round E 20 (lpAt Try.f20 1) (stL 38 [(1, .one (tS v1)), (5, .one (tI v5)), (7, .box () [tS v7_0, tI v7_1, tI v7_2, tI v7_3, .s .far () 4 (v7_4.map GState.t)]), (11, .one (.s .far () 5 (v11.map (GRun.t q0)))), (12, .one (tI v12)), (13, .one (tI v13)), (18, .one (.s .far () 4 (v18.map GState.t))), (19, .one (tI v19)), (20, .one (tI v20))]) .normal (stL 38 [(1, .one (tS v1)), (5, .one (tI v5)), (7, .box () [tS v7_0, tI v7_1, tI v7_2, tI v7_3, .s .far () 4 (v7_4.map GState.t)]), (11, .one (.s .far () 5 (v11.map (GRun.t q0)))), (12, .one (tI v12)), (13, .one (tI v13)), (18, .one (.s .far () 4 (v18.map GState.t))), (19, .one (tI v19)), (20, .one (tI (IntKind.wrap .i64 (v20 + (1 : Int)))))]) :=
  Round.path [.b true, .row (GState.t g0), .b true, .b false] [fun _ => (decide (v20 < v19)) = true, fun _ => 0 ≤ v20 ∧ (v18.map GState.t)[v20.toNat]? = some (GState.t g0), fun _ => (v7_0.toList == v1.toList) = true, fun _ => (g0.f0 == (1 : Int)) = false] (fun k => by kernel_rfl) ⟨Ev.c h0, Ev.c (getRow h1), Ev.c h2, Ev.c h3, trivial⟩
theorem i_ActiveOf_R1_2 {q0 : Kd} (v1 : ByteArray) (v5 : Int) (v7_0 : ByteArray) (v7_1 : Int) (v7_2 : Int) (v7_3 : Int) (v7_4 : List GState) (v11 : List GRun) (v12 : Int) (v13 : Int) (v18 : List GState) (v19 : Int) (v20 : Int) (g0 : GState) (h0 : (decide (v20 < v19)) = true) (h1 : getI v18 v20 = some g0) (h2 : (v7_0.toList == v1.toList) = false) : Round E 20 (lpAt Try.f20 1) (stL 38 [(1, .one (tS v1)), (5, .one (tI v5)), (7, .box () [tS v7_0, tI v7_1, tI v7_2, tI v7_3, .s .far () 4 (v7_4.map GState.t)]), (11, .one (.s .far () 5 (v11.map (GRun.t q0)))), (12, .one (tI v12)), (13, .one (tI v13)), (18, .one (.s .far () 4 (v18.map GState.t))), (19, .one (tI v19)), (20, .one (tI v20))]) .normal (stL 38 [(1, .one (tS v1)), (5, .one (tI v5)), (7, .box () [tS v7_0, tI v7_1, tI v7_2, tI v7_3, .s .far () 4 (v7_4.map GState.t)]), (11, .one (.s .far () 5 (v11.map (GRun.t q0)))), (12, .one (tI v12)), (13, .one (tI v13)), (18, .one (.s .far () 4 (v18.map GState.t))), (19, .one (tI v19)), (20, .one (tI (IntKind.wrap .i64 (v20 + (1 : Int)))))]) :=
  Round.path [.b true, .row (GState.t g0), .b false] [fun _ => (decide (v20 < v19)) = true, fun _ => 0 ≤ v20 ∧ (v18.map GState.t)[v20.toNat]? = some (GState.t g0), fun _ => (v7_0.toList == v1.toList) = false] (fun k => by kernel_rfl) ⟨Ev.c h0, Ev.c (getRow h1), Ev.c h2, trivial⟩
theorem i_ActiveOf_R1_3 {q0 : Kd} (v1 : ByteArray) (v5 : Int) (v7_0 : ByteArray) (v7_1 : Int) (v7_2 : Int) (v7_3 : Int) (v7_4 : List GState) (v11 : List GRun) (v12 : Int) (v13 : Int) (v18 : List GState) (v19 : Int) (v20 : Int) (h0 : (decide (v20 < v19)) = false) : Round E 20 (lpAt Try.f20 1) (stL 38 [(1, .one (tS v1)), (5, .one (tI v5)), (7, .box () [tS v7_0, tI v7_1, tI v7_2, tI v7_3, .s .far () 4 (v7_4.map GState.t)]), (11, .one (.s .far () 5 (v11.map (GRun.t q0)))), (12, .one (tI v12)), (13, .one (tI v13)), (18, .one (.s .far () 4 (v18.map GState.t))), (19, .one (tI v19)), (20, .one (tI v20))]) (.exit 2) (stL 38 [(1, .one (tS v1)), (5, .one (tI v5)), (11, .one (.s .far () 5 (v11.map (GRun.t q0)))), (12, .one (tI v12)), (13, .one (tI v13))]) :=
  Round.path [.b false] [fun _ => (decide (v20 < v19)) = false] (fun k => by kernel_rfl) ⟨Ev.c h0, trivial⟩
noncomputable def i_ActiveOf_l1 (v1 : ByteArray) (v7_0 : ByteArray) : List GState → Nat → Int → Option i_ActiveOf_X1
  | [], i, v5 => some (.x2 v5)
  | hd :: rest, i, v5 => cond (v7_0.toList == v1.toList)
    (cond (hd.f0 == (1 : Int))
      (i_ActiveOf_l1 v1 v7_0 rest (i + 1) (IntKind.wrap .i64 (v5 + (1 : Int))))
      (i_ActiveOf_l1 v1 v7_0 rest (i + 1) v5))
    (i_ActiveOf_l1 v1 v7_0 rest (i + 1) v5)
theorem i_ActiveOf_L1 {q0 : Kd} (v1 : ByteArray) (v7_0 : ByteArray) (v7_1 : Int) (v7_2 : Int) (v7_3 : Int) (v7_4 : List GState) (v11 : List GRun) (v12 : Int) (v13 : Int) (v18 : List GState) (rest : List GState) : ∀ (i : Nat) (v5 : Int), (v18).drop i = rest → v18.length ≤ 9223372036854775807 → Ans (i_ActiveOf_l1 v1 v7_0 rest i v5) (i_ActiveOf_Q1 (q0 := q0) v1 v5 v7_0 v7_1 v7_2 v7_3 v7_4 v11 v12 v13 v18 (v18.length : Int) (i : Int)) := by
  induction rest with
  | nil =>
    intro i v5 hE hl
    have hb := foldEnd hE
    unfold i_ActiveOf_l1
    exact Ans.some (Loops.stop (i_ActiveOf_R1_3 (q0 := q0) v1 v5 v7_0 v7_1 v7_2 v7_3 v7_4 v11 v12 v13 v18 (v18.length : Int) (i : Int) hb) (by intro h; cases h))
  | cons hd rest ih =>
    intro i v5 hE hl
    have hb := foldMore hE
    have hw := foldNext hE hl
    have hE2 := foldRest hE
    have hg := foldGet hE
    unfold i_ActiveOf_l1
    refine Ans.ite (fun h2 => ?_) (fun h2 => ?_)
    · refine Ans.ite (fun h3 => ?_) (fun h3 => ?_)
      · exact (ih (i + 1) (IntKind.wrap .i64 (v5 + (1 : Int))) hE2 hl).mono fun y hy => by
                have r := i_ActiveOf_R1_0 (q0 := q0) v1 v5 v7_0 v7_1 v7_2 v7_3 v7_4 v11 v12 v13 v18 (v18.length : Int) (i : Int) hd hb hg h2 h3
                rw [hw] at r
                cases y <;> exact Loops.next r hy
      · exact (ih (i + 1) v5 hE2 hl).mono fun y hy => by
                have r := i_ActiveOf_R1_1 (q0 := q0) v1 v5 v7_0 v7_1 v7_2 v7_3 v7_4 v11 v12 v13 v18 (v18.length : Int) (i : Int) hd hb hg h2 h3
                rw [hw] at r
                cases y <;> exact Loops.next r hy
    · exact (ih (i + 1) v5 hE2 hl).mono fun y hy => by
                have r := i_ActiveOf_R1_2 (q0 := q0) v1 v5 v7_0 v7_1 v7_2 v7_3 v7_4 v11 v12 v13 v18 (v18.length : Int) (i : Int) hd hb hg h2
                rw [hw] at r
                cases y <;> exact Loops.next r hy
inductive i_ActiveOf_X0 where
  | x0 (v5 : Int)
def i_ActiveOf_Q0 {q0 : Kd} (v1 : ByteArray) (v5 : Int) (v11 : List GRun) (v12 : Int) (v13 : Int) : i_ActiveOf_X0 → Prop
  | .x0 zv5 => Loops E 20 (lpAt Try.f20 0) (stL 38 [(1, .one (tS v1)), (5, .one (tI v5)), (11, .one (.s .far () 5 (v11.map (GRun.t q0)))), (12, .one (tI v12)), (13, .one (tI v13))]) (.exit 0) (stL 38 [(5, .one (tI zv5))])
theorem i_ActiveOf_R0_0 {q0 : Kd} (v1 : ByteArray) (v5 : Int) (v11 : List GRun) (v12 : Int) (v13 : Int) (g0 : GRun) (w0_5 : Int) (h0 : (decide (v13 < v12)) = true) (h1 : getI v11 v13 = some g0) (h2 : Loops E 20 (lpAt Try.f20 1) (stL 38 [(1, .one (tS v1)), (5, .one (tI v5)), (7, .box () [tS g0.f0, tI g0.f1.f0, tI g0.f1.f1, tI g0.f2, .s .far () 4 (g0.f3.map GState.t)]), (11, .one (.s .far () 5 (v11.map (GRun.t q0)))), (12, .one (tI v12)), (13, .one (tI v13)), (18, .one (.s .far () 4 (g0.f3.map GState.t))), (19, .one (tI (g0.f3.length : Int))), (20, .one (tI (0 : Int)))]) (.exit 2) (stL 38 [(1, .one (tS v1)), (5, .one (tI w0_5)), (11, .one (.s .far () 5 (v11.map (GRun.t q0)))), (12, .one (tI v12)), (13, .one (tI v13))])) : Round E 20 (lpAt Try.f20 0) (stL 38 [(1, .one (tS v1)), (5, .one (tI v5)), (11, .one (.s .far () 5 (v11.map (GRun.t q0)))), (12, .one (tI v12)), (13, .one (tI v13))]) .normal (stL 38 [(1, .one (tS v1)), (5, .one (tI w0_5)), (11, .one (.s .far () 5 (v11.map (GRun.t q0)))), (12, .one (tI v12)), (13, .one (tI (IntKind.wrap .i64 (v13 + (1 : Int)))))]) :=
  Round.path [.b true, .row ((GRun.t q0) g0), .val (.int .i64 (g0.f3.length : Int)), .lp (.exit 2) (stL 38 [(1, .one (tS v1)), (5, .one (tI w0_5)), (11, .one (.s .far () 5 (v11.map (GRun.t q0)))), (12, .one (tI v12)), (13, .one (tI v13))])] [fun _ => (decide (v13 < v12)) = true, fun _ => 0 ≤ v13 ∧ (v11.map (GRun.t q0))[v13.toNat]? = some ((GRun.t q0) g0), fun _ => ((g0.f3.map GState.t).length : Int) = (g0.f3.length : Int), fun k => LoopK E 20 (lpAt Try.f20 1) (stL 38 [(1, .one (tS v1)), (5, .one (tI v5)), (7, .box () [tS g0.f0, tI g0.f1.f0, tI g0.f1.f1, tI g0.f2, .s .far () 4 (g0.f3.map GState.t)]), (11, .one (.s .far () 5 (v11.map (GRun.t q0)))), (12, .one (tI v12)), (13, .one (tI v13)), (18, .one (.s .far () 4 (g0.f3.map GState.t))), (19, .one (tI (g0.f3.length : Int))), (20, .one (tI (0 : Int)))]) (.exit 2) (stL 38 [(1, .one (tS v1)), (5, .one (tI w0_5)), (11, .one (.s .far () 5 (v11.map (GRun.t q0)))), (12, .one (tI v12)), (13, .one (tI v13))]) k k] (fun k => by kernel_rfl) ⟨Ev.c h0, Ev.c (getRow h1), Ev.c lenMap, Loops.ev h2, trivial⟩
theorem i_ActiveOf_R0_1 {q0 : Kd} (v1 : ByteArray) (v5 : Int) (v11 : List GRun) (v12 : Int) (v13 : Int) (h0 : (decide (v13 < v12)) = false) : Round E 20 (lpAt Try.f20 0) (stL 38 [(1, .one (tS v1)), (5, .one (tI v5)), (11, .one (.s .far () 5 (v11.map (GRun.t q0)))), (12, .one (tI v12)), (13, .one (tI v13))]) (.exit 0) (stL 38 [(5, .one (tI v5))]) :=
  Round.path [.b false] [fun _ => (decide (v13 < v12)) = false] (fun k => by kernel_rfl) ⟨Ev.c h0, trivial⟩
noncomputable def i_ActiveOf_l0 (v1 : ByteArray) : List GRun → Nat → Int → Option i_ActiveOf_X0
  | [], i, v5 => some (.x0 v5)
  | hd :: rest, i, v5 => if hd.f3.length ≤ 9223372036854775807 then (i_ActiveOf_l1 v1 hd.f0 hd.f3 0 v5).bind fun y => match y with
    | .x2 w0_5 => (i_ActiveOf_l0 v1 rest (i + 1) w0_5) else none
theorem i_ActiveOf_L0 {q0 : Kd} (v1 : ByteArray) (v11 : List GRun) (rest : List GRun) : ∀ (i : Nat) (v5 : Int), (v11).drop i = rest → v11.length ≤ 9223372036854775807 → Ans (i_ActiveOf_l0 v1 rest i v5) (i_ActiveOf_Q0 (q0 := q0) v1 v5 v11 (v11.length : Int) (i : Int)) := by
  induction rest with
  | nil =>
    intro i v5 hE hl
    have hb := foldEnd hE
    unfold i_ActiveOf_l0
    exact Ans.some (Loops.stop (i_ActiveOf_R0_1 (q0 := q0) v1 v5 v11 (v11.length : Int) (i : Int) hb) (by intro h; cases h))
  | cons hd rest ih =>
    intro i v5 hE hl
    have hb := foldMore hE
    have hw := foldNext hE hl
    have hE2 := foldRest hE
    have hg := foldGet hE
    unfold i_ActiveOf_l0
    refine Ans.pre (fun hl2 => ?_)
    refine Ans.bind (fun y hy => ?_)
    replace hy := i_ActiveOf_L1 (q0 := q0) v1 hd.f0 hd.f1.f0 hd.f1.f1 hd.f2 hd.f3 v11 (v11.length : Int) (i : Int) hd.f3 hd.f3 0 v5 rfl hl2 y hy
    cases y with
    | x2 w0_5 =>
      have h2 := hy
      exact (ih (i + 1) w0_5 hE2 hl).mono fun y hy => by
                have r := i_ActiveOf_R0_0 (q0 := q0) v1 v5 v11 (v11.length : Int) (i : Int) hd w0_5 hb hg h2
                rw [hw] at r
                cases y <;> exact Loops.next r hy
theorem i_ActiveOf_P0 {q0 : Kd} (x0 : GBoard) (x1 : ByteArray) (w0_5 : Int) (h0 : Loops E 20 (lpAt Try.f20 0) (stL 38 [(1, .one (tS x1)), (5, .one (tI (0 : Int))), (11, .one (.s .far () 5 (x0.f2.map (GRun.t q0)))), (12, .one (tI (x0.f2.length : Int))), (13, .one (tI (0 : Int)))]) (.exit 0) (stL 38 [(5, .one (tI w0_5))])) : Does E 20 [.agg (GBoard.t .far q0 x0), .one (tS x1)] [(false, [tI w0_5])] :=
  Does.path (fn := Try.f20) [.val (.int .i64 (x0.f2.length : Int)), .lp (.exit 0) (stL 38 [(5, .one (tI w0_5))])] [fun _ => ((x0.f2.map (GRun.t q0)).length : Int) = (x0.f2.length : Int), fun k => LoopK E 20 (lpAt Try.f20 0) (stL 38 [(1, .one (tS x1)), (5, .one (tI (0 : Int))), (11, .one (.s .far () 5 (x0.f2.map (GRun.t q0)))), (12, .one (tI (x0.f2.length : Int))), (13, .one (tI (0 : Int)))]) (.exit 0) (stL 38 [(5, .one (tI w0_5))]) k k] rfl rfl (fun k => by kernel_rfl) ⟨Ev.c lenMap, Loops.ev h0, trivial⟩
noncomputable def i_ActiveOf_F (x0 : GBoard) (x1 : ByteArray) : Option (Int) :=
    if x0.f2.length ≤ 9223372036854775807 then (i_ActiveOf_l0 x1 x0.f2 0 (0 : Int)).bind fun y => match y with
      | .x0 w0_5 => (some (w0_5)) else none
theorem i_ActiveOf_D {q0 : Kd} (x0 : GBoard) (x1 : ByteArray) : Ans (i_ActiveOf_F x0 x1) (fun r => Does E 20 [.agg (GBoard.t .far q0 x0), .one (tS x1)] [(false, [tI r])]) := by
  unfold i_ActiveOf_F
  refine Ans.pre (fun hl1 => ?_)
  refine Ans.bind (fun y hy => ?_)
  replace hy := i_ActiveOf_L0 (q0 := q0) x1 x0.f2 x0.f2 0 (0 : Int) rfl hl1 y hy
  cases y with
  | x0 w0_5 =>
    have h0 := hy
    exact Ans.some (i_ActiveOf_P0 (q0 := q0) x0 x1 w0_5 h0)
noncomputable def activeOf (b : GBoard) (n : ByteArray) : Int := (s_ActiveOf_F b n).getD 0
theorem active1 (nm : ByteArray) (g : GRun) : ∀ (rest : List GState) (i : Nat) (v : Int), ∃ r, s_ActiveOf_l1 nm g rest i v = some (.x2 r) ∧ i_ActiveOf_l1 nm g.f0 rest i v = some (.x2 r)
  | [], i, v => ⟨v, rfl, rfl⟩
  | x :: rest, i, v => by
    have ih := active1 nm g rest
    unfold s_ActiveOf_l1 i_ActiveOf_l1
    cases g.f0.toList == nm.toList <;> cases x.f0 == 1 <;> exact ih _ _
theorem active0 (nm : ByteArray) : ∀ (rest : List GRun) (i : Nat) (v : Int), (∀ y ∈ rest, Small.sm y) → ∃ r, s_ActiveOf_l0 nm rest i v = some (.x0 r) ∧ i_ActiveOf_l0 nm rest i v = some (.x0 r)
  | [], i, v, _ => ⟨v, rfl, rfl⟩
  | x :: rest, i, v, h => by
    have hx := sm_wf_len (h x (by simp)).2.2
    obtain ⟨r, h1, h2⟩ := active1 nm x x.f3 0 v
    unfold s_ActiveOf_l0 i_ActiveOf_l0
    simp only [if_pos hx, h1, h2, Option.bind_some]
    exact active0 nm rest _ _ fun y hy => h y (by simp [hy])
theorem active_ok (b : GBoard) (n : ByteArray) (h : Small.sm b) : s_ActiveOf_F b n = some (activeOf b n) ∧ i_ActiveOf_F b n = some (activeOf b n) := by
  obtain ⟨r, h1, h2⟩ := active0 n b.f2 0 0 h.2.2.2
  have h3 := sm_wf_len h.2.2
  have e : s_ActiveOf_F b n = some r := by unfold s_ActiveOf_F; rw [if_pos h3, h1]; rfl
  have e2 : i_ActiveOf_F b n = some r := by unfold i_ActiveOf_F; rw [if_pos h3, h2]; rfl
  have e3 : activeOf b n = r := by unfold activeOf; rw [e]; rfl
  rw [e3]; exact ⟨e, e2⟩
theorem T_s_ActiveOf {q0 : Kd} (x0 : GBoard) (x1 : ByteArray) (h : Small.sm x0) : Does E 19 [.agg (GBoard.t .far q0 x0), .one (tS x1)] [(false, [tI (activeOf x0 x1)])] := by
  exact s_ActiveOf_D x0 x1 _ (active_ok x0 x1 h).1
theorem T_i_ActiveOf {q0 : Kd} (x0 : GBoard) (x1 : ByteArray) (h : Small.sm x0) : Does E 20 [.agg (GBoard.t .far q0 x0), .one (tS x1)] [(false, [tI (activeOf x0 x1)])] := by
  exact i_ActiveOf_D x0 x1 _ (active_ok x0 x1 h).2
-- loop.example/g00188/laws.FnExactActiveOf
theorem l_FnExactActiveOf_P0 {q0 : Kd} (x0 : LBoard) (x1 : ByteArray) (h0 : (decide ((x1.size : Int) > (1048576 : Int))) = true) : Does E 5 [.agg (LBoard.t .far q0 x0), .one (tS x1)] [(false, [tB true])] :=
  Does.path (fn := Try.f5) [.b true] [fun _ => (decide ((x1.size : Int) > (1048576 : Int))) = true] rfl rfl (fun k => by kernel_rfl) ⟨Ev.c h0, trivial⟩
theorem l_FnExactActiveOf_P1 {q0 : Kd} (x0 : LBoard) (x1 : ByteArray) (h0 : (decide ((x1.size : Int) > (1048576 : Int))) = false) (h1 : Wf.wf x0) (h2 : (decide ((p_l_szBoard x0 (1048576 : Int)) < (0 : Int))) = true) : Does E 5 [.agg (LBoard.t .far q0 x0), .one (tS x1)] [(false, [tB true])] :=
  Does.path (fn := Try.f5) [.b false, .ret [(false, [tI (p_l_szBoard x0 (1048576 : Int))])], .b true] [fun _ => (decide ((x1.size : Int) > (1048576 : Int))) = false, fun k => E.C k 12 [.agg (LBoard.t .far q0 x0), .one (tI (1048576 : Int))] = some [(false, [tI (p_l_szBoard x0 (1048576 : Int))])], fun _ => (decide ((p_l_szBoard x0 (1048576 : Int)) < (0 : Int))) = true] rfl rfl (fun k => by kernel_rfl) ⟨Ev.c h0, T_l_szBoard x0 (1048576 : Int) h1, Ev.c h2, trivial⟩
theorem l_FnExactActiveOf_P2 {q0 : Kd} (x0 : LBoard) (x1 : ByteArray) (h0 : (decide ((x1.size : Int) > (1048576 : Int))) = false) (h1 : Wf.wf x0) (h2 : (decide ((p_l_szBoard x0 (1048576 : Int)) < (0 : Int))) = false) (h3 : Small.sm x0) (h4 : Small.sm (p_l_toBoard x0)) (h5 : ((activeOf (p_l_toBoard x0) x1) != (activeOf (p_l_toBoard x0) x1)) = true) : Does E 5 [.agg (LBoard.t .far q0 x0), .one (tS x1)] [(false, [tB false])] :=
  Does.path (fn := Try.f5) [.b false, .ret [(false, [tI (p_l_szBoard x0 (1048576 : Int))])], .b false, .ret [(true, GBoard.t .own .own (p_l_toBoard x0))], .ret [(false, [tI (activeOf (p_l_toBoard x0) x1)])], .ret [(true, GBoard.t .own .own (p_l_toBoard x0))], .ret [(false, [tI (activeOf (p_l_toBoard x0) x1)])], .b true] [fun _ => (decide ((x1.size : Int) > (1048576 : Int))) = false, fun k => E.C k 12 [.agg (LBoard.t .far q0 x0), .one (tI (1048576 : Int))] = some [(false, [tI (p_l_szBoard x0 (1048576 : Int))])], fun _ => (decide ((p_l_szBoard x0 (1048576 : Int)) < (0 : Int))) = false, fun k => E.C k 14 [.agg (LBoard.t .far q0 x0)] = some [(true, GBoard.t .own .own (p_l_toBoard x0))], fun k => E.C k 19 [.agg (GBoard.t .far .own (p_l_toBoard x0)), .one (tS x1)] = some [(false, [tI (activeOf (p_l_toBoard x0) x1)])], fun k => E.C k 14 [.agg (LBoard.t .far q0 x0)] = some [(true, GBoard.t .own .own (p_l_toBoard x0))], fun k => E.C k 20 [.agg (GBoard.t .far .own (p_l_toBoard x0)), .one (tS x1)] = some [(false, [tI (activeOf (p_l_toBoard x0) x1)])], fun _ => ((activeOf (p_l_toBoard x0) x1) != (activeOf (p_l_toBoard x0) x1)) = true] rfl rfl (fun k => by kernel_rfl) ⟨Ev.c h0, T_l_szBoard x0 (1048576 : Int) h1, Ev.c h2, T_l_toBoard x0 h3, T_s_ActiveOf (p_l_toBoard x0) x1 h4, T_l_toBoard x0 h3, T_i_ActiveOf (p_l_toBoard x0) x1 h4, Ev.c h5, trivial⟩
theorem l_FnExactActiveOf_P3 {q0 : Kd} (x0 : LBoard) (x1 : ByteArray) (h0 : (decide ((x1.size : Int) > (1048576 : Int))) = false) (h1 : Wf.wf x0) (h2 : (decide ((p_l_szBoard x0 (1048576 : Int)) < (0 : Int))) = false) (h3 : Small.sm x0) (h4 : Small.sm (p_l_toBoard x0)) (h5 : ((activeOf (p_l_toBoard x0) x1) != (activeOf (p_l_toBoard x0) x1)) = false) (h6 : (p_l_toBoard x0) = (p_l_toBoard x0)) (h7 : (yes (p_l_toBoard x0) (p_l_toBoard x0)) = true) : Does E 5 [.agg (LBoard.t .far q0 x0), .one (tS x1)] [(false, [tB true])] :=
  Does.path (fn := Try.f5) [.b false, .ret [(false, [tI (p_l_szBoard x0 (1048576 : Int))])], .b false, .ret [(true, GBoard.t .own .own (p_l_toBoard x0))], .ret [(false, [tI (activeOf (p_l_toBoard x0) x1)])], .ret [(true, GBoard.t .own .own (p_l_toBoard x0))], .ret [(false, [tI (activeOf (p_l_toBoard x0) x1)])], .b false, .ret [(true, GBoard.t .own .own (p_l_toBoard x0))], .ret [(false, [tB true])]] [fun _ => (decide ((x1.size : Int) > (1048576 : Int))) = false, fun k => E.C k 12 [.agg (LBoard.t .far q0 x0), .one (tI (1048576 : Int))] = some [(false, [tI (p_l_szBoard x0 (1048576 : Int))])], fun _ => (decide ((p_l_szBoard x0 (1048576 : Int)) < (0 : Int))) = false, fun k => E.C k 14 [.agg (LBoard.t .far q0 x0)] = some [(true, GBoard.t .own .own (p_l_toBoard x0))], fun k => E.C k 19 [.agg (GBoard.t .far .own (p_l_toBoard x0)), .one (tS x1)] = some [(false, [tI (activeOf (p_l_toBoard x0) x1)])], fun k => E.C k 14 [.agg (LBoard.t .far q0 x0)] = some [(true, GBoard.t .own .own (p_l_toBoard x0))], fun k => E.C k 20 [.agg (GBoard.t .far .own (p_l_toBoard x0)), .one (tS x1)] = some [(false, [tI (activeOf (p_l_toBoard x0) x1)])], fun _ => ((activeOf (p_l_toBoard x0) x1) != (activeOf (p_l_toBoard x0) x1)) = false, fun k => E.C k 14 [.agg (LBoard.t .far q0 x0)] = some [(true, GBoard.t .own .own (p_l_toBoard x0))], fun k => E.C k 16 [.agg (GBoard.t .far .own (p_l_toBoard x0)), .agg (GBoard.t .far .own (p_l_toBoard x0))] = some [(false, [tB true])]] rfl rfl (fun k => by kernel_rfl) ⟨Ev.c h0, T_l_szBoard x0 (1048576 : Int) h1, Ev.c h2, T_l_toBoard x0 h3, T_s_ActiveOf (p_l_toBoard x0) x1 h4, T_l_toBoard x0 h3, T_i_ActiveOf (p_l_toBoard x0) x1 h4, Ev.c h5, T_l_toBoard x0 h3, Does.to (T_l_eqBoard (p_l_toBoard x0) (p_l_toBoard x0) h6 h4) (by rw [h7]), trivial⟩
theorem l_FnExactActiveOf_P4 {q0 : Kd} (x0 : LBoard) (x1 : ByteArray) (h0 : (decide ((x1.size : Int) > (1048576 : Int))) = false) (h1 : Wf.wf x0) (h2 : (decide ((p_l_szBoard x0 (1048576 : Int)) < (0 : Int))) = false) (h3 : Small.sm x0) (h4 : Small.sm (p_l_toBoard x0)) (h5 : ((activeOf (p_l_toBoard x0) x1) != (activeOf (p_l_toBoard x0) x1)) = false) (h6 : (p_l_toBoard x0) = (p_l_toBoard x0)) (h7 : (yes (p_l_toBoard x0) (p_l_toBoard x0)) = false) : Does E 5 [.agg (LBoard.t .far q0 x0), .one (tS x1)] [(false, [tB false])] :=
  Does.path (fn := Try.f5) [.b false, .ret [(false, [tI (p_l_szBoard x0 (1048576 : Int))])], .b false, .ret [(true, GBoard.t .own .own (p_l_toBoard x0))], .ret [(false, [tI (activeOf (p_l_toBoard x0) x1)])], .ret [(true, GBoard.t .own .own (p_l_toBoard x0))], .ret [(false, [tI (activeOf (p_l_toBoard x0) x1)])], .b false, .ret [(true, GBoard.t .own .own (p_l_toBoard x0))], .ret [(false, [tB false])]] [fun _ => (decide ((x1.size : Int) > (1048576 : Int))) = false, fun k => E.C k 12 [.agg (LBoard.t .far q0 x0), .one (tI (1048576 : Int))] = some [(false, [tI (p_l_szBoard x0 (1048576 : Int))])], fun _ => (decide ((p_l_szBoard x0 (1048576 : Int)) < (0 : Int))) = false, fun k => E.C k 14 [.agg (LBoard.t .far q0 x0)] = some [(true, GBoard.t .own .own (p_l_toBoard x0))], fun k => E.C k 19 [.agg (GBoard.t .far .own (p_l_toBoard x0)), .one (tS x1)] = some [(false, [tI (activeOf (p_l_toBoard x0) x1)])], fun k => E.C k 14 [.agg (LBoard.t .far q0 x0)] = some [(true, GBoard.t .own .own (p_l_toBoard x0))], fun k => E.C k 20 [.agg (GBoard.t .far .own (p_l_toBoard x0)), .one (tS x1)] = some [(false, [tI (activeOf (p_l_toBoard x0) x1)])], fun _ => ((activeOf (p_l_toBoard x0) x1) != (activeOf (p_l_toBoard x0) x1)) = false, fun k => E.C k 14 [.agg (LBoard.t .far q0 x0)] = some [(true, GBoard.t .own .own (p_l_toBoard x0))], fun k => E.C k 16 [.agg (GBoard.t .far .own (p_l_toBoard x0)), .agg (GBoard.t .far .own (p_l_toBoard x0))] = some [(false, [tB false])]] rfl rfl (fun k => by kernel_rfl) ⟨Ev.c h0, T_l_szBoard x0 (1048576 : Int) h1, Ev.c h2, T_l_toBoard x0 h3, T_s_ActiveOf (p_l_toBoard x0) x1 h4, T_l_toBoard x0 h3, T_i_ActiveOf (p_l_toBoard x0) x1 h4, Ev.c h5, T_l_toBoard x0 h3, Does.to (T_l_eqBoard (p_l_toBoard x0) (p_l_toBoard x0) h6 h4) (by rw [h7]), trivial⟩
noncomputable def l_FnExactActiveOf_F (x0 : LBoard) (x1 : ByteArray) : Option (Bool) :=
    cond (decide ((x1.size : Int) > (1048576 : Int)))
      (some (true))
      (if Wf.wf x0 then cond (decide ((p_l_szBoard x0 (1048576 : Int)) < (0 : Int)))
        (some (true))
        (if Small.sm x0 then if Small.sm (p_l_toBoard x0) then cond ((activeOf (p_l_toBoard x0) x1) != (activeOf (p_l_toBoard x0) x1))
          (some (false))
          (if (p_l_toBoard x0) = (p_l_toBoard x0) then cond (yes (p_l_toBoard x0) (p_l_toBoard x0))
            (some (true))
            (some (false)) else none) else none else none) else none)
theorem l_FnExactActiveOf_D {q0 : Kd} (x0 : LBoard) (x1 : ByteArray) : Ans (l_FnExactActiveOf_F x0 x1) (fun r => Does E 5 [.agg (LBoard.t .far q0 x0), .one (tS x1)] [(false, [tB r])]) := by
  unfold l_FnExactActiveOf_F
  refine Ans.ite (fun h0 => ?_) (fun h0 => ?_)
  · exact Ans.some (l_FnExactActiveOf_P0 (q0 := q0) x0 x1 h0)
  · refine Ans.pre (fun h1 => ?_)
    refine Ans.ite (fun h2 => ?_) (fun h2 => ?_)
    · exact Ans.some (l_FnExactActiveOf_P1 (q0 := q0) x0 x1 h0 h1 h2)
    · refine Ans.pre (fun h3 => ?_)
      refine Ans.pre (fun h4 => ?_)
      refine Ans.ite (fun h5 => ?_) (fun h5 => ?_)
      · exact Ans.some (l_FnExactActiveOf_P2 (q0 := q0) x0 x1 h0 h1 h2 h3 h4 h5)
      · refine Ans.pre (fun h6 => ?_)
        refine Ans.ite (fun h7 => ?_) (fun h7 => ?_)
        · exact Ans.some (l_FnExactActiveOf_P3 (q0 := q0) x0 x1 h0 h1 h2 h3 h4 h5 h6 h7)
        · exact Ans.some (l_FnExactActiveOf_P4 (q0 := q0) x0 x1 h0 h1 h2 h3 h4 h5 h6 h7)
theorem T_law_ActiveOf {q0 : Kd} (x0 : LBoard) (x1 : ByteArray) (h : Wf.wf x0) : Does E 5 [.agg (LBoard.t .far q0 x0), .one (tS x1)] [(false, [tB true])] := by
  have hs := le_l_szBoard x0 1048576 h (by omega) (by omega)
  exact l_FnExactActiveOf_D x0 x1 _ (by
    unfold l_FnExactActiveOf_F
    refine lawCond fun _ => ?_
    refine lawPre h (lawSz fun q => ?_)
    have hs := (hs q).2
    have ht := sm_l_toBoard hs
    simp [hs, ht, yes])
end Go.Proofs.Ytohlonlaadmikaa.Am
