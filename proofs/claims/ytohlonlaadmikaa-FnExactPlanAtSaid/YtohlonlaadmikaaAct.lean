/- What the functions of PlanAt do. Conditions: none. -/
import Derived.Test.YtohlonlaadmikaaBoards
namespace Go.Proofs.Ytohlonlaadmikaa.Am
set_option linter.unusedVariables false
set_option linter.unusedSimpArgs false
open Go Go.Proofs Classical
set_option maxRecDepth 100000
set_option linter.unusedVariables false
set_option linter.unusedSimpArgs false
-- loop.example/g00188/spec.PlanAt
inductive s_PlanAt_X0 where
  | ret (v4 : Int)
  | x0 
def s_PlanAt_Q0 {q0 : Kd} (v1 : ByteArray) (v2_0 : List GSession) (v2_1 : List GPlan) (v2_2 : List GRun) (v2_3 : Int) (v2_4 : Int) (v5 : Int) : s_PlanAt_X0 → Prop
  | .ret zv4 => Loops E 13 (lpAt Try.f13 0) (stL 23 [(1, .one (tS v1)), (2, .box () [.s .far () 3 (v2_0.map GSession.t), .s .far () 9 (v2_1.map (GPlan.t q0 q0)), .s .far () 5 (v2_2.map (GRun.t q0)), tI v2_3, tI v2_4]), (5, .one (tI v5))]) .ret (stL 23 [(4, .one (tI zv4))])
  | .x0 => Loops E 13 (lpAt Try.f13 0) (stL 23 [(1, .one (tS v1)), (2, .box () [.s .far () 3 (v2_0.map GSession.t), .s .far () 9 (v2_1.map (GPlan.t q0 q0)), .s .far () 5 (v2_2.map (GRun.t q0)), tI v2_3, tI v2_4]), (5, .one (tI v5))]) (.exit 0) (stL 23 [])
theorem s_PlanAt_R0_0 {q0 : Kd} (v1 : ByteArray) (v2_0 : List GSession) (v2_1 : List GPlan) (v2_2 : List GRun) (v2_3 : Int) (v2_4 : Int) (v5 : Int) (g0 : GPlan) (h0 : (decide (v5 < (v2_1.length : Int))) = true) (h1 : getI v2_1 v5 = some g0) (h2 : (g0.f0.f0.toList == v1.toList) = true) : Round E 13 (lpAt Try.f13 0) (stL 23 [(1, .one (tS v1)), (2, .box () [.s .far () 3 (v2_0.map GSession.t), .s .far () 9 (v2_1.map (GPlan.t q0 q0)), .s .far () 5 (v2_2.map (GRun.t q0)), tI v2_3, tI v2_4]), (5, .one (tI v5))]) .ret (stL 23 [(4, .one (tI v5))]) :=
  Round.path [.val (.int .i64 (v2_1.length : Int)), .b true, .row ((GPlan.t q0 q0) g0), .b true] [fun _ => ((v2_1.map (GPlan.t q0 q0)).length : Int) = (v2_1.length : Int), fun _ => (decide (v5 < (v2_1.length : Int))) = true, fun _ => 0 ≤ v5 ∧ (v2_1.map (GPlan.t q0 q0))[v5.toNat]? = some ((GPlan.t q0 q0) g0), fun _ => (g0.f0.f0.toList == v1.toList) = true] (fun k => by kernel_rfl) ⟨Ev.c lenMap, Ev.c h0, Ev.c (getRow h1), Ev.c h2, trivial⟩
theorem s_PlanAt_R0_1 {q0 : Kd} (v1 : ByteArray) (v2_0 : List GSession) (v2_1 : List GPlan) (v2_2 : List GRun) (v2_3 : Int) (v2_4 : Int) (v5 : Int) (g0 : GPlan) (h0 : (decide (v5 < (v2_1.length : Int))) = true) (h1 : getI v2_1 v5 = some g0) (h2 : (g0.f0.f0.toList == v1.toList) = false) : Round E 13 (lpAt Try.f13 0) (stL 23 [(1, .one (tS v1)), (2, .box () [.s .far () 3 (v2_0.map GSession.t), .s .far () 9 (v2_1.map (GPlan.t q0 q0)), .s .far () 5 (v2_2.map (GRun.t q0)), tI v2_3, tI v2_4]), (5, .one (tI v5))]) .normal (stL 23 [(1, .one (tS v1)), (2, .box () [.s .far () 3 (v2_0.map GSession.t), .s .far () 9 (v2_1.map (GPlan.t q0 q0)), .s .far () 5 (v2_2.map (GRun.t q0)), tI v2_3, tI v2_4]), (5, .one (tI (IntKind.wrap .i64 (v5 + (1 : Int)))))]) :=
  Round.path [.val (.int .i64 (v2_1.length : Int)), .b true, .row ((GPlan.t q0 q0) g0), .b false] [fun _ => ((v2_1.map (GPlan.t q0 q0)).length : Int) = (v2_1.length : Int), fun _ => (decide (v5 < (v2_1.length : Int))) = true, fun _ => 0 ≤ v5 ∧ (v2_1.map (GPlan.t q0 q0))[v5.toNat]? = some ((GPlan.t q0 q0) g0), fun _ => (g0.f0.f0.toList == v1.toList) = false] (fun k => by kernel_rfl) ⟨Ev.c lenMap, Ev.c h0, Ev.c (getRow h1), Ev.c h2, trivial⟩
theorem s_PlanAt_R0_2 {q0 : Kd} (v1 : ByteArray) (v2_0 : List GSession) (v2_1 : List GPlan) (v2_2 : List GRun) (v2_3 : Int) (v2_4 : Int) (v5 : Int) (h0 : (decide (v5 < (v2_1.length : Int))) = false) : Round E 13 (lpAt Try.f13 0) (stL 23 [(1, .one (tS v1)), (2, .box () [.s .far () 3 (v2_0.map GSession.t), .s .far () 9 (v2_1.map (GPlan.t q0 q0)), .s .far () 5 (v2_2.map (GRun.t q0)), tI v2_3, tI v2_4]), (5, .one (tI v5))]) (.exit 0) (stL 23 []) :=
  Round.path [.val (.int .i64 (v2_1.length : Int)), .b false] [fun _ => ((v2_1.map (GPlan.t q0 q0)).length : Int) = (v2_1.length : Int), fun _ => (decide (v5 < (v2_1.length : Int))) = false] (fun k => by kernel_rfl) ⟨Ev.c lenMap, Ev.c h0, trivial⟩
noncomputable def s_PlanAt_l0 (v1 : ByteArray) : List GPlan → Nat → Option s_PlanAt_X0
  | [], i => some (.x0)
  | hd :: rest, i => cond (hd.f0.f0.toList == v1.toList)
    (some (.ret (i : Int)))
    (s_PlanAt_l0 v1 rest (i + 1))
theorem s_PlanAt_L0 {q0 : Kd} (v1 : ByteArray) (v2_0 : List GSession) (v2_1 : List GPlan) (v2_2 : List GRun) (v2_3 : Int) (v2_4 : Int) (rest : List GPlan) : ∀ (i : Nat) , (v2_1).drop i = rest → v2_1.length ≤ 9223372036854775807 → Ans (s_PlanAt_l0 v1 rest i) (s_PlanAt_Q0 (q0 := q0) v1 v2_0 v2_1 v2_2 v2_3 v2_4 (i : Int)) := by
  induction rest with
  | nil =>
    intro i hE hl
    have hb := foldEnd hE
    unfold s_PlanAt_l0
    exact Ans.some (Loops.stop (s_PlanAt_R0_2 (q0 := q0) v1 v2_0 v2_1 v2_2 v2_3 v2_4 (i : Int) hb) (by intro h; cases h))
  | cons hd rest ih =>
    intro i hE hl
    have hb := foldMore hE
    have hw := foldNext hE hl
    have hE2 := foldRest hE
    have hg := foldGet hE
    unfold s_PlanAt_l0
    refine Ans.ite (fun h2 => ?_) (fun h2 => ?_)
    · exact Ans.some (Loops.stop (s_PlanAt_R0_0 (q0 := q0) v1 v2_0 v2_1 v2_2 v2_3 v2_4 (i : Int) hd hb hg h2) (by intro h; cases h))
    · exact (ih (i + 1) hE2 hl).mono fun y hy => by
                have r := s_PlanAt_R0_1 (q0 := q0) v1 v2_0 v2_1 v2_2 v2_3 v2_4 (i : Int) hd hb hg h2
                rw [hw] at r
                cases y <;> exact Loops.next r hy
theorem s_PlanAt_P0 {q0 : Kd} (x0 : GBoard) (x1 : ByteArray) (w0_4 : Int) (h0 : Loops E 13 (lpAt Try.f13 0) (stL 23 [(1, .one (tS x1)), (2, .box () [.s .far () 3 (x0.f0.map GSession.t), .s .far () 9 (x0.f1.map (GPlan.t q0 q0)), .s .far () 5 (x0.f2.map (GRun.t q0)), tI x0.f3, tI x0.f4]), (5, .one (tI (0 : Int)))]) .ret (stL 23 [(4, .one (tI w0_4))])) : Does E 13 [.agg (GBoard.t .far q0 x0), .one (tS x1)] [(false, [tI w0_4])] :=
  Does.path (fn := Try.f13) [.lp .ret (stL 23 [(4, .one (tI w0_4))])] [fun k => LoopK E 13 (lpAt Try.f13 0) (stL 23 [(1, .one (tS x1)), (2, .box () [.s .far () 3 (x0.f0.map GSession.t), .s .far () 9 (x0.f1.map (GPlan.t q0 q0)), .s .far () 5 (x0.f2.map (GRun.t q0)), tI x0.f3, tI x0.f4]), (5, .one (tI (0 : Int)))]) .ret (stL 23 [(4, .one (tI w0_4))]) k k] rfl rfl (fun k => by kernel_rfl) ⟨Loops.ev h0, trivial⟩
theorem s_PlanAt_P1 {q0 : Kd} (x0 : GBoard) (x1 : ByteArray) (h0 : Loops E 13 (lpAt Try.f13 0) (stL 23 [(1, .one (tS x1)), (2, .box () [.s .far () 3 (x0.f0.map GSession.t), .s .far () 9 (x0.f1.map (GPlan.t q0 q0)), .s .far () 5 (x0.f2.map (GRun.t q0)), tI x0.f3, tI x0.f4]), (5, .one (tI (0 : Int)))]) (.exit 0) (stL 23 [])) : Does E 13 [.agg (GBoard.t .far q0 x0), .one (tS x1)] [(false, [tI (-1 : Int)])] :=
  Does.path (fn := Try.f13) [.lp (.exit 0) (stL 23 [])] [fun k => LoopK E 13 (lpAt Try.f13 0) (stL 23 [(1, .one (tS x1)), (2, .box () [.s .far () 3 (x0.f0.map GSession.t), .s .far () 9 (x0.f1.map (GPlan.t q0 q0)), .s .far () 5 (x0.f2.map (GRun.t q0)), tI x0.f3, tI x0.f4]), (5, .one (tI (0 : Int)))]) (.exit 0) (stL 23 []) k k] rfl rfl (fun k => by kernel_rfl) ⟨Loops.ev h0, trivial⟩
noncomputable def s_PlanAt_F (x0 : GBoard) (x1 : ByteArray) : Option (Int) :=
    if x0.f1.length ≤ 9223372036854775807 then (s_PlanAt_l0 x1 x0.f1 0).bind fun y => match y with
      | .ret w0_4 => (some (w0_4))
      | .x0 => (some ((-1 : Int))) else none
theorem s_PlanAt_D {q0 : Kd} (x0 : GBoard) (x1 : ByteArray) : Ans (s_PlanAt_F x0 x1) (fun r => Does E 13 [.agg (GBoard.t .far q0 x0), .one (tS x1)] [(false, [tI r])]) := by
  unfold s_PlanAt_F
  refine Ans.pre (fun hl1 => ?_)
  refine Ans.bind (fun y hy => ?_)
  replace hy := s_PlanAt_L0 (q0 := q0) x1 x0.f0 x0.f1 x0.f2 x0.f3 x0.f4 x0.f1 0 rfl hl1 y hy
  cases y with
  | ret w0_4 =>
    have h0 := hy
    exact Ans.some (s_PlanAt_P0 (q0 := q0) x0 x1 w0_4 h0)
  | x0 =>
    have h0 := hy
    exact Ans.some (s_PlanAt_P1 (q0 := q0) x0 x1 h0)
-- loop.example/g00188/impl.PlanAt$1
theorem i_PlanAt_1_P0 {q0 : Kd} (x0 : GPlan) (y0 : ByteArray)  : Does E 42 [.agg (GPlan.t .far q0 x0), .im .far () [tS y0] 0] [(false, [tB (x0.f0.f0.toList == y0.toList)])] :=
  Does.path (fn := Try.f42) [] [] rfl rfl (fun k => by kernel_rfl) trivial
noncomputable def i_PlanAt_1_F (x0 : GPlan) (y0 : ByteArray) : Option (Bool) :=
    some (x0.f0.f0.toList == y0.toList)
theorem i_PlanAt_1_D {q0 : Kd} (x0 : GPlan) (y0 : ByteArray) : Ans (i_PlanAt_1_F x0 y0) (fun r => Does E 42 [.agg (GPlan.t .far q0 x0), .im .far () [tS y0] 0] [(false, [tB r])]) := by
  unfold i_PlanAt_1_F
  exact Ans.some (i_PlanAt_1_P0 (q0 := q0) x0 y0)
def planHas (x : GPlan) (n : ByteArray) : Bool := x.f0.f0.toList == n.toList
theorem T_i_PlanAt_1 {q0 : Kd} (x0 : GPlan) (y0 : ByteArray) : Does E 42 [.agg (GPlan.t .far q0 x0), .im .far () [tS y0] 0] [(false, [tB (planHas x0 y0)])] := by
  exact i_PlanAt_1_D x0 y0 _ rfl
-- slices.IndexFunc[[]loop.example/g00188/impl.Plan,loop.example/g00188/impl.Plan]
inductive slices_IndexFunc_Plan_i_PlanAt_1_X0 where
  | ret (v4 : Int)
  | x0 
def slices_IndexFunc_Plan_i_PlanAt_1_Q0 {q0 : Kd} (v0 : List GPlan) (v1_0_0 : ByteArray) (v7 : Int) (v8 : Int) : slices_IndexFunc_Plan_i_PlanAt_1_X0 → Prop
  | .ret zv4 => Loops E 41 (lpAt Try.f41 0) (stL 19 [(0, .one (.s .far () 9 (v0.map (GPlan.t q0 q0)))), (1, .fni 42 [((), [tS v1_0_0])]), (7, .one (tI v7)), (8, .one (tI v8))]) .ret (stL 19 [(4, .one (tI zv4))])
  | .x0 => Loops E 41 (lpAt Try.f41 0) (stL 19 [(0, .one (.s .far () 9 (v0.map (GPlan.t q0 q0)))), (1, .fni 42 [((), [tS v1_0_0])]), (7, .one (tI v7)), (8, .one (tI v8))]) (.exit 0) (stL 19 [])
theorem slices_IndexFunc_Plan_i_PlanAt_1_R0_0 {q0 : Kd} (v0 : List GPlan) (v1_0_0 : ByteArray) (v7 : Int) (v8 : Int) (g0 : GPlan) (h0 : (decide (v8 < v7)) = true) (h1 : getI v0 v8 = some g0) (h2 : (planHas g0 v1_0_0) = true) : Round E 41 (lpAt Try.f41 0) (stL 19 [(0, .one (.s .far () 9 (v0.map (GPlan.t q0 q0)))), (1, .fni 42 [((), [tS v1_0_0])]), (7, .one (tI v7)), (8, .one (tI v8))]) .ret (stL 19 [(4, .one (tI v8))]) :=
  Round.path [.b true, .row ((GPlan.t q0 q0) g0), .ret [(false, [tB true])]] [fun _ => (decide (v8 < v7)) = true, fun _ => 0 ≤ v8 ∧ (v0.map (GPlan.t q0 q0))[v8.toNat]? = some ((GPlan.t q0 q0) g0), fun k => E.C k 42 [.agg (GPlan.t .far q0 g0), .im .far () [tS v1_0_0] 0] = some [(false, [tB true])]] (fun k => by kernel_rfl) ⟨Ev.c h0, Ev.c (getRow h1), Does.to (T_i_PlanAt_1 g0 v1_0_0) (by rw [h2]), trivial⟩
theorem slices_IndexFunc_Plan_i_PlanAt_1_R0_1 {q0 : Kd} (v0 : List GPlan) (v1_0_0 : ByteArray) (v7 : Int) (v8 : Int) (g0 : GPlan) (h0 : (decide (v8 < v7)) = true) (h1 : getI v0 v8 = some g0) (h2 : (planHas g0 v1_0_0) = false) : Round E 41 (lpAt Try.f41 0) (stL 19 [(0, .one (.s .far () 9 (v0.map (GPlan.t q0 q0)))), (1, .fni 42 [((), [tS v1_0_0])]), (7, .one (tI v7)), (8, .one (tI v8))]) .normal (stL 19 [(0, .one (.s .far () 9 (v0.map (GPlan.t q0 q0)))), (1, .fni 42 [((), [tS v1_0_0])]), (7, .one (tI v7)), (8, .one (tI (IntKind.wrap .i64 (v8 + (1 : Int)))))]) :=
  Round.path [.b true, .row ((GPlan.t q0 q0) g0), .ret [(false, [tB false])]] [fun _ => (decide (v8 < v7)) = true, fun _ => 0 ≤ v8 ∧ (v0.map (GPlan.t q0 q0))[v8.toNat]? = some ((GPlan.t q0 q0) g0), fun k => E.C k 42 [.agg (GPlan.t .far q0 g0), .im .far () [tS v1_0_0] 0] = some [(false, [tB false])]] (fun k => by kernel_rfl) ⟨Ev.c h0, Ev.c (getRow h1), Does.to (T_i_PlanAt_1 g0 v1_0_0) (by rw [h2]), trivial⟩
theorem slices_IndexFunc_Plan_i_PlanAt_1_R0_2 {q0 : Kd} (v0 : List GPlan) (v1_0_0 : ByteArray) (v7 : Int) (v8 : Int) (h0 : (decide (v8 < v7)) = false) : Round E 41 (lpAt Try.f41 0) (stL 19 [(0, .one (.s .far () 9 (v0.map (GPlan.t q0 q0)))), (1, .fni 42 [((), [tS v1_0_0])]), (7, .one (tI v7)), (8, .one (tI v8))]) (.exit 0) (stL 19 []) :=
  Round.path [.b false] [fun _ => (decide (v8 < v7)) = false] (fun k => by kernel_rfl) ⟨Ev.c h0, trivial⟩
noncomputable def slices_IndexFunc_Plan_i_PlanAt_1_l0 (v1_0_0 : ByteArray) : List GPlan → Nat → Option slices_IndexFunc_Plan_i_PlanAt_1_X0
  | [], i => some (.x0)
  | hd :: rest, i => cond (planHas hd v1_0_0)
    (some (.ret (i : Int)))
    (slices_IndexFunc_Plan_i_PlanAt_1_l0 v1_0_0 rest (i + 1))
theorem slices_IndexFunc_Plan_i_PlanAt_1_L0 {q0 : Kd} (v0 : List GPlan) (v1_0_0 : ByteArray) (rest : List GPlan) : ∀ (i : Nat) , (v0).drop i = rest → v0.length ≤ 9223372036854775807 → Ans (slices_IndexFunc_Plan_i_PlanAt_1_l0 v1_0_0 rest i) (slices_IndexFunc_Plan_i_PlanAt_1_Q0 (q0 := q0) v0 v1_0_0 (v0.length : Int) (i : Int)) := by
  induction rest with
  | nil =>
    intro i hE hl
    have hb := foldEnd hE
    unfold slices_IndexFunc_Plan_i_PlanAt_1_l0
    exact Ans.some (Loops.stop (slices_IndexFunc_Plan_i_PlanAt_1_R0_2 (q0 := q0) v0 v1_0_0 (v0.length : Int) (i : Int) hb) (by intro h; cases h))
  | cons hd rest ih =>
    intro i hE hl
    have hb := foldMore hE
    have hw := foldNext hE hl
    have hE2 := foldRest hE
    have hg := foldGet hE
    unfold slices_IndexFunc_Plan_i_PlanAt_1_l0
    refine Ans.ite (fun h2 => ?_) (fun h2 => ?_)
    · exact Ans.some (Loops.stop (slices_IndexFunc_Plan_i_PlanAt_1_R0_0 (q0 := q0) v0 v1_0_0 (v0.length : Int) (i : Int) hd hb hg h2) (by intro h; cases h))
    · exact (ih (i + 1) hE2 hl).mono fun y hy => by
                have r := slices_IndexFunc_Plan_i_PlanAt_1_R0_1 (q0 := q0) v0 v1_0_0 (v0.length : Int) (i : Int) hd hb hg h2
                rw [hw] at r
                cases y <;> exact Loops.next r hy
theorem slices_IndexFunc_Plan_i_PlanAt_1_P0 {q0 : Kd} (x0 : List GPlan) (c1_0 : ByteArray) (w0_4 : Int) (h0 : Loops E 41 (lpAt Try.f41 0) (stL 19 [(0, .one (.s .far () 9 (x0.map (GPlan.t q0 q0)))), (1, .fni 42 [((), [tS c1_0])]), (7, .one (tI (x0.length : Int))), (8, .one (tI (0 : Int)))]) .ret (stL 19 [(4, .one (tI w0_4))])) : Does E 41 [.one (.s .far () 9 (x0.map (GPlan.t q0 q0))), .fni 42 [((), [tS c1_0])]] [(false, [tI w0_4])] :=
  Does.path (fn := Try.f41) [.val (.int .i64 (x0.length : Int)), .lp .ret (stL 19 [(4, .one (tI w0_4))])] [fun _ => ((x0.map (GPlan.t q0 q0)).length : Int) = (x0.length : Int), fun k => LoopK E 41 (lpAt Try.f41 0) (stL 19 [(0, .one (.s .far () 9 (x0.map (GPlan.t q0 q0)))), (1, .fni 42 [((), [tS c1_0])]), (7, .one (tI (x0.length : Int))), (8, .one (tI (0 : Int)))]) .ret (stL 19 [(4, .one (tI w0_4))]) k k] rfl rfl (fun k => by kernel_rfl) ⟨Ev.c lenMap, Loops.ev h0, trivial⟩
theorem slices_IndexFunc_Plan_i_PlanAt_1_P1 {q0 : Kd} (x0 : List GPlan) (c1_0 : ByteArray) (h0 : Loops E 41 (lpAt Try.f41 0) (stL 19 [(0, .one (.s .far () 9 (x0.map (GPlan.t q0 q0)))), (1, .fni 42 [((), [tS c1_0])]), (7, .one (tI (x0.length : Int))), (8, .one (tI (0 : Int)))]) (.exit 0) (stL 19 [])) : Does E 41 [.one (.s .far () 9 (x0.map (GPlan.t q0 q0))), .fni 42 [((), [tS c1_0])]] [(false, [tI (-1 : Int)])] :=
  Does.path (fn := Try.f41) [.val (.int .i64 (x0.length : Int)), .lp (.exit 0) (stL 19 [])] [fun _ => ((x0.map (GPlan.t q0 q0)).length : Int) = (x0.length : Int), fun k => LoopK E 41 (lpAt Try.f41 0) (stL 19 [(0, .one (.s .far () 9 (x0.map (GPlan.t q0 q0)))), (1, .fni 42 [((), [tS c1_0])]), (7, .one (tI (x0.length : Int))), (8, .one (tI (0 : Int)))]) (.exit 0) (stL 19 []) k k] rfl rfl (fun k => by kernel_rfl) ⟨Ev.c lenMap, Loops.ev h0, trivial⟩
noncomputable def slices_IndexFunc_Plan_i_PlanAt_1_F (x0 : List GPlan) (c1_0 : ByteArray) : Option (Int) :=
    if x0.length ≤ 9223372036854775807 then (slices_IndexFunc_Plan_i_PlanAt_1_l0 c1_0 x0 0).bind fun y => match y with
      | .ret w0_4 => (some (w0_4))
      | .x0 => (some ((-1 : Int))) else none
theorem slices_IndexFunc_Plan_i_PlanAt_1_D {q0 : Kd} (x0 : List GPlan) (c1_0 : ByteArray) : Ans (slices_IndexFunc_Plan_i_PlanAt_1_F x0 c1_0) (fun r => Does E 41 [.one (.s .far () 9 (x0.map (GPlan.t q0 q0))), .fni 42 [((), [tS c1_0])]] [(false, [tI r])]) := by
  unfold slices_IndexFunc_Plan_i_PlanAt_1_F
  refine Ans.pre (fun hl1 => ?_)
  refine Ans.bind (fun y hy => ?_)
  replace hy := slices_IndexFunc_Plan_i_PlanAt_1_L0 (q0 := q0) x0 c1_0 x0 0 rfl hl1 y hy
  cases y with
  | ret w0_4 =>
    have h0 := hy
    exact Ans.some (slices_IndexFunc_Plan_i_PlanAt_1_P0 (q0 := q0) x0 c1_0 w0_4 h0)
  | x0 =>
    have h0 := hy
    exact Ans.some (slices_IndexFunc_Plan_i_PlanAt_1_P1 (q0 := q0) x0 c1_0 h0)
noncomputable def planIdx (l : List GPlan) (n : ByteArray) : Int := (slices_IndexFunc_Plan_i_PlanAt_1_F l n).getD (-1)
noncomputable def planAt (b : GBoard) (n : ByteArray) : Int := planIdx b.f1 n
theorem plan_l (n : ByteArray) : ∀ (rest : List GPlan) (i : Nat),
    (∃ k : Nat, s_PlanAt_l0 n rest i = some (.ret (k : Int)) ∧ slices_IndexFunc_Plan_i_PlanAt_1_l0 n rest i = some (.ret (k : Int)) ∧ k < i + rest.length) ∨ s_PlanAt_l0 n rest i = some .x0 ∧ slices_IndexFunc_Plan_i_PlanAt_1_l0 n rest i = some .x0
  | [], i => .inr ⟨rfl, rfl⟩
  | x :: rest, i => by
    unfold s_PlanAt_l0 slices_IndexFunc_Plan_i_PlanAt_1_l0 planHas
    cases x.f0.f0.toList == n.toList with
    | true => exact .inl ⟨i, rfl, rfl, by simp⟩
    | false =>
      rcases plan_l n rest (i + 1) with ⟨k, h1, h2, h3⟩ | h
      · exact .inl ⟨k, h1, h2, by simp; omega⟩
      · exact .inr h
theorem plan_ok (b : GBoard) (n : ByteArray) (h : b.f1.length ≤ 1050000) : s_PlanAt_F b n = some (planAt b n) ∧ slices_IndexFunc_Plan_i_PlanAt_1_F b.f1 n = some (planAt b n) ∧ -1 ≤ planAt b n ∧ planAt b n < (b.f1.length : Int) := by
  unfold planAt planIdx s_PlanAt_F slices_IndexFunc_Plan_i_PlanAt_1_F
  rw [if_pos (by omega), if_pos (by omega)]
  rcases plan_l n b.f1 0 with ⟨k, h1, h2, h3⟩ | ⟨h1, h2⟩
  · rw [h1, h2]; exact ⟨rfl, rfl, show (-1 : Int) ≤ (k : Int) by omega, show (k : Int) < _ by omega⟩
  · rw [h1, h2]; exact ⟨rfl, rfl, show (-1 : Int) ≤ -1 by omega, show (-1 : Int) < _ by omega⟩
theorem T_s_PlanAt {q0 : Kd} (x0 : GBoard) (x1 : ByteArray) (h : Small.sm x0) : Does E 13 [.agg (GBoard.t .far q0 x0), .one (tS x1)] [(false, [tI (planAt x0 x1)])] := by
  exact s_PlanAt_D x0 x1 _ (plan_ok x0 x1 h.2.1.1).1
theorem T_slices_IndexFunc_Plan_i_PlanAt_1 {q0 : Kd} (x0 : List GPlan) (c1_0 : ByteArray) (h : x0.length ≤ 1050000) : Does E 41 [.one (.s .far () 9 (x0.map (GPlan.t q0 q0))), .fni 42 [((), [tS c1_0])]] [(false, [tI (planIdx x0 c1_0)])] := by
  exact slices_IndexFunc_Plan_i_PlanAt_1_D x0 c1_0 _ (plan_ok ⟨[], x0, [], 0, 0⟩ c1_0 h).2.1
-- loop.example/g00188/impl.PlanAt
theorem i_PlanAt_P0 {q0 : Kd} (x0 : GBoard) (x1 : ByteArray) (h0 : x0.f1.length ≤ 1050000) : Does E 15 [.agg (GBoard.t .far q0 x0), .one (tS x1)] [(false, [tI (planIdx x0.f1 x1)])] :=
  Does.path (fn := Try.f15) [.ret [(false, [tI (planIdx x0.f1 x1)])]] [fun k => E.C k 41 [.one (.s .far () 9 (x0.f1.map (GPlan.t q0 q0))), .fni 42 [((), [tS x1])]] = some [(false, [tI (planIdx x0.f1 x1)])]] rfl rfl (fun k => by kernel_rfl) ⟨T_slices_IndexFunc_Plan_i_PlanAt_1 x0.f1 x1 h0, trivial⟩
noncomputable def i_PlanAt_F (x0 : GBoard) (x1 : ByteArray) : Option (Int) :=
    if x0.f1.length ≤ 1050000 then some (planIdx x0.f1 x1) else none
theorem i_PlanAt_D {q0 : Kd} (x0 : GBoard) (x1 : ByteArray) : Ans (i_PlanAt_F x0 x1) (fun r => Does E 15 [.agg (GBoard.t .far q0 x0), .one (tS x1)] [(false, [tI r])]) := by
  unfold i_PlanAt_F
  refine Ans.pre (fun h0 => ?_)
  exact Ans.some (i_PlanAt_P0 (q0 := q0) x0 x1 h0)
theorem T_i_PlanAt {q0 : Kd} (x0 : GBoard) (x1 : ByteArray) (h : Small.sm x0) : Does E 15 [.agg (GBoard.t .far q0 x0), .one (tS x1)] [(false, [tI (planAt x0 x1)])] := by
  exact i_PlanAt_D x0 x1 _ (by unfold i_PlanAt_F; rw [if_pos h.2.1.1]; rfl)
end Go.Proofs.Ytohlonlaadmikaa.Am
namespace Go.Proofs.Ytohlonlaadmikaa.Am
set_option linter.unusedVariables false
set_option linter.unusedSimpArgs false
open Go Go.Proofs Classical
set_option maxRecDepth 100000
set_option linter.unusedVariables false
set_option linter.unusedSimpArgs false
-- loop.example/g00188/laws.FnExactPlanAt
theorem l_FnExactPlanAt_P0 {q0 : Kd} (x0 : LBoard) (x1 : ByteArray) (h0 : (decide ((x1.size : Int) > (1048576 : Int))) = true) : Does E 3 [.agg (LBoard.t .far q0 x0), .one (tS x1)] [(false, [tB true])] :=
  Does.path (fn := Try.f3) [.b true] [fun _ => (decide ((x1.size : Int) > (1048576 : Int))) = true] rfl rfl (fun k => by kernel_rfl) ⟨Ev.c h0, trivial⟩
theorem l_FnExactPlanAt_P1 {q0 : Kd} (x0 : LBoard) (x1 : ByteArray) (h0 : (decide ((x1.size : Int) > (1048576 : Int))) = false) (h1 : Wf.wf x0) (h2 : (decide ((p_l_szBoard x0 (1048576 : Int)) < (0 : Int))) = true) : Does E 3 [.agg (LBoard.t .far q0 x0), .one (tS x1)] [(false, [tB true])] :=
  Does.path (fn := Try.f3) [.b false, .ret [(false, [tI (p_l_szBoard x0 (1048576 : Int))])], .b true] [fun _ => (decide ((x1.size : Int) > (1048576 : Int))) = false, fun k => E.C k 12 [.agg (LBoard.t .far q0 x0), .one (tI (1048576 : Int))] = some [(false, [tI (p_l_szBoard x0 (1048576 : Int))])], fun _ => (decide ((p_l_szBoard x0 (1048576 : Int)) < (0 : Int))) = true] rfl rfl (fun k => by kernel_rfl) ⟨Ev.c h0, T_l_szBoard x0 (1048576 : Int) h1, Ev.c h2, trivial⟩
theorem l_FnExactPlanAt_P2 {q0 : Kd} (x0 : LBoard) (x1 : ByteArray) (h0 : (decide ((x1.size : Int) > (1048576 : Int))) = false) (h1 : Wf.wf x0) (h2 : (decide ((p_l_szBoard x0 (1048576 : Int)) < (0 : Int))) = false) (h3 : Small.sm x0) (h4 : Small.sm (p_l_toBoard x0)) (h5 : ((planAt (p_l_toBoard x0) x1) != (planAt (p_l_toBoard x0) x1)) = true) : Does E 3 [.agg (LBoard.t .far q0 x0), .one (tS x1)] [(false, [tB false])] :=
  Does.path (fn := Try.f3) [.b false, .ret [(false, [tI (p_l_szBoard x0 (1048576 : Int))])], .b false, .ret [(true, GBoard.t .own .own (p_l_toBoard x0))], .ret [(false, [tI (planAt (p_l_toBoard x0) x1)])], .ret [(true, GBoard.t .own .own (p_l_toBoard x0))], .ret [(false, [tI (planAt (p_l_toBoard x0) x1)])], .b true] [fun _ => (decide ((x1.size : Int) > (1048576 : Int))) = false, fun k => E.C k 12 [.agg (LBoard.t .far q0 x0), .one (tI (1048576 : Int))] = some [(false, [tI (p_l_szBoard x0 (1048576 : Int))])], fun _ => (decide ((p_l_szBoard x0 (1048576 : Int)) < (0 : Int))) = false, fun k => E.C k 14 [.agg (LBoard.t .far q0 x0)] = some [(true, GBoard.t .own .own (p_l_toBoard x0))], fun k => E.C k 13 [.agg (GBoard.t .far .own (p_l_toBoard x0)), .one (tS x1)] = some [(false, [tI (planAt (p_l_toBoard x0) x1)])], fun k => E.C k 14 [.agg (LBoard.t .far q0 x0)] = some [(true, GBoard.t .own .own (p_l_toBoard x0))], fun k => E.C k 15 [.agg (GBoard.t .far .own (p_l_toBoard x0)), .one (tS x1)] = some [(false, [tI (planAt (p_l_toBoard x0) x1)])], fun _ => ((planAt (p_l_toBoard x0) x1) != (planAt (p_l_toBoard x0) x1)) = true] rfl rfl (fun k => by kernel_rfl) ⟨Ev.c h0, T_l_szBoard x0 (1048576 : Int) h1, Ev.c h2, T_l_toBoard x0 h3, T_s_PlanAt (p_l_toBoard x0) x1 h4, T_l_toBoard x0 h3, T_i_PlanAt (p_l_toBoard x0) x1 h4, Ev.c h5, trivial⟩
theorem l_FnExactPlanAt_P3 {q0 : Kd} (x0 : LBoard) (x1 : ByteArray) (h0 : (decide ((x1.size : Int) > (1048576 : Int))) = false) (h1 : Wf.wf x0) (h2 : (decide ((p_l_szBoard x0 (1048576 : Int)) < (0 : Int))) = false) (h3 : Small.sm x0) (h4 : Small.sm (p_l_toBoard x0)) (h5 : ((planAt (p_l_toBoard x0) x1) != (planAt (p_l_toBoard x0) x1)) = false) (h6 : (p_l_toBoard x0) = (p_l_toBoard x0)) (h7 : (yes (p_l_toBoard x0) (p_l_toBoard x0)) = true) : Does E 3 [.agg (LBoard.t .far q0 x0), .one (tS x1)] [(false, [tB true])] :=
  Does.path (fn := Try.f3) [.b false, .ret [(false, [tI (p_l_szBoard x0 (1048576 : Int))])], .b false, .ret [(true, GBoard.t .own .own (p_l_toBoard x0))], .ret [(false, [tI (planAt (p_l_toBoard x0) x1)])], .ret [(true, GBoard.t .own .own (p_l_toBoard x0))], .ret [(false, [tI (planAt (p_l_toBoard x0) x1)])], .b false, .ret [(true, GBoard.t .own .own (p_l_toBoard x0))], .ret [(false, [tB true])]] [fun _ => (decide ((x1.size : Int) > (1048576 : Int))) = false, fun k => E.C k 12 [.agg (LBoard.t .far q0 x0), .one (tI (1048576 : Int))] = some [(false, [tI (p_l_szBoard x0 (1048576 : Int))])], fun _ => (decide ((p_l_szBoard x0 (1048576 : Int)) < (0 : Int))) = false, fun k => E.C k 14 [.agg (LBoard.t .far q0 x0)] = some [(true, GBoard.t .own .own (p_l_toBoard x0))], fun k => E.C k 13 [.agg (GBoard.t .far .own (p_l_toBoard x0)), .one (tS x1)] = some [(false, [tI (planAt (p_l_toBoard x0) x1)])], fun k => E.C k 14 [.agg (LBoard.t .far q0 x0)] = some [(true, GBoard.t .own .own (p_l_toBoard x0))], fun k => E.C k 15 [.agg (GBoard.t .far .own (p_l_toBoard x0)), .one (tS x1)] = some [(false, [tI (planAt (p_l_toBoard x0) x1)])], fun _ => ((planAt (p_l_toBoard x0) x1) != (planAt (p_l_toBoard x0) x1)) = false, fun k => E.C k 14 [.agg (LBoard.t .far q0 x0)] = some [(true, GBoard.t .own .own (p_l_toBoard x0))], fun k => E.C k 16 [.agg (GBoard.t .far .own (p_l_toBoard x0)), .agg (GBoard.t .far .own (p_l_toBoard x0))] = some [(false, [tB true])]] rfl rfl (fun k => by kernel_rfl) ⟨Ev.c h0, T_l_szBoard x0 (1048576 : Int) h1, Ev.c h2, T_l_toBoard x0 h3, T_s_PlanAt (p_l_toBoard x0) x1 h4, T_l_toBoard x0 h3, T_i_PlanAt (p_l_toBoard x0) x1 h4, Ev.c h5, T_l_toBoard x0 h3, Does.to (T_l_eqBoard (p_l_toBoard x0) (p_l_toBoard x0) h6 h4) (by rw [h7]), trivial⟩
theorem l_FnExactPlanAt_P4 {q0 : Kd} (x0 : LBoard) (x1 : ByteArray) (h0 : (decide ((x1.size : Int) > (1048576 : Int))) = false) (h1 : Wf.wf x0) (h2 : (decide ((p_l_szBoard x0 (1048576 : Int)) < (0 : Int))) = false) (h3 : Small.sm x0) (h4 : Small.sm (p_l_toBoard x0)) (h5 : ((planAt (p_l_toBoard x0) x1) != (planAt (p_l_toBoard x0) x1)) = false) (h6 : (p_l_toBoard x0) = (p_l_toBoard x0)) (h7 : (yes (p_l_toBoard x0) (p_l_toBoard x0)) = false) : Does E 3 [.agg (LBoard.t .far q0 x0), .one (tS x1)] [(false, [tB false])] :=
  Does.path (fn := Try.f3) [.b false, .ret [(false, [tI (p_l_szBoard x0 (1048576 : Int))])], .b false, .ret [(true, GBoard.t .own .own (p_l_toBoard x0))], .ret [(false, [tI (planAt (p_l_toBoard x0) x1)])], .ret [(true, GBoard.t .own .own (p_l_toBoard x0))], .ret [(false, [tI (planAt (p_l_toBoard x0) x1)])], .b false, .ret [(true, GBoard.t .own .own (p_l_toBoard x0))], .ret [(false, [tB false])]] [fun _ => (decide ((x1.size : Int) > (1048576 : Int))) = false, fun k => E.C k 12 [.agg (LBoard.t .far q0 x0), .one (tI (1048576 : Int))] = some [(false, [tI (p_l_szBoard x0 (1048576 : Int))])], fun _ => (decide ((p_l_szBoard x0 (1048576 : Int)) < (0 : Int))) = false, fun k => E.C k 14 [.agg (LBoard.t .far q0 x0)] = some [(true, GBoard.t .own .own (p_l_toBoard x0))], fun k => E.C k 13 [.agg (GBoard.t .far .own (p_l_toBoard x0)), .one (tS x1)] = some [(false, [tI (planAt (p_l_toBoard x0) x1)])], fun k => E.C k 14 [.agg (LBoard.t .far q0 x0)] = some [(true, GBoard.t .own .own (p_l_toBoard x0))], fun k => E.C k 15 [.agg (GBoard.t .far .own (p_l_toBoard x0)), .one (tS x1)] = some [(false, [tI (planAt (p_l_toBoard x0) x1)])], fun _ => ((planAt (p_l_toBoard x0) x1) != (planAt (p_l_toBoard x0) x1)) = false, fun k => E.C k 14 [.agg (LBoard.t .far q0 x0)] = some [(true, GBoard.t .own .own (p_l_toBoard x0))], fun k => E.C k 16 [.agg (GBoard.t .far .own (p_l_toBoard x0)), .agg (GBoard.t .far .own (p_l_toBoard x0))] = some [(false, [tB false])]] rfl rfl (fun k => by kernel_rfl) ⟨Ev.c h0, T_l_szBoard x0 (1048576 : Int) h1, Ev.c h2, T_l_toBoard x0 h3, T_s_PlanAt (p_l_toBoard x0) x1 h4, T_l_toBoard x0 h3, T_i_PlanAt (p_l_toBoard x0) x1 h4, Ev.c h5, T_l_toBoard x0 h3, Does.to (T_l_eqBoard (p_l_toBoard x0) (p_l_toBoard x0) h6 h4) (by rw [h7]), trivial⟩
noncomputable def l_FnExactPlanAt_F (x0 : LBoard) (x1 : ByteArray) : Option (Bool) :=
    cond (decide ((x1.size : Int) > (1048576 : Int)))
      (some (true))
      (if Wf.wf x0 then cond (decide ((p_l_szBoard x0 (1048576 : Int)) < (0 : Int)))
        (some (true))
        (if Small.sm x0 then if Small.sm (p_l_toBoard x0) then cond ((planAt (p_l_toBoard x0) x1) != (planAt (p_l_toBoard x0) x1))
          (some (false))
          (if (p_l_toBoard x0) = (p_l_toBoard x0) then cond (yes (p_l_toBoard x0) (p_l_toBoard x0))
            (some (true))
            (some (false)) else none) else none else none) else none)
theorem l_FnExactPlanAt_D {q0 : Kd} (x0 : LBoard) (x1 : ByteArray) : Ans (l_FnExactPlanAt_F x0 x1) (fun r => Does E 3 [.agg (LBoard.t .far q0 x0), .one (tS x1)] [(false, [tB r])]) := by
  unfold l_FnExactPlanAt_F
  refine Ans.ite (fun h0 => ?_) (fun h0 => ?_)
  · exact Ans.some (l_FnExactPlanAt_P0 (q0 := q0) x0 x1 h0)
  · refine Ans.pre (fun h1 => ?_)
    refine Ans.ite (fun h2 => ?_) (fun h2 => ?_)
    · exact Ans.some (l_FnExactPlanAt_P1 (q0 := q0) x0 x1 h0 h1 h2)
    · refine Ans.pre (fun h3 => ?_)
      refine Ans.pre (fun h4 => ?_)
      refine Ans.ite (fun h5 => ?_) (fun h5 => ?_)
      · exact Ans.some (l_FnExactPlanAt_P2 (q0 := q0) x0 x1 h0 h1 h2 h3 h4 h5)
      · refine Ans.pre (fun h6 => ?_)
        refine Ans.ite (fun h7 => ?_) (fun h7 => ?_)
        · exact Ans.some (l_FnExactPlanAt_P3 (q0 := q0) x0 x1 h0 h1 h2 h3 h4 h5 h6 h7)
        · exact Ans.some (l_FnExactPlanAt_P4 (q0 := q0) x0 x1 h0 h1 h2 h3 h4 h5 h6 h7)
theorem T_law_PlanAt {q0 : Kd} (x0 : LBoard) (x1 : ByteArray) (h : Wf.wf x0) : Does E 3 [.agg (LBoard.t .far q0 x0), .one (tS x1)] [(false, [tB true])] := by
  have hs := le_l_szBoard x0 1048576 h (by omega) (by omega)
  exact l_FnExactPlanAt_D x0 x1 _ (by
    unfold l_FnExactPlanAt_F
    refine lawCond fun _ => ?_
    refine lawPre h (lawSz fun q => ?_)
    have hs := (hs q).2
    have ht := sm_l_toBoard hs
    simp [hs, ht, yes])
end Go.Proofs.Ytohlonlaadmikaa.Am
