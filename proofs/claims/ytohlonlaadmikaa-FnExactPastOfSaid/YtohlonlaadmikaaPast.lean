/- What the functions of PastOf do. Conditions: none. -/
import Derived.Test.YtohlonlaadmikaaBoards
namespace Go.Proofs.Ytohlonlaadmikaa.Am
set_option linter.unusedVariables false
set_option linter.unusedSimpArgs false
open Go Go.Proofs Classical
set_option maxRecDepth 100000
set_option linter.unusedVariables false
set_option linter.unusedSimpArgs false
-- loop.example/g00188/spec.PastOf
theorem s_PastOf_P0 {q0 : Kd} (x0 : GBoard) (x1 : Int) (x2 : Int) (h0 : (inRange x1 (0 : Int) (IntKind.wrap .i64 ((x0.f2.length : Int) - (1 : Int)))) = true) (h1 : (x1 == (0 : Int)) = true) : Does E 21 [.agg (GBoard.t .far q0 x0), .one (tI x1), .one (tI x2)] [(false, [tB true])] :=
  Does.path (fn := Try.f21) [.val (.int .i64 (x0.f2.length : Int)), .ret [(false, [tB true])], .b true] [fun _ => ((x0.f2.map (GRun.t q0)).length : Int) = (x0.f2.length : Int), fun k => E.C k 48 [.one (tI x1), .one (tI (0 : Int)), .one (tI (IntKind.wrap .i64 ((x0.f2.length : Int) - (1 : Int))))] = some [(false, [tB true])], fun _ => (x1 == (0 : Int)) = true] rfl rfl (fun k => by kernel_rfl) ⟨Ev.c lenMap, Does.to (T_s_l01In x1 (0 : Int) (IntKind.wrap .i64 ((x0.f2.length : Int) - (1 : Int)))) (by rw [h0]), Ev.c h1, trivial⟩
theorem s_PastOf_P1 {q0 : Kd} (x0 : GBoard) (x1 : Int) (x2 : Int) (g0 : GRun) (g1 : GRun) (h0 : (inRange x1 (0 : Int) (IntKind.wrap .i64 ((x0.f2.length : Int) - (1 : Int)))) = true) (h1 : (x1 == (0 : Int)) = false) (h2 : getI x0.f2 (IntKind.wrap .i64 (x1 - (1 : Int))) = some g0) (h3 : getI x0.f2 x1 = some g1) (h4 : (!(g0.f0.toList == g1.f0.toList)) = true) : Does E 21 [.agg (GBoard.t .far q0 x0), .one (tI x1), .one (tI x2)] [(false, [tB true])] :=
  Does.path (fn := Try.f21) [.val (.int .i64 (x0.f2.length : Int)), .ret [(false, [tB true])], .b false, .row ((GRun.t q0) g0), .row ((GRun.t q0) g1), .b true] [fun _ => ((x0.f2.map (GRun.t q0)).length : Int) = (x0.f2.length : Int), fun k => E.C k 48 [.one (tI x1), .one (tI (0 : Int)), .one (tI (IntKind.wrap .i64 ((x0.f2.length : Int) - (1 : Int))))] = some [(false, [tB true])], fun _ => (x1 == (0 : Int)) = false, fun _ => 0 ≤ (IntKind.wrap .i64 (x1 - (1 : Int))) ∧ (x0.f2.map (GRun.t q0))[(IntKind.wrap .i64 (x1 - (1 : Int))).toNat]? = some ((GRun.t q0) g0), fun _ => 0 ≤ x1 ∧ (x0.f2.map (GRun.t q0))[x1.toNat]? = some ((GRun.t q0) g1), fun _ => (!(g0.f0.toList == g1.f0.toList)) = true] rfl rfl (fun k => by kernel_rfl) ⟨Ev.c lenMap, Does.to (T_s_l01In x1 (0 : Int) (IntKind.wrap .i64 ((x0.f2.length : Int) - (1 : Int)))) (by rw [h0]), Ev.c h1, Ev.c (getRow h2), Ev.c (getRow h3), Ev.c h4, trivial⟩
theorem s_PastOf_P2 {q0 : Kd} (x0 : GBoard) (x1 : Int) (x2 : Int) (g0 : GRun) (g1 : GRun) (g2 : GState) (h0 : (inRange x1 (0 : Int) (IntKind.wrap .i64 ((x0.f2.length : Int) - (1 : Int)))) = true) (h1 : (x1 == (0 : Int)) = false) (h2 : getI x0.f2 (IntKind.wrap .i64 (x1 - (1 : Int))) = some g0) (h3 : getI x0.f2 x1 = some g1) (h4 : (!(g0.f0.toList == g1.f0.toList)) = false) (h5 : (inRange x2 (0 : Int) (IntKind.wrap .i64 ((g0.f3.length : Int) - (1 : Int)))) = true) (h6 : getI g0.f3 x2 = some g2) : Does E 21 [.agg (GBoard.t .far q0 x0), .one (tI x1), .one (tI x2)] [(false, [tB (g2.f0 == (2 : Int))])] :=
  Does.path (fn := Try.f21) [.val (.int .i64 (x0.f2.length : Int)), .ret [(false, [tB true])], .b false, .row ((GRun.t q0) g0), .row ((GRun.t q0) g1), .b false, .row ((GRun.t q0) g0), .val (.int .i64 (g0.f3.length : Int)), .ret [(false, [tB true])], .row (GState.t g2)] [fun _ => ((x0.f2.map (GRun.t q0)).length : Int) = (x0.f2.length : Int), fun k => E.C k 48 [.one (tI x1), .one (tI (0 : Int)), .one (tI (IntKind.wrap .i64 ((x0.f2.length : Int) - (1 : Int))))] = some [(false, [tB true])], fun _ => (x1 == (0 : Int)) = false, fun _ => 0 ≤ (IntKind.wrap .i64 (x1 - (1 : Int))) ∧ (x0.f2.map (GRun.t q0))[(IntKind.wrap .i64 (x1 - (1 : Int))).toNat]? = some ((GRun.t q0) g0), fun _ => 0 ≤ x1 ∧ (x0.f2.map (GRun.t q0))[x1.toNat]? = some ((GRun.t q0) g1), fun _ => (!(g0.f0.toList == g1.f0.toList)) = false, fun _ => 0 ≤ (IntKind.wrap .i64 (x1 - (1 : Int))) ∧ (x0.f2.map (GRun.t q0))[(IntKind.wrap .i64 (x1 - (1 : Int))).toNat]? = some ((GRun.t q0) g0), fun _ => ((g0.f3.map GState.t).length : Int) = (g0.f3.length : Int), fun k => E.C k 48 [.one (tI x2), .one (tI (0 : Int)), .one (tI (IntKind.wrap .i64 ((g0.f3.length : Int) - (1 : Int))))] = some [(false, [tB true])], fun _ => 0 ≤ x2 ∧ (g0.f3.map GState.t)[x2.toNat]? = some (GState.t g2)] rfl rfl (fun k => by kernel_rfl) ⟨Ev.c lenMap, Does.to (T_s_l01In x1 (0 : Int) (IntKind.wrap .i64 ((x0.f2.length : Int) - (1 : Int)))) (by rw [h0]), Ev.c h1, Ev.c (getRow h2), Ev.c (getRow h3), Ev.c h4, Ev.c (getRow h2), Ev.c lenMap, Does.to (T_s_l01In x2 (0 : Int) (IntKind.wrap .i64 ((g0.f3.length : Int) - (1 : Int)))) (by rw [h5]), Ev.c (getRow h6), trivial⟩
theorem s_PastOf_P3 {q0 : Kd} (x0 : GBoard) (x1 : Int) (x2 : Int) (g0 : GRun) (g1 : GRun) (h0 : (inRange x1 (0 : Int) (IntKind.wrap .i64 ((x0.f2.length : Int) - (1 : Int)))) = true) (h1 : (x1 == (0 : Int)) = false) (h2 : getI x0.f2 (IntKind.wrap .i64 (x1 - (1 : Int))) = some g0) (h3 : getI x0.f2 x1 = some g1) (h4 : (!(g0.f0.toList == g1.f0.toList)) = false) (h5 : (inRange x2 (0 : Int) (IntKind.wrap .i64 ((g0.f3.length : Int) - (1 : Int)))) = false) : Does E 21 [.agg (GBoard.t .far q0 x0), .one (tI x1), .one (tI x2)] [(false, [tB false])] :=
  Does.path (fn := Try.f21) [.val (.int .i64 (x0.f2.length : Int)), .ret [(false, [tB true])], .b false, .row ((GRun.t q0) g0), .row ((GRun.t q0) g1), .b false, .row ((GRun.t q0) g0), .val (.int .i64 (g0.f3.length : Int)), .ret [(false, [tB false])]] [fun _ => ((x0.f2.map (GRun.t q0)).length : Int) = (x0.f2.length : Int), fun k => E.C k 48 [.one (tI x1), .one (tI (0 : Int)), .one (tI (IntKind.wrap .i64 ((x0.f2.length : Int) - (1 : Int))))] = some [(false, [tB true])], fun _ => (x1 == (0 : Int)) = false, fun _ => 0 ≤ (IntKind.wrap .i64 (x1 - (1 : Int))) ∧ (x0.f2.map (GRun.t q0))[(IntKind.wrap .i64 (x1 - (1 : Int))).toNat]? = some ((GRun.t q0) g0), fun _ => 0 ≤ x1 ∧ (x0.f2.map (GRun.t q0))[x1.toNat]? = some ((GRun.t q0) g1), fun _ => (!(g0.f0.toList == g1.f0.toList)) = false, fun _ => 0 ≤ (IntKind.wrap .i64 (x1 - (1 : Int))) ∧ (x0.f2.map (GRun.t q0))[(IntKind.wrap .i64 (x1 - (1 : Int))).toNat]? = some ((GRun.t q0) g0), fun _ => ((g0.f3.map GState.t).length : Int) = (g0.f3.length : Int), fun k => E.C k 48 [.one (tI x2), .one (tI (0 : Int)), .one (tI (IntKind.wrap .i64 ((g0.f3.length : Int) - (1 : Int))))] = some [(false, [tB false])]] rfl rfl (fun k => by kernel_rfl) ⟨Ev.c lenMap, Does.to (T_s_l01In x1 (0 : Int) (IntKind.wrap .i64 ((x0.f2.length : Int) - (1 : Int)))) (by rw [h0]), Ev.c h1, Ev.c (getRow h2), Ev.c (getRow h3), Ev.c h4, Ev.c (getRow h2), Ev.c lenMap, Does.to (T_s_l01In x2 (0 : Int) (IntKind.wrap .i64 ((g0.f3.length : Int) - (1 : Int)))) (by rw [h5]), trivial⟩
theorem s_PastOf_P4 {q0 : Kd} (x0 : GBoard) (x1 : Int) (x2 : Int) (h0 : (inRange x1 (0 : Int) (IntKind.wrap .i64 ((x0.f2.length : Int) - (1 : Int)))) = false) : Does E 21 [.agg (GBoard.t .far q0 x0), .one (tI x1), .one (tI x2)] [(false, [tB false])] :=
  Does.path (fn := Try.f21) [.val (.int .i64 (x0.f2.length : Int)), .ret [(false, [tB false])]] [fun _ => ((x0.f2.map (GRun.t q0)).length : Int) = (x0.f2.length : Int), fun k => E.C k 48 [.one (tI x1), .one (tI (0 : Int)), .one (tI (IntKind.wrap .i64 ((x0.f2.length : Int) - (1 : Int))))] = some [(false, [tB false])]] rfl rfl (fun k => by kernel_rfl) ⟨Ev.c lenMap, Does.to (T_s_l01In x1 (0 : Int) (IntKind.wrap .i64 ((x0.f2.length : Int) - (1 : Int)))) (by rw [h0]), trivial⟩
noncomputable def s_PastOf_F (x0 : GBoard) (x1 : Int) (x2 : Int) : Option (Bool) :=
    cond (inRange x1 (0 : Int) (IntKind.wrap .i64 ((x0.f2.length : Int) - (1 : Int))))
      (cond (x1 == (0 : Int))
        (some (true))
        ((getI x0.f2 (IntKind.wrap .i64 (x1 - (1 : Int)))).bind fun g0 => (getI x0.f2 x1).bind fun g1 => cond (!(g0.f0.toList == g1.f0.toList))
          (some (true))
          (cond (inRange x2 (0 : Int) (IntKind.wrap .i64 ((g0.f3.length : Int) - (1 : Int))))
            ((getI g0.f3 x2).bind fun g2 => some (g2.f0 == (2 : Int)))
            (some (false)))))
      (some (false))
theorem s_PastOf_D {q0 : Kd} (x0 : GBoard) (x1 : Int) (x2 : Int) : Ans (s_PastOf_F x0 x1 x2) (fun r => Does E 21 [.agg (GBoard.t .far q0 x0), .one (tI x1), .one (tI x2)] [(false, [tB r])]) := by
  unfold s_PastOf_F
  refine Ans.ite (fun h0 => ?_) (fun h0 => ?_)
  · refine Ans.ite (fun h1 => ?_) (fun h1 => ?_)
    · exact Ans.some (s_PastOf_P0 (q0 := q0) x0 x1 x2 h0 h1)
    · refine Ans.bind (fun g0 h2 => ?_)
      refine Ans.bind (fun g1 h3 => ?_)
      refine Ans.ite (fun h4 => ?_) (fun h4 => ?_)
      · exact Ans.some (s_PastOf_P1 (q0 := q0) x0 x1 x2 g0 g1 h0 h1 h2 h3 h4)
      · refine Ans.ite (fun h5 => ?_) (fun h5 => ?_)
        · refine Ans.bind (fun g2 h6 => ?_)
          exact Ans.some (s_PastOf_P2 (q0 := q0) x0 x1 x2 g0 g1 g2 h0 h1 h2 h3 h4 h5 h6)
        · exact Ans.some (s_PastOf_P3 (q0 := q0) x0 x1 x2 g0 g1 h0 h1 h2 h3 h4 h5)
  · exact Ans.some (s_PastOf_P4 (q0 := q0) x0 x1 x2 h0)
-- loop.example/g00188/impl.PastOf
theorem i_PastOf_P0 {q0 : Kd} (x0 : GBoard) (x1 : Int) (x2 : Int) (h0 : (inRange x1 (0 : Int) (IntKind.wrap .i64 ((x0.f2.length : Int) - (1 : Int)))) = true) (h1 : (x1 == (0 : Int)) = true) : Does E 22 [.agg (GBoard.t .far q0 x0), .one (tI x1), .one (tI x2)] [(false, [tB true])] :=
  Does.path (fn := Try.f22) [.val (.int .i64 (x0.f2.length : Int)), .ret [(false, [tB true])], .b true] [fun _ => ((x0.f2.map (GRun.t q0)).length : Int) = (x0.f2.length : Int), fun k => E.C k 49 [.one (tI x1), .one (tI (0 : Int)), .one (tI (IntKind.wrap .i64 ((x0.f2.length : Int) - (1 : Int))))] = some [(false, [tB true])], fun _ => (x1 == (0 : Int)) = true] rfl rfl (fun k => by kernel_rfl) ⟨Ev.c lenMap, Does.to (T_i_inRange x1 (0 : Int) (IntKind.wrap .i64 ((x0.f2.length : Int) - (1 : Int)))) (by rw [h0]), Ev.c h1, trivial⟩
theorem i_PastOf_P1 {q0 : Kd} (x0 : GBoard) (x1 : Int) (x2 : Int) (g0 : GRun) (g1 : GRun) (h0 : (inRange x1 (0 : Int) (IntKind.wrap .i64 ((x0.f2.length : Int) - (1 : Int)))) = true) (h1 : (x1 == (0 : Int)) = false) (h2 : getI x0.f2 (IntKind.wrap .i64 (x1 - (1 : Int))) = some g0) (h3 : getI x0.f2 x1 = some g1) (h4 : (!(g0.f0.toList == g1.f0.toList)) = true) : Does E 22 [.agg (GBoard.t .far q0 x0), .one (tI x1), .one (tI x2)] [(false, [tB true])] :=
  Does.path (fn := Try.f22) [.val (.int .i64 (x0.f2.length : Int)), .ret [(false, [tB true])], .b false, .row ((GRun.t q0) g0), .row ((GRun.t q0) g1), .b true] [fun _ => ((x0.f2.map (GRun.t q0)).length : Int) = (x0.f2.length : Int), fun k => E.C k 49 [.one (tI x1), .one (tI (0 : Int)), .one (tI (IntKind.wrap .i64 ((x0.f2.length : Int) - (1 : Int))))] = some [(false, [tB true])], fun _ => (x1 == (0 : Int)) = false, fun _ => 0 ≤ (IntKind.wrap .i64 (x1 - (1 : Int))) ∧ (x0.f2.map (GRun.t q0))[(IntKind.wrap .i64 (x1 - (1 : Int))).toNat]? = some ((GRun.t q0) g0), fun _ => 0 ≤ x1 ∧ (x0.f2.map (GRun.t q0))[x1.toNat]? = some ((GRun.t q0) g1), fun _ => (!(g0.f0.toList == g1.f0.toList)) = true] rfl rfl (fun k => by kernel_rfl) ⟨Ev.c lenMap, Does.to (T_i_inRange x1 (0 : Int) (IntKind.wrap .i64 ((x0.f2.length : Int) - (1 : Int)))) (by rw [h0]), Ev.c h1, Ev.c (getRow h2), Ev.c (getRow h3), Ev.c h4, trivial⟩
theorem i_PastOf_P2 {q0 : Kd} (x0 : GBoard) (x1 : Int) (x2 : Int) (g0 : GRun) (g1 : GRun) (g2 : GState) (h0 : (inRange x1 (0 : Int) (IntKind.wrap .i64 ((x0.f2.length : Int) - (1 : Int)))) = true) (h1 : (x1 == (0 : Int)) = false) (h2 : getI x0.f2 (IntKind.wrap .i64 (x1 - (1 : Int))) = some g0) (h3 : getI x0.f2 x1 = some g1) (h4 : (!(g0.f0.toList == g1.f0.toList)) = false) (h5 : (inRange x2 (0 : Int) (IntKind.wrap .i64 ((g0.f3.length : Int) - (1 : Int)))) = true) (h6 : getI g0.f3 x2 = some g2) : Does E 22 [.agg (GBoard.t .far q0 x0), .one (tI x1), .one (tI x2)] [(false, [tB (g2.f0 == (2 : Int))])] :=
  Does.path (fn := Try.f22) [.val (.int .i64 (x0.f2.length : Int)), .ret [(false, [tB true])], .b false, .row ((GRun.t q0) g0), .row ((GRun.t q0) g1), .b false, .row ((GRun.t q0) g0), .val (.int .i64 (g0.f3.length : Int)), .ret [(false, [tB true])], .row (GState.t g2)] [fun _ => ((x0.f2.map (GRun.t q0)).length : Int) = (x0.f2.length : Int), fun k => E.C k 49 [.one (tI x1), .one (tI (0 : Int)), .one (tI (IntKind.wrap .i64 ((x0.f2.length : Int) - (1 : Int))))] = some [(false, [tB true])], fun _ => (x1 == (0 : Int)) = false, fun _ => 0 ≤ (IntKind.wrap .i64 (x1 - (1 : Int))) ∧ (x0.f2.map (GRun.t q0))[(IntKind.wrap .i64 (x1 - (1 : Int))).toNat]? = some ((GRun.t q0) g0), fun _ => 0 ≤ x1 ∧ (x0.f2.map (GRun.t q0))[x1.toNat]? = some ((GRun.t q0) g1), fun _ => (!(g0.f0.toList == g1.f0.toList)) = false, fun _ => 0 ≤ (IntKind.wrap .i64 (x1 - (1 : Int))) ∧ (x0.f2.map (GRun.t q0))[(IntKind.wrap .i64 (x1 - (1 : Int))).toNat]? = some ((GRun.t q0) g0), fun _ => ((g0.f3.map GState.t).length : Int) = (g0.f3.length : Int), fun k => E.C k 49 [.one (tI x2), .one (tI (0 : Int)), .one (tI (IntKind.wrap .i64 ((g0.f3.length : Int) - (1 : Int))))] = some [(false, [tB true])], fun _ => 0 ≤ x2 ∧ (g0.f3.map GState.t)[x2.toNat]? = some (GState.t g2)] rfl rfl (fun k => by kernel_rfl) ⟨Ev.c lenMap, Does.to (T_i_inRange x1 (0 : Int) (IntKind.wrap .i64 ((x0.f2.length : Int) - (1 : Int)))) (by rw [h0]), Ev.c h1, Ev.c (getRow h2), Ev.c (getRow h3), Ev.c h4, Ev.c (getRow h2), Ev.c lenMap, Does.to (T_i_inRange x2 (0 : Int) (IntKind.wrap .i64 ((g0.f3.length : Int) - (1 : Int)))) (by rw [h5]), Ev.c (getRow h6), trivial⟩
theorem i_PastOf_P3 {q0 : Kd} (x0 : GBoard) (x1 : Int) (x2 : Int) (g0 : GRun) (g1 : GRun) (h0 : (inRange x1 (0 : Int) (IntKind.wrap .i64 ((x0.f2.length : Int) - (1 : Int)))) = true) (h1 : (x1 == (0 : Int)) = false) (h2 : getI x0.f2 (IntKind.wrap .i64 (x1 - (1 : Int))) = some g0) (h3 : getI x0.f2 x1 = some g1) (h4 : (!(g0.f0.toList == g1.f0.toList)) = false) (h5 : (inRange x2 (0 : Int) (IntKind.wrap .i64 ((g0.f3.length : Int) - (1 : Int)))) = false) : Does E 22 [.agg (GBoard.t .far q0 x0), .one (tI x1), .one (tI x2)] [(false, [tB false])] :=
  Does.path (fn := Try.f22) [.val (.int .i64 (x0.f2.length : Int)), .ret [(false, [tB true])], .b false, .row ((GRun.t q0) g0), .row ((GRun.t q0) g1), .b false, .row ((GRun.t q0) g0), .val (.int .i64 (g0.f3.length : Int)), .ret [(false, [tB false])]] [fun _ => ((x0.f2.map (GRun.t q0)).length : Int) = (x0.f2.length : Int), fun k => E.C k 49 [.one (tI x1), .one (tI (0 : Int)), .one (tI (IntKind.wrap .i64 ((x0.f2.length : Int) - (1 : Int))))] = some [(false, [tB true])], fun _ => (x1 == (0 : Int)) = false, fun _ => 0 ≤ (IntKind.wrap .i64 (x1 - (1 : Int))) ∧ (x0.f2.map (GRun.t q0))[(IntKind.wrap .i64 (x1 - (1 : Int))).toNat]? = some ((GRun.t q0) g0), fun _ => 0 ≤ x1 ∧ (x0.f2.map (GRun.t q0))[x1.toNat]? = some ((GRun.t q0) g1), fun _ => (!(g0.f0.toList == g1.f0.toList)) = false, fun _ => 0 ≤ (IntKind.wrap .i64 (x1 - (1 : Int))) ∧ (x0.f2.map (GRun.t q0))[(IntKind.wrap .i64 (x1 - (1 : Int))).toNat]? = some ((GRun.t q0) g0), fun _ => ((g0.f3.map GState.t).length : Int) = (g0.f3.length : Int), fun k => E.C k 49 [.one (tI x2), .one (tI (0 : Int)), .one (tI (IntKind.wrap .i64 ((g0.f3.length : Int) - (1 : Int))))] = some [(false, [tB false])]] rfl rfl (fun k => by kernel_rfl) ⟨Ev.c lenMap, Does.to (T_i_inRange x1 (0 : Int) (IntKind.wrap .i64 ((x0.f2.length : Int) - (1 : Int)))) (by rw [h0]), Ev.c h1, Ev.c (getRow h2), Ev.c (getRow h3), Ev.c h4, Ev.c (getRow h2), Ev.c lenMap, Does.to (T_i_inRange x2 (0 : Int) (IntKind.wrap .i64 ((g0.f3.length : Int) - (1 : Int)))) (by rw [h5]), trivial⟩
theorem i_PastOf_P4 {q0 : Kd} (x0 : GBoard) (x1 : Int) (x2 : Int) (h0 : (inRange x1 (0 : Int) (IntKind.wrap .i64 ((x0.f2.length : Int) - (1 : Int)))) = false) : Does E 22 [.agg (GBoard.t .far q0 x0), .one (tI x1), .one (tI x2)] [(false, [tB false])] :=
  Does.path (fn := Try.f22) [.val (.int .i64 (x0.f2.length : Int)), .ret [(false, [tB false])]] [fun _ => ((x0.f2.map (GRun.t q0)).length : Int) = (x0.f2.length : Int), fun k => E.C k 49 [.one (tI x1), .one (tI (0 : Int)), .one (tI (IntKind.wrap .i64 ((x0.f2.length : Int) - (1 : Int))))] = some [(false, [tB false])]] rfl rfl (fun k => by kernel_rfl) ⟨Ev.c lenMap, Does.to (T_i_inRange x1 (0 : Int) (IntKind.wrap .i64 ((x0.f2.length : Int) - (1 : Int)))) (by rw [h0]), trivial⟩
noncomputable def i_PastOf_F (x0 : GBoard) (x1 : Int) (x2 : Int) : Option (Bool) :=
    cond (inRange x1 (0 : Int) (IntKind.wrap .i64 ((x0.f2.length : Int) - (1 : Int))))
      (cond (x1 == (0 : Int))
        (some (true))
        ((getI x0.f2 (IntKind.wrap .i64 (x1 - (1 : Int)))).bind fun g0 => (getI x0.f2 x1).bind fun g1 => cond (!(g0.f0.toList == g1.f0.toList))
          (some (true))
          (cond (inRange x2 (0 : Int) (IntKind.wrap .i64 ((g0.f3.length : Int) - (1 : Int))))
            ((getI g0.f3 x2).bind fun g2 => some (g2.f0 == (2 : Int)))
            (some (false)))))
      (some (false))
theorem i_PastOf_D {q0 : Kd} (x0 : GBoard) (x1 : Int) (x2 : Int) : Ans (i_PastOf_F x0 x1 x2) (fun r => Does E 22 [.agg (GBoard.t .far q0 x0), .one (tI x1), .one (tI x2)] [(false, [tB r])]) := by
  unfold i_PastOf_F
  refine Ans.ite (fun h0 => ?_) (fun h0 => ?_)
  · refine Ans.ite (fun h1 => ?_) (fun h1 => ?_)
    · exact Ans.some (i_PastOf_P0 (q0 := q0) x0 x1 x2 h0 h1)
    · refine Ans.bind (fun g0 h2 => ?_)
      refine Ans.bind (fun g1 h3 => ?_)
      refine Ans.ite (fun h4 => ?_) (fun h4 => ?_)
      · exact Ans.some (i_PastOf_P1 (q0 := q0) x0 x1 x2 g0 g1 h0 h1 h2 h3 h4)
      · refine Ans.ite (fun h5 => ?_) (fun h5 => ?_)
        · refine Ans.bind (fun g2 h6 => ?_)
          exact Ans.some (i_PastOf_P2 (q0 := q0) x0 x1 x2 g0 g1 g2 h0 h1 h2 h3 h4 h5 h6)
        · exact Ans.some (i_PastOf_P3 (q0 := q0) x0 x1 x2 g0 g1 h0 h1 h2 h3 h4 h5)
  · exact Ans.some (i_PastOf_P4 (q0 := q0) x0 x1 x2 h0)
noncomputable def pastOf (b : GBoard) (k i : Int) : Bool := (s_PastOf_F b k i).getD false
theorem inRange_get {α : Type} {l : List α} {k : Int} (h : inRange k 0 (IntKind.wrap .i64 ((l.length : Int) - 1)) = true) (hl : l.length ≤ 1050000) : 0 ≤ k ∧ k < (l.length : Int) := by
  unfold inRange at h
  rw [wrap_id _ (by omega) (by omega)] at h
  simp only [Bool.and_eq_true, decide_eq_true_eq] at h
  omega
theorem getI_in {α : Type} {l : List α} {k : Int} (h : 0 ≤ k ∧ k < (l.length : Int)) : ∃ x, getI l k = some x ∧ x ∈ l := by
  unfold getI
  rw [if_pos h.1, List.getElem?_eq_getElem (by omega)]
  exact ⟨_, rfl, List.getElem_mem _⟩
theorem past_ok (b : GBoard) (k i : Int) (h : Small.sm b) : s_PastOf_F b k i = some (pastOf b k i) ∧ i_PastOf_F b k i = some (pastOf b k i) := by
  have e : i_PastOf_F b k i = s_PastOf_F b k i := rfl
  rw [e]
  refine ⟨?_, ?_⟩ <;>
  · refine Tot.getD ?_ _
    unfold s_PastOf_F
    by_cases q : inRange k 0 (IntKind.wrap .i64 ((b.f2.length : Int) - 1)) = true
    · have hk := inRange_get q h.2.2.1
      have hl := h.2.2.1
      rw [q, cond_true]
      by_cases q2 : k = 0
      · subst q2; exact Tot.some _
      · rw [show (k == (0 : Int)) = false from beq_eq_false_iff_ne.2 q2, cond_false]
        have e1 : IntKind.wrap .i64 (k - 1) = k - 1 := wrap_id _ (by omega) (by omega)
        obtain ⟨x, hx, hm⟩ := getI_in (l := b.f2) (k := k - 1) (by omega)
        obtain ⟨y, hy, _⟩ := getI_in hk
        rw [e1, hx, hy]
        simp only [Option.bind_some]
        refine Tot.cond (Tot.some _) ?_
        by_cases q3 : inRange i 0 (IntKind.wrap .i64 ((x.f3.length : Int) - 1)) = true
        · obtain ⟨z, hz, _⟩ := getI_in (inRange_get q3 (h.2.2.2 x hm).2.2.1)
          rw [q3, hz]
          exact Tot.some _
        · rw [Bool.not_eq_true] at q3; rw [q3]; exact Tot.some _
    · rw [Bool.not_eq_true] at q; rw [q]; exact Tot.some _
theorem T_s_PastOf {q0 : Kd} (x0 : GBoard) (x1 : Int) (x2 : Int) (h : Small.sm x0) : Does E 21 [.agg (GBoard.t .far q0 x0), .one (tI x1), .one (tI x2)] [(false, [tB (pastOf x0 x1 x2)])] := by
  exact s_PastOf_D x0 x1 x2 _ (past_ok x0 x1 x2 h).1
theorem T_i_PastOf {q0 : Kd} (x0 : GBoard) (x1 : Int) (x2 : Int) (h : Small.sm x0) : Does E 22 [.agg (GBoard.t .far q0 x0), .one (tI x1), .one (tI x2)] [(false, [tB (pastOf x0 x1 x2)])] := by
  exact i_PastOf_D x0 x1 x2 _ (past_ok x0 x1 x2 h).2
-- loop.example/g00188/laws.FnExactPastOf
theorem l_FnExactPastOf_P0 {q0 : Kd} (x0 : LBoard) (x1 : Int) (x2 : Int) (h0 : Wf.wf x0) (h1 : (decide ((p_l_szBoard x0 (1048576 : Int)) < (0 : Int))) = true) : Does E 6 [.agg (LBoard.t .far q0 x0), .one (tI x1), .one (tI x2)] [(false, [tB true])] :=
  Does.path (fn := Try.f6) [.ret [(false, [tI (p_l_szBoard x0 (1048576 : Int))])], .b true] [fun k => E.C k 12 [.agg (LBoard.t .far q0 x0), .one (tI (1048576 : Int))] = some [(false, [tI (p_l_szBoard x0 (1048576 : Int))])], fun _ => (decide ((p_l_szBoard x0 (1048576 : Int)) < (0 : Int))) = true] rfl rfl (fun k => by kernel_rfl) ⟨T_l_szBoard x0 (1048576 : Int) h0, Ev.c h1, trivial⟩
theorem l_FnExactPastOf_P1 {q0 : Kd} (x0 : LBoard) (x1 : Int) (x2 : Int) (h0 : Wf.wf x0) (h1 : (decide ((p_l_szBoard x0 (1048576 : Int)) < (0 : Int))) = false) (h2 : Small.sm x0) (h3 : Small.sm (p_l_toBoard x0)) (h4 : (!((pastOf (p_l_toBoard x0) x1 x2) == (pastOf (p_l_toBoard x0) x1 x2))) = true) : Does E 6 [.agg (LBoard.t .far q0 x0), .one (tI x1), .one (tI x2)] [(false, [tB false])] :=
  Does.path (fn := Try.f6) [.ret [(false, [tI (p_l_szBoard x0 (1048576 : Int))])], .b false, .ret [(true, GBoard.t .own .own (p_l_toBoard x0))], .ret [(false, [tB (pastOf (p_l_toBoard x0) x1 x2)])], .ret [(true, GBoard.t .own .own (p_l_toBoard x0))], .ret [(false, [tB (pastOf (p_l_toBoard x0) x1 x2)])], .b true] [fun k => E.C k 12 [.agg (LBoard.t .far q0 x0), .one (tI (1048576 : Int))] = some [(false, [tI (p_l_szBoard x0 (1048576 : Int))])], fun _ => (decide ((p_l_szBoard x0 (1048576 : Int)) < (0 : Int))) = false, fun k => E.C k 14 [.agg (LBoard.t .far q0 x0)] = some [(true, GBoard.t .own .own (p_l_toBoard x0))], fun k => E.C k 21 [.agg (GBoard.t .far .own (p_l_toBoard x0)), .one (tI x1), .one (tI x2)] = some [(false, [tB (pastOf (p_l_toBoard x0) x1 x2)])], fun k => E.C k 14 [.agg (LBoard.t .far q0 x0)] = some [(true, GBoard.t .own .own (p_l_toBoard x0))], fun k => E.C k 22 [.agg (GBoard.t .far .own (p_l_toBoard x0)), .one (tI x1), .one (tI x2)] = some [(false, [tB (pastOf (p_l_toBoard x0) x1 x2)])], fun _ => (!((pastOf (p_l_toBoard x0) x1 x2) == (pastOf (p_l_toBoard x0) x1 x2))) = true] rfl rfl (fun k => by kernel_rfl) ⟨T_l_szBoard x0 (1048576 : Int) h0, Ev.c h1, T_l_toBoard x0 h2, T_s_PastOf (p_l_toBoard x0) x1 x2 h3, T_l_toBoard x0 h2, T_i_PastOf (p_l_toBoard x0) x1 x2 h3, Ev.c h4, trivial⟩
theorem l_FnExactPastOf_P2 {q0 : Kd} (x0 : LBoard) (x1 : Int) (x2 : Int) (h0 : Wf.wf x0) (h1 : (decide ((p_l_szBoard x0 (1048576 : Int)) < (0 : Int))) = false) (h2 : Small.sm x0) (h3 : Small.sm (p_l_toBoard x0)) (h4 : (!((pastOf (p_l_toBoard x0) x1 x2) == (pastOf (p_l_toBoard x0) x1 x2))) = false) (h5 : (p_l_toBoard x0) = (p_l_toBoard x0)) (h6 : (yes (p_l_toBoard x0) (p_l_toBoard x0)) = true) : Does E 6 [.agg (LBoard.t .far q0 x0), .one (tI x1), .one (tI x2)] [(false, [tB true])] :=
  Does.path (fn := Try.f6) [.ret [(false, [tI (p_l_szBoard x0 (1048576 : Int))])], .b false, .ret [(true, GBoard.t .own .own (p_l_toBoard x0))], .ret [(false, [tB (pastOf (p_l_toBoard x0) x1 x2)])], .ret [(true, GBoard.t .own .own (p_l_toBoard x0))], .ret [(false, [tB (pastOf (p_l_toBoard x0) x1 x2)])], .b false, .ret [(true, GBoard.t .own .own (p_l_toBoard x0))], .ret [(false, [tB true])]] [fun k => E.C k 12 [.agg (LBoard.t .far q0 x0), .one (tI (1048576 : Int))] = some [(false, [tI (p_l_szBoard x0 (1048576 : Int))])], fun _ => (decide ((p_l_szBoard x0 (1048576 : Int)) < (0 : Int))) = false, fun k => E.C k 14 [.agg (LBoard.t .far q0 x0)] = some [(true, GBoard.t .own .own (p_l_toBoard x0))], fun k => E.C k 21 [.agg (GBoard.t .far .own (p_l_toBoard x0)), .one (tI x1), .one (tI x2)] = some [(false, [tB (pastOf (p_l_toBoard x0) x1 x2)])], fun k => E.C k 14 [.agg (LBoard.t .far q0 x0)] = some [(true, GBoard.t .own .own (p_l_toBoard x0))], fun k => E.C k 22 [.agg (GBoard.t .far .own (p_l_toBoard x0)), .one (tI x1), .one (tI x2)] = some [(false, [tB (pastOf (p_l_toBoard x0) x1 x2)])], fun _ => (!((pastOf (p_l_toBoard x0) x1 x2) == (pastOf (p_l_toBoard x0) x1 x2))) = false, fun k => E.C k 14 [.agg (LBoard.t .far q0 x0)] = some [(true, GBoard.t .own .own (p_l_toBoard x0))], fun k => E.C k 16 [.agg (GBoard.t .far .own (p_l_toBoard x0)), .agg (GBoard.t .far .own (p_l_toBoard x0))] = some [(false, [tB true])]] rfl rfl (fun k => by kernel_rfl) ⟨T_l_szBoard x0 (1048576 : Int) h0, Ev.c h1, T_l_toBoard x0 h2, T_s_PastOf (p_l_toBoard x0) x1 x2 h3, T_l_toBoard x0 h2, T_i_PastOf (p_l_toBoard x0) x1 x2 h3, Ev.c h4, T_l_toBoard x0 h2, Does.to (T_l_eqBoard (p_l_toBoard x0) (p_l_toBoard x0) h5 h3) (by rw [h6]), trivial⟩
theorem l_FnExactPastOf_P3 {q0 : Kd} (x0 : LBoard) (x1 : Int) (x2 : Int) (h0 : Wf.wf x0) (h1 : (decide ((p_l_szBoard x0 (1048576 : Int)) < (0 : Int))) = false) (h2 : Small.sm x0) (h3 : Small.sm (p_l_toBoard x0)) (h4 : (!((pastOf (p_l_toBoard x0) x1 x2) == (pastOf (p_l_toBoard x0) x1 x2))) = false) (h5 : (p_l_toBoard x0) = (p_l_toBoard x0)) (h6 : (yes (p_l_toBoard x0) (p_l_toBoard x0)) = false) : Does E 6 [.agg (LBoard.t .far q0 x0), .one (tI x1), .one (tI x2)] [(false, [tB false])] :=
  Does.path (fn := Try.f6) [.ret [(false, [tI (p_l_szBoard x0 (1048576 : Int))])], .b false, .ret [(true, GBoard.t .own .own (p_l_toBoard x0))], .ret [(false, [tB (pastOf (p_l_toBoard x0) x1 x2)])], .ret [(true, GBoard.t .own .own (p_l_toBoard x0))], .ret [(false, [tB (pastOf (p_l_toBoard x0) x1 x2)])], .b false, .ret [(true, GBoard.t .own .own (p_l_toBoard x0))], .ret [(false, [tB false])]] [fun k => E.C k 12 [.agg (LBoard.t .far q0 x0), .one (tI (1048576 : Int))] = some [(false, [tI (p_l_szBoard x0 (1048576 : Int))])], fun _ => (decide ((p_l_szBoard x0 (1048576 : Int)) < (0 : Int))) = false, fun k => E.C k 14 [.agg (LBoard.t .far q0 x0)] = some [(true, GBoard.t .own .own (p_l_toBoard x0))], fun k => E.C k 21 [.agg (GBoard.t .far .own (p_l_toBoard x0)), .one (tI x1), .one (tI x2)] = some [(false, [tB (pastOf (p_l_toBoard x0) x1 x2)])], fun k => E.C k 14 [.agg (LBoard.t .far q0 x0)] = some [(true, GBoard.t .own .own (p_l_toBoard x0))], fun k => E.C k 22 [.agg (GBoard.t .far .own (p_l_toBoard x0)), .one (tI x1), .one (tI x2)] = some [(false, [tB (pastOf (p_l_toBoard x0) x1 x2)])], fun _ => (!((pastOf (p_l_toBoard x0) x1 x2) == (pastOf (p_l_toBoard x0) x1 x2))) = false, fun k => E.C k 14 [.agg (LBoard.t .far q0 x0)] = some [(true, GBoard.t .own .own (p_l_toBoard x0))], fun k => E.C k 16 [.agg (GBoard.t .far .own (p_l_toBoard x0)), .agg (GBoard.t .far .own (p_l_toBoard x0))] = some [(false, [tB false])]] rfl rfl (fun k => by kernel_rfl) ⟨T_l_szBoard x0 (1048576 : Int) h0, Ev.c h1, T_l_toBoard x0 h2, T_s_PastOf (p_l_toBoard x0) x1 x2 h3, T_l_toBoard x0 h2, T_i_PastOf (p_l_toBoard x0) x1 x2 h3, Ev.c h4, T_l_toBoard x0 h2, Does.to (T_l_eqBoard (p_l_toBoard x0) (p_l_toBoard x0) h5 h3) (by rw [h6]), trivial⟩
noncomputable def l_FnExactPastOf_F (x0 : LBoard) (x1 : Int) (x2 : Int) : Option (Bool) :=
    if Wf.wf x0 then cond (decide ((p_l_szBoard x0 (1048576 : Int)) < (0 : Int)))
      (some (true))
      (if Small.sm x0 then if Small.sm (p_l_toBoard x0) then cond (!((pastOf (p_l_toBoard x0) x1 x2) == (pastOf (p_l_toBoard x0) x1 x2)))
        (some (false))
        (if (p_l_toBoard x0) = (p_l_toBoard x0) then cond (yes (p_l_toBoard x0) (p_l_toBoard x0))
          (some (true))
          (some (false)) else none) else none else none) else none
theorem l_FnExactPastOf_D {q0 : Kd} (x0 : LBoard) (x1 : Int) (x2 : Int) : Ans (l_FnExactPastOf_F x0 x1 x2) (fun r => Does E 6 [.agg (LBoard.t .far q0 x0), .one (tI x1), .one (tI x2)] [(false, [tB r])]) := by
  unfold l_FnExactPastOf_F
  refine Ans.pre (fun h0 => ?_)
  refine Ans.ite (fun h1 => ?_) (fun h1 => ?_)
  · exact Ans.some (l_FnExactPastOf_P0 (q0 := q0) x0 x1 x2 h0 h1)
  · refine Ans.pre (fun h2 => ?_)
    refine Ans.pre (fun h3 => ?_)
    refine Ans.ite (fun h4 => ?_) (fun h4 => ?_)
    · exact Ans.some (l_FnExactPastOf_P1 (q0 := q0) x0 x1 x2 h0 h1 h2 h3 h4)
    · refine Ans.pre (fun h5 => ?_)
      refine Ans.ite (fun h6 => ?_) (fun h6 => ?_)
      · exact Ans.some (l_FnExactPastOf_P2 (q0 := q0) x0 x1 x2 h0 h1 h2 h3 h4 h5 h6)
      · exact Ans.some (l_FnExactPastOf_P3 (q0 := q0) x0 x1 x2 h0 h1 h2 h3 h4 h5 h6)
theorem T_law_PastOf {q0 : Kd} (x0 : LBoard) (x1 : Int) (x2 : Int) (h : Wf.wf x0) : Does E 6 [.agg (LBoard.t .far q0 x0), .one (tI x1), .one (tI x2)] [(false, [tB true])] := by
  have hs := le_l_szBoard x0 1048576 h (by omega) (by omega)
  exact l_FnExactPastOf_D x0 x1 x2 _ (by
    unfold l_FnExactPastOf_F
    refine lawPre h (lawSz fun q => ?_)
    have hs := (hs q).2
    have ht := sm_l_toBoard hs
    simp [hs, ht, yes])
end Go.Proofs.Ytohlonlaadmikaa.Am
