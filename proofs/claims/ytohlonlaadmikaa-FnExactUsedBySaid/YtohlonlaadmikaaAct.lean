/- What the functions of UsedBy do. Conditions: none. -/
import Derived.Test.YtohlonlaadmikaaBoards
namespace Go.Proofs.Ytohlonlaadmikaa.Am
set_option linter.unusedVariables false
set_option linter.unusedSimpArgs false
open Go Go.Proofs Classical
set_option maxRecDepth 100000
set_option linter.unusedVariables false
set_option linter.unusedSimpArgs false
-- loop.example/g00188/spec.PastOf
theorem s_PastOf_P0 {q0 : Kd} (x0 : GBoard) (x1 : Int) (x2 : Int) (h0 : (inRange x1 (0 : Int) (IntKind.wrap .i64 ((x0.f2.length : Int) - (1 : Int)))) = true) (h1 : (x1 == (0 : Int)) = true) : Does E 21 [.agg (GBoard.t .far q0 x0), .one (tI x1), .one (tI x2)] [(false, [tB true])] :=
  Does.path (fn := Try.f21) [.val (.int .i64 (x0.f2.length : Int)), .ret [(false, [tB true])], .b true] [fun _ => ((x0.f2.map (GRun.t q0)).length : Int) = (x0.f2.length : Int), fun k => E.C k 48 [.one (tI x1), .one (tI (0 : Int)), .one (tI (IntKind.wrap .i64 ((x0.f2.length : Int) - (1 : Int))))] = some [(false, [tB true])], fun _ => (x1 == (0 : Int)) = true] rfl rfl (fun k => by kernel_rfl) ⟨Ev.c lenMap, Does.to (T_s_l01In x1 (0 : Int) (IntKind.wrap .i64 ((x0.f2.length : Int) - (1 : Int)))) (by rw [h0]), Ev.c h1, trivial⟩
theorem s_PastOf_P1 {q0 : Kd} (x0 : GBoard) (x1 : Int) (x2 : Int) (g0 : GRun) (g1 : GRun) (h0 : (inRange x1 (0 : Int) (IntKind.wrap .i64 ((x0.f2.length : Int) - (1 : Int)))) = true) (h1 : (x1 == (0 : Int)) = false) (h2 : getI x0.f2 (IntKind.wrap .i64 (x1 - (1 : Int))) = some g0) (h3 : getI x0.f2 x1 = some g1) (h4 : (!(g0.f0.toList == g1.f0.toList)) = true) : Does E 21 [.agg (GBoard.t .far q0 x0), .one (tI x1), .one (tI x2)] [(false, [tB true])] :=
  Does.path (fn := Try.f21) [.val (.int .i64 (x0.f2.length : Int)), .ret [(false, [tB true])], .b false, .row ((GRun.t q0) g0), .row ((GRun.t q0) g1), .b true] [fun _ => ((x0.f2.map (GRun.t q0)).length : Int) = (x0.f2.length : Int), fun k => E.C k 48 [.one (tI x1), .one (tI (0 : Int)), .one (tI (IntKind.wrap .i64 ((x0.f2.length : Int) - (1 : Int))))] = some [(false, [tB true])], fun _ => (x1 == (0 : Int)) = false, fun _ => 0 ≤ (IntKind.wrap .i64 (x1 - (1 : Int))) ∧ (x0.f2.map (GRun.t q0))[(IntKind.wrap .i64 (x1 - (1 : Int))).toNat]? = some ((GRun.t q0) g0), fun _ => 0 ≤ x1 ∧ (x0.f2.map (GRun.t q0))[x1.toNat]? = some ((GRun.t q0) g1), fun _ => (!(g0.f0.toList == g1.f0.toList)) = true] rfl rfl (fun k => by kernel_rfl) ⟨Ev.c lenMap, Does.to (T_s_l01In x1 (0 : Int) (IntKind.wrap .i64 ((x0.f2.length : Int) - (1 : Int)))) (by rw [h0]), Ev.c h1, Ev.c (getRow h2), Ev.c (getRow h3), Ev.c h4, trivial⟩
theorem s_PastOf_P2 {q0 : Kd} (x0 : GBoard) (x1 : Int) (x2 : Int) (g0 : GRun) (g1 : GRun) (g2 : GState) (h0 : (inRange x1 (0 : Int) (IntKind.wrap .i64 ((x0.f2.length : Int) - (1 : Int)))) = true) (h1 : (x1 == (0 : Int)) = false) (h2 : getI x0.f2 (IntKind.wrap .i64 (x1 - (1 : Int))) = some g0) (h3 : getI x0.f2 x1 = some g1) (h4 : (!(g0.f0.toList == g1.f0.toList)) = false) (h5 : (inRange x2 (0 : Int) (IntKind.wrap .i64 ((g0.f3.length : Int) - (1 : Int)))) = true) (h6 : getI g0.f3 x2 = some g2) : Does E 21 [.agg (GBoard.t .far q0 x0), .one (tI x1), .one (tI x2)] [(false, [tB (g2.f0 == (2 : Int))])] :=
  Does.path (fn := Try.f21) [.val (.int .i64 (x0.f2.length : Int)), .ret [(false, [tB true])], .b false, .row ((GRun.t q0) g0), .row ((GRun.t q0) g1), .b false, .row ((GRun.t q0) g0), .val (.int .i64 (g0.f3.length : Int)), .ret [(false, [tB true])], .row (GState.t g2)] [fun _ => ((x0.f2.map (GRun.t q0)).length : Int) = (x0.f2.length : Int), fun k => E.C k 48 [.one (tI x1), .one (tI (0 : Int)), .one (tI (IntKind.wrap .i64 ((x0.f2.length : Int) - (1 : Int))))] = some [(false, [tB true])], fun _ => (x1 == (0 : Int)) = false, fun _ => 0 ≤ (IntKind.wrap .i64 (x1 - (1 : Int))) ∧ (x0.f2.map (GRun.t q0))[(IntKind.wrap .i64 (x1 - (1 : Int))).toNat]? = some ((GRun.t q0) g0), fun _ => 0 ≤ x1 ∧ (x0.f2.map (GRun.t q0))[x1.toNat]? = some ((GRun.t q0) g1), fun _ => (!(g0.f0.toList == g1.f0.toList)) = false, fun _ => 0 ≤ (IntKind.wrap .i64 (x1 - (1 : Int))) ∧ (x0.f2.map (GRun.t q0))[(IntKind.wrap .i64 (x1 - (1 : Int))).toNat]? = some ((GRun.t q0) g0), fun _ => ((g0.f3.map GState.t).length : Int) = (g0.f3.length : Int), fun k => E.C k 48 [.one (tI x2), .one (tI (0 : Int)), .one (tI (IntKind.wrap .i64 ((g0.f3.length : Int) - (1 : Int))))] = some [(false, [tB true])], fun _ => 0 ≤ x2 ∧ (g0.f3.map GState.t)[x2.toNat]? = some (GState.t g2)] rfl rfl (fun k => by kernel_rfl) ⟨Ev.c lenMap, Does.to (T_s_l01In x1 (0 : Int) (IntKind.wrap .i64 ((x0.f2.length : Int) - (1 : Int)))) (by rw [h0]), Ev.c h1, Ev.c (getRow h2), Ev.c (getRow h3), Ev.c h4, Ev.c (getRow h2), Ev.c lenMap, Does.to (T_s_l01In x2 (0 : Int) (IntKind.wrap .i64 ((g0.f3.length : Int) - (1 : Int)))) (by rw [h5]), Ev.c (getRow h6), trivial⟩
theorem s_PastOf_P3 {q0 : Kd} (x0 : GBoard) (x1 : Int) (x2 : Int) (g0 : GRun) (g1 : GRun) (h0 : (inRange x1 (0 : Int) (IntKind.wrap .i64 ((x0.f2.length : Int) - (1 : Int)))) = true) (h1 : (x1 == (0 : Int)) = false) (h2 : getI x0.f2 (IntKind.wrap .i64 (x1 - (1 : Int))) = some g0) (h3 : getI x0.f2 x1 = some g1) (h4 : (!(g0.f0.toList == g1.f0.toList)) = false) (h5 : (inRange x2 (0 : Int) (IntKind.wrap .i64 ((g0.f3.length : Int) - (1 : Int)))) = false) : Does E 21 [.agg (GBoard.t .far q0 x0), .one (tI x1), .one (tI x2)] [(false, [tB false])] :=
  Does.path (fn := Try.f21) [.val (.int .i64 (x0.f2.length : Int)), .ret [(false, [tB true])], .b false, .row ((GRun.t q0) g0), .row ((GRun.t q0) g1), .b false, .row ((GRun.t q0) g0), .val (.int .i64 (g0.f3.length : Int)), .ret [(false, [tB false])]] [fun _ => ((x0.f2.map (GRun.t q0)).length : Int) = (x0.f2.length : Int), fun k => E.C k 48 [.one (tI x1), .one (tI (0 : Int)), .one (tI (IntKind.wrap .i64 ((x0.f2.length : Int) - (1 : Int))))] = some [(false, [tB true])], fun _ => (x1 == (0 : Int)) = false, fun _ => 0 ≤ (IntKind.wrap .i64 (x1 - (1 : Int))) ∧ (x0.f2.map (GRun.t q0))[(IntKind.wrap .i64 (x1 - (1 : Int))).toNat]? = some ((GRun.t q0) g0), fun _ => 0 ≤ x1 ∧ (x0.f2.map (GRun.t q0))[x1.toNat]? = some ((GRun.t q0) g1), fun _ => (!(g0.f0.toList == g1.f0.toList)) = false, fun _ => 0 ≤ (IntKind.wrap .i64 (x1 - (1 : Int))) ∧ (x0.f2.map (GRun.t q0))[(IntKind.wrap .i64 (x1 - (1 : Int))).toNat]? = some ((GRun.t q0) g0), fun _ => ((g0.f3.map GState.t).length : Int) = (g0.f3.length : Int), fun k => E.C k 48 [.one (tI x2), .one (tI (0 : Int)), .one (tI (IntKind.wrap .i64 ((g0.f3.length : Int) - (1 : Int))))] = some [(false, [tB false])]] rfl rfl (fun k => by kernel_rfl) ⟨Ev.c lenMap, Does.to (T_s_l01In x1 (0 : Int) (IntKind.wrap .i64 ((x0.f2.length : Int) - (1 : Int)))) (by rw [h0]), Ev.c h1, Ev.c (getRow h2), Ev.c (getRow h3), Ev.c h4, Ev.c (getRow h2), Ev.c lenMap, Does.to (T_s_l01In x2 (0 : Int) (IntKind.wrap .i64 ((g0.f3.length : Int) - (1 : Int)))) (by rw [h5]), trivial⟩
theorem s_PastOf_P4 {q0 : Kd} (x0 : GBoard) (x1 : Int) (x2 : Int) (h0 : (inRange x1 (0 : Int) (IntKind.wrap .i64 ((x0.f2.length : Int) - (1 : Int)))) = false) : Does E 21 [.agg (GBoard.t .far q0 x0), .one (tI x1), .one (tI x2)] [(false, [tB false])] :=
  Does.path (fn := Try.f21) [.val (.int .i64 (x0.f2.length : Int)), .ret [(false, [tB false])]] [fun _ => ((x0.f2.map (GRun.t q0)).length : Int) = (x0.f2.length : Int), fun k => E.C k 48 [.one (tI x1), .one (tI (0 : Int)), .one (tI (IntKind.wrap .i64 ((x0.f2.length : Int) - (1 : Int))))] = some [(false, [tB false])]] rfl rfl (fun k => by kernel_rfl) ⟨Ev.c lenMap, Does.to (T_s_l01In x1 (0 : Int) (IntKind.wrap .i64 ((x0.f2.length : Int) - (1 : Int)))) (by rw [h0]), trivial⟩
noncomputable def s_PastOf_F (x0 : GBoard) (x1 : Int) (x2 : Int) : Option (Bool) :=
    cond (inRange x1 (0 : Int) (IntKind.wrap .i64 ((x0.f2.length : Int) - (1 : Int))))
      (cond (x1 == (0 : Int))
        (some (true))
        ((getI x0.f2 (IntKind.wrap .i64 (x1 - (1 : Int)))).bind fun g0 => (getI x0.f2 x1).bind fun g1 => cond (!(g0.f0.toList == g1.f0.toList))
          (some (true))
          (cond (inRange x2 (0 : Int) (IntKind.wrap .i64 ((g0.f3.length : Int) - (1 : Int))))
            ((getI g0.f3 x2).bind fun g2 => some (g2.f0 == (2 : Int)))
            (some (false)))))
      (some (false))
theorem s_PastOf_D {q0 : Kd} (x0 : GBoard) (x1 : Int) (x2 : Int) : Ans (s_PastOf_F x0 x1 x2) (fun r => Does E 21 [.agg (GBoard.t .far q0 x0), .one (tI x1), .one (tI x2)] [(false, [tB r])]) := by
  unfold s_PastOf_F
  refine Ans.ite (fun h0 => ?_) (fun h0 => ?_)
  · refine Ans.ite (fun h1 => ?_) (fun h1 => ?_)
    · exact Ans.some (s_PastOf_P0 (q0 := q0) x0 x1 x2 h0 h1)
    · refine Ans.bind (fun g0 h2 => ?_)
      refine Ans.bind (fun g1 h3 => ?_)
      refine Ans.ite (fun h4 => ?_) (fun h4 => ?_)
      · exact Ans.some (s_PastOf_P1 (q0 := q0) x0 x1 x2 g0 g1 h0 h1 h2 h3 h4)
      · refine Ans.ite (fun h5 => ?_) (fun h5 => ?_)
        · refine Ans.bind (fun g2 h6 => ?_)
          exact Ans.some (s_PastOf_P2 (q0 := q0) x0 x1 x2 g0 g1 g2 h0 h1 h2 h3 h4 h5 h6)
        · exact Ans.some (s_PastOf_P3 (q0 := q0) x0 x1 x2 g0 g1 h0 h1 h2 h3 h4 h5)
  · exact Ans.some (s_PastOf_P4 (q0 := q0) x0 x1 x2 h0)
-- loop.example/g00188/impl.PastOf
theorem i_PastOf_P0 {q0 : Kd} (x0 : GBoard) (x1 : Int) (x2 : Int) (h0 : (inRange x1 (0 : Int) (IntKind.wrap .i64 ((x0.f2.length : Int) - (1 : Int)))) = true) (h1 : (x1 == (0 : Int)) = true) : Does E 22 [.agg (GBoard.t .far q0 x0), .one (tI x1), .one (tI x2)] [(false, [tB true])] :=
  Does.path (fn := Try.f22) [.val (.int .i64 (x0.f2.length : Int)), .ret [(false, [tB true])], .b true] [fun _ => ((x0.f2.map (GRun.t q0)).length : Int) = (x0.f2.length : Int), fun k => E.C k 49 [.one (tI x1), .one (tI (0 : Int)), .one (tI (IntKind.wrap .i64 ((x0.f2.length : Int) - (1 : Int))))] = some [(false, [tB true])], fun _ => (x1 == (0 : Int)) = true] rfl rfl (fun k => by kernel_rfl) ⟨Ev.c lenMap, Does.to (T_i_inRange x1 (0 : Int) (IntKind.wrap .i64 ((x0.f2.length : Int) - (1 : Int)))) (by rw [h0]), Ev.c h1, trivial⟩
theorem i_PastOf_P1 {q0 : Kd} (x0 : GBoard) (x1 : Int) (x2 : Int) (g0 : GRun) (g1 : GRun) (h0 : (inRange x1 (0 : Int) (IntKind.wrap .i64 ((x0.f2.length : Int) - (1 : Int)))) = true) (h1 : (x1 == (0 : Int)) = false) (h2 : getI x0.f2 (IntKind.wrap .i64 (x1 - (1 : Int))) = some g0) (h3 : getI x0.f2 x1 = some g1) (h4 : (!(g0.f0.toList == g1.f0.toList)) = true) : Does E 22 [.agg (GBoard.t .far q0 x0), .one (tI x1), .one (tI x2)] [(false, [tB true])] :=
  Does.path (fn := Try.f22) [.val (.int .i64 (x0.f2.length : Int)), .ret [(false, [tB true])], .b false, .row ((GRun.t q0) g0), .row ((GRun.t q0) g1), .b true] [fun _ => ((x0.f2.map (GRun.t q0)).length : Int) = (x0.f2.length : Int), fun k => E.C k 49 [.one (tI x1), .one (tI (0 : Int)), .one (tI (IntKind.wrap .i64 ((x0.f2.length : Int) - (1 : Int))))] = some [(false, [tB true])], fun _ => (x1 == (0 : Int)) = false, fun _ => 0 ≤ (IntKind.wrap .i64 (x1 - (1 : Int))) ∧ (x0.f2.map (GRun.t q0))[(IntKind.wrap .i64 (x1 - (1 : Int))).toNat]? = some ((GRun.t q0) g0), fun _ => 0 ≤ x1 ∧ (x0.f2.map (GRun.t q0))[x1.toNat]? = some ((GRun.t q0) g1), fun _ => (!(g0.f0.toList == g1.f0.toList)) = true] rfl rfl (fun k => by kernel_rfl) ⟨Ev.c lenMap, Does.to (T_i_inRange x1 (0 : Int) (IntKind.wrap .i64 ((x0.f2.length : Int) - (1 : Int)))) (by rw [h0]), Ev.c h1, Ev.c (getRow h2), Ev.c (getRow h3), Ev.c h4, trivial⟩
theorem i_PastOf_P2 {q0 : Kd} (x0 : GBoard) (x1 : Int) (x2 : Int) (g0 : GRun) (g1 : GRun) (g2 : GState) (h0 : (inRange x1 (0 : Int) (IntKind.wrap .i64 ((x0.f2.length : Int) - (1 : Int)))) = true) (h1 : (x1 == (0 : Int)) = false) (h2 : getI x0.f2 (IntKind.wrap .i64 (x1 - (1 : Int))) = some g0) (h3 : getI x0.f2 x1 = some g1) (h4 : (!(g0.f0.toList == g1.f0.toList)) = false) (h5 : (inRange x2 (0 : Int) (IntKind.wrap .i64 ((g0.f3.length : Int) - (1 : Int)))) = true) (h6 : getI g0.f3 x2 = some g2) : Does E 22 [.agg (GBoard.t .far q0 x0), .one (tI x1), .one (tI x2)] [(false, [tB (g2.f0 == (2 : Int))])] :=
  Does.path (fn := Try.f22) [.val (.int .i64 (x0.f2.length : Int)), .ret [(false, [tB true])], .b false, .row ((GRun.t q0) g0), .row ((GRun.t q0) g1), .b false, .row ((GRun.t q0) g0), .val (.int .i64 (g0.f3.length : Int)), .ret [(false, [tB true])], .row (GState.t g2)] [fun _ => ((x0.f2.map (GRun.t q0)).length : Int) = (x0.f2.length : Int), fun k => E.C k 49 [.one (tI x1), .one (tI (0 : Int)), .one (tI (IntKind.wrap .i64 ((x0.f2.length : Int) - (1 : Int))))] = some [(false, [tB true])], fun _ => (x1 == (0 : Int)) = false, fun _ => 0 ≤ (IntKind.wrap .i64 (x1 - (1 : Int))) ∧ (x0.f2.map (GRun.t q0))[(IntKind.wrap .i64 (x1 - (1 : Int))).toNat]? = some ((GRun.t q0) g0), fun _ => 0 ≤ x1 ∧ (x0.f2.map (GRun.t q0))[x1.toNat]? = some ((GRun.t q0) g1), fun _ => (!(g0.f0.toList == g1.f0.toList)) = false, fun _ => 0 ≤ (IntKind.wrap .i64 (x1 - (1 : Int))) ∧ (x0.f2.map (GRun.t q0))[(IntKind.wrap .i64 (x1 - (1 : Int))).toNat]? = some ((GRun.t q0) g0), fun _ => ((g0.f3.map GState.t).length : Int) = (g0.f3.length : Int), fun k => E.C k 49 [.one (tI x2), .one (tI (0 : Int)), .one (tI (IntKind.wrap .i64 ((g0.f3.length : Int) - (1 : Int))))] = some [(false, [tB true])], fun _ => 0 ≤ x2 ∧ (g0.f3.map GState.t)[x2.toNat]? = some (GState.t g2)] rfl rfl (fun k => by kernel_rfl) ⟨Ev.c lenMap, Does.to (T_i_inRange x1 (0 : Int) (IntKind.wrap .i64 ((x0.f2.length : Int) - (1 : Int)))) (by rw [h0]), Ev.c h1, Ev.c (getRow h2), Ev.c (getRow h3), Ev.c h4, Ev.c (getRow h2), Ev.c lenMap, Does.to (T_i_inRange x2 (0 : Int) (IntKind.wrap .i64 ((g0.f3.length : Int) - (1 : Int)))) (by rw [h5]), Ev.c (getRow h6), trivial⟩
theorem i_PastOf_P3 {q0 : Kd} (x0 : GBoard) (x1 : Int) (x2 : Int) (g0 : GRun) (g1 : GRun) (h0 : (inRange x1 (0 : Int) (IntKind.wrap .i64 ((x0.f2.length : Int) - (1 : Int)))) = true) (h1 : (x1 == (0 : Int)) = false) (h2 : getI x0.f2 (IntKind.wrap .i64 (x1 - (1 : Int))) = some g0) (h3 : getI x0.f2 x1 = some g1) (h4 : (!(g0.f0.toList == g1.f0.toList)) = false) (h5 : (inRange x2 (0 : Int) (IntKind.wrap .i64 ((g0.f3.length : Int) - (1 : Int)))) = false) : Does E 22 [.agg (GBoard.t .far q0 x0), .one (tI x1), .one (tI x2)] [(false, [tB false])] :=
  Does.path (fn := Try.f22) [.val (.int .i64 (x0.f2.length : Int)), .ret [(false, [tB true])], .b false, .row ((GRun.t q0) g0), .row ((GRun.t q0) g1), .b false, .row ((GRun.t q0) g0), .val (.int .i64 (g0.f3.length : Int)), .ret [(false, [tB false])]] [fun _ => ((x0.f2.map (GRun.t q0)).length : Int) = (x0.f2.length : Int), fun k => E.C k 49 [.one (tI x1), .one (tI (0 : Int)), .one (tI (IntKind.wrap .i64 ((x0.f2.length : Int) - (1 : Int))))] = some [(false, [tB true])], fun _ => (x1 == (0 : Int)) = false, fun _ => 0 ≤ (IntKind.wrap .i64 (x1 - (1 : Int))) ∧ (x0.f2.map (GRun.t q0))[(IntKind.wrap .i64 (x1 - (1 : Int))).toNat]? = some ((GRun.t q0) g0), fun _ => 0 ≤ x1 ∧ (x0.f2.map (GRun.t q0))[x1.toNat]? = some ((GRun.t q0) g1), fun _ => (!(g0.f0.toList == g1.f0.toList)) = false, fun _ => 0 ≤ (IntKind.wrap .i64 (x1 - (1 : Int))) ∧ (x0.f2.map (GRun.t q0))[(IntKind.wrap .i64 (x1 - (1 : Int))).toNat]? = some ((GRun.t q0) g0), fun _ => ((g0.f3.map GState.t).length : Int) = (g0.f3.length : Int), fun k => E.C k 49 [.one (tI x2), .one (tI (0 : Int)), .one (tI (IntKind.wrap .i64 ((g0.f3.length : Int) - (1 : Int))))] = some [(false, [tB false])]] rfl rfl (fun k => by kernel_rfl) ⟨Ev.c lenMap, Does.to (T_i_inRange x1 (0 : Int) (IntKind.wrap .i64 ((x0.f2.length : Int) - (1 : Int)))) (by rw [h0]), Ev.c h1, Ev.c (getRow h2), Ev.c (getRow h3), Ev.c h4, Ev.c (getRow h2), Ev.c lenMap, Does.to (T_i_inRange x2 (0 : Int) (IntKind.wrap .i64 ((g0.f3.length : Int) - (1 : Int)))) (by rw [h5]), trivial⟩
theorem i_PastOf_P4 {q0 : Kd} (x0 : GBoard) (x1 : Int) (x2 : Int) (h0 : (inRange x1 (0 : Int) (IntKind.wrap .i64 ((x0.f2.length : Int) - (1 : Int)))) = false) : Does E 22 [.agg (GBoard.t .far q0 x0), .one (tI x1), .one (tI x2)] [(false, [tB false])] :=
  Does.path (fn := Try.f22) [.val (.int .i64 (x0.f2.length : Int)), .ret [(false, [tB false])]] [fun _ => ((x0.f2.map (GRun.t q0)).length : Int) = (x0.f2.length : Int), fun k => E.C k 49 [.one (tI x1), .one (tI (0 : Int)), .one (tI (IntKind.wrap .i64 ((x0.f2.length : Int) - (1 : Int))))] = some [(false, [tB false])]] rfl rfl (fun k => by kernel_rfl) ⟨Ev.c lenMap, Does.to (T_i_inRange x1 (0 : Int) (IntKind.wrap .i64 ((x0.f2.length : Int) - (1 : Int)))) (by rw [h0]), trivial⟩
noncomputable def i_PastOf_F (x0 : GBoard) (x1 : Int) (x2 : Int) : Option (Bool) :=
    cond (inRange x1 (0 : Int) (IntKind.wrap .i64 ((x0.f2.length : Int) - (1 : Int))))
      (cond (x1 == (0 : Int))
        (some (true))
        ((getI x0.f2 (IntKind.wrap .i64 (x1 - (1 : Int)))).bind fun g0 => (getI x0.f2 x1).bind fun g1 => cond (!(g0.f0.toList == g1.f0.toList))
          (some (true))
          (cond (inRange x2 (0 : Int) (IntKind.wrap .i64 ((g0.f3.length : Int) - (1 : Int))))
            ((getI g0.f3 x2).bind fun g2 => some (g2.f0 == (2 : Int)))
            (some (false)))))
      (some (false))
theorem i_PastOf_D {q0 : Kd} (x0 : GBoard) (x1 : Int) (x2 : Int) : Ans (i_PastOf_F x0 x1 x2) (fun r => Does E 22 [.agg (GBoard.t .far q0 x0), .one (tI x1), .one (tI x2)] [(false, [tB r])]) := by
  unfold i_PastOf_F
  refine Ans.ite (fun h0 => ?_) (fun h0 => ?_)
  · refine Ans.ite (fun h1 => ?_) (fun h1 => ?_)
    · exact Ans.some (i_PastOf_P0 (q0 := q0) x0 x1 x2 h0 h1)
    · refine Ans.bind (fun g0 h2 => ?_)
      refine Ans.bind (fun g1 h3 => ?_)
      refine Ans.ite (fun h4 => ?_) (fun h4 => ?_)
      · exact Ans.some (i_PastOf_P1 (q0 := q0) x0 x1 x2 g0 g1 h0 h1 h2 h3 h4)
      · refine Ans.ite (fun h5 => ?_) (fun h5 => ?_)
        · refine Ans.bind (fun g2 h6 => ?_)
          exact Ans.some (i_PastOf_P2 (q0 := q0) x0 x1 x2 g0 g1 g2 h0 h1 h2 h3 h4 h5 h6)
        · exact Ans.some (i_PastOf_P3 (q0 := q0) x0 x1 x2 g0 g1 h0 h1 h2 h3 h4 h5)
  · exact Ans.some (i_PastOf_P4 (q0 := q0) x0 x1 x2 h0)
noncomputable def pastOf (b : GBoard) (k i : Int) : Bool := (s_PastOf_F b k i).getD false
theorem inRange_get {α : Type} {l : List α} {k : Int} (h : inRange k 0 (IntKind.wrap .i64 ((l.length : Int) - 1)) = true) (hl : l.length ≤ 1050000) : 0 ≤ k ∧ k < (l.length : Int) := by
  unfold inRange at h
  rw [wrap_id _ (by omega) (by omega)] at h
  simp only [Bool.and_eq_true, decide_eq_true_eq] at h
  omega
theorem getI_in {α : Type} {l : List α} {k : Int} (h : 0 ≤ k ∧ k < (l.length : Int)) : ∃ x, getI l k = some x ∧ x ∈ l := by
  unfold getI
  rw [if_pos h.1, List.getElem?_eq_getElem (by omega)]
  exact ⟨_, rfl, List.getElem_mem _⟩
theorem past_ok (b : GBoard) (k i : Int) (h : Small.sm b) : s_PastOf_F b k i = some (pastOf b k i) ∧ i_PastOf_F b k i = some (pastOf b k i) := by
  have e : i_PastOf_F b k i = s_PastOf_F b k i := rfl
  rw [e]
  refine ⟨?_, ?_⟩ <;>
  · refine Tot.getD ?_ _
    unfold s_PastOf_F
    by_cases q : inRange k 0 (IntKind.wrap .i64 ((b.f2.length : Int) - 1)) = true
    · have hk := inRange_get q h.2.2.1
      have hl := h.2.2.1
      rw [q, cond_true]
      by_cases q2 : k = 0
      · subst q2; exact Tot.some _
      · rw [show (k == (0 : Int)) = false from beq_eq_false_iff_ne.2 q2, cond_false]
        have e1 : IntKind.wrap .i64 (k - 1) = k - 1 := wrap_id _ (by omega) (by omega)
        obtain ⟨x, hx, hm⟩ := getI_in (l := b.f2) (k := k - 1) (by omega)
        obtain ⟨y, hy, _⟩ := getI_in hk
        rw [e1, hx, hy]
        simp only [Option.bind_some]
        refine Tot.cond (Tot.some _) ?_
        by_cases q3 : inRange i 0 (IntKind.wrap .i64 ((x.f3.length : Int) - 1)) = true
        · obtain ⟨z, hz, _⟩ := getI_in (inRange_get q3 (h.2.2.2 x hm).2.2.1)
          rw [q3, hz]
          exact Tot.some _
        · rw [Bool.not_eq_true] at q3; rw [q3]; exact Tot.some _
    · rw [Bool.not_eq_true] at q; rw [q]; exact Tot.some _
theorem T_s_PastOf {q0 : Kd} (x0 : GBoard) (x1 : Int) (x2 : Int) (h : Small.sm x0) : Does E 21 [.agg (GBoard.t .far q0 x0), .one (tI x1), .one (tI x2)] [(false, [tB (pastOf x0 x1 x2)])] := by
  exact s_PastOf_D x0 x1 x2 _ (past_ok x0 x1 x2 h).1
theorem T_i_PastOf {q0 : Kd} (x0 : GBoard) (x1 : Int) (x2 : Int) (h : Small.sm x0) : Does E 22 [.agg (GBoard.t .far q0 x0), .one (tI x1), .one (tI x2)] [(false, [tB (pastOf x0 x1 x2)])] := by
  exact i_PastOf_D x0 x1 x2 _ (past_ok x0 x1 x2 h).2
-- loop.example/g00188/laws.FnExactPastOf
theorem l_FnExactPastOf_P0 {q0 : Kd} (x0 : LBoard) (x1 : Int) (x2 : Int) (h0 : Wf.wf x0) (h1 : (decide ((p_l_szBoard x0 (1048576 : Int)) < (0 : Int))) = true) : Does E 6 [.agg (LBoard.t .far q0 x0), .one (tI x1), .one (tI x2)] [(false, [tB true])] :=
  Does.path (fn := Try.f6) [.ret [(false, [tI (p_l_szBoard x0 (1048576 : Int))])], .b true] [fun k => E.C k 12 [.agg (LBoard.t .far q0 x0), .one (tI (1048576 : Int))] = some [(false, [tI (p_l_szBoard x0 (1048576 : Int))])], fun _ => (decide ((p_l_szBoard x0 (1048576 : Int)) < (0 : Int))) = true] rfl rfl (fun k => by kernel_rfl) ⟨T_l_szBoard x0 (1048576 : Int) h0, Ev.c h1, trivial⟩
theorem l_FnExactPastOf_P1 {q0 : Kd} (x0 : LBoard) (x1 : Int) (x2 : Int) (h0 : Wf.wf x0) (h1 : (decide ((p_l_szBoard x0 (1048576 : Int)) < (0 : Int))) = false) (h2 : Small.sm x0) (h3 : Small.sm (p_l_toBoard x0)) (h4 : (!((pastOf (p_l_toBoard x0) x1 x2) == (pastOf (p_l_toBoard x0) x1 x2))) = true) : Does E 6 [.agg (LBoard.t .far q0 x0), .one (tI x1), .one (tI x2)] [(false, [tB false])] :=
  Does.path (fn := Try.f6) [.ret [(false, [tI (p_l_szBoard x0 (1048576 : Int))])], .b false, .ret [(true, GBoard.t .own .own (p_l_toBoard x0))], .ret [(false, [tB (pastOf (p_l_toBoard x0) x1 x2)])], .ret [(true, GBoard.t .own .own (p_l_toBoard x0))], .ret [(false, [tB (pastOf (p_l_toBoard x0) x1 x2)])], .b true] [fun k => E.C k 12 [.agg (LBoard.t .far q0 x0), .one (tI (1048576 : Int))] = some [(false, [tI (p_l_szBoard x0 (1048576 : Int))])], fun _ => (decide ((p_l_szBoard x0 (1048576 : Int)) < (0 : Int))) = false, fun k => E.C k 14 [.agg (LBoard.t .far q0 x0)] = some [(true, GBoard.t .own .own (p_l_toBoard x0))], fun k => E.C k 21 [.agg (GBoard.t .far .own (p_l_toBoard x0)), .one (tI x1), .one (tI x2)] = some [(false, [tB (pastOf (p_l_toBoard x0) x1 x2)])], fun k => E.C k 14 [.agg (LBoard.t .far q0 x0)] = some [(true, GBoard.t .own .own (p_l_toBoard x0))], fun k => E.C k 22 [.agg (GBoard.t .far .own (p_l_toBoard x0)), .one (tI x1), .one (tI x2)] = some [(false, [tB (pastOf (p_l_toBoard x0) x1 x2)])], fun _ => (!((pastOf (p_l_toBoard x0) x1 x2) == (pastOf (p_l_toBoard x0) x1 x2))) = true] rfl rfl (fun k => by kernel_rfl) ⟨T_l_szBoard x0 (1048576 : Int) h0, Ev.c h1, T_l_toBoard x0 h2, T_s_PastOf (p_l_toBoard x0) x1 x2 h3, T_l_toBoard x0 h2, T_i_PastOf (p_l_toBoard x0) x1 x2 h3, Ev.c h4, trivial⟩
theorem l_FnExactPastOf_P2 {q0 : Kd} (x0 : LBoard) (x1 : Int) (x2 : Int) (h0 : Wf.wf x0) (h1 : (decide ((p_l_szBoard x0 (1048576 : Int)) < (0 : Int))) = false) (h2 : Small.sm x0) (h3 : Small.sm (p_l_toBoard x0)) (h4 : (!((pastOf (p_l_toBoard x0) x1 x2) == (pastOf (p_l_toBoard x0) x1 x2))) = false) (h5 : (p_l_toBoard x0) = (p_l_toBoard x0)) (h6 : (yes (p_l_toBoard x0) (p_l_toBoard x0)) = true) : Does E 6 [.agg (LBoard.t .far q0 x0), .one (tI x1), .one (tI x2)] [(false, [tB true])] :=
  Does.path (fn := Try.f6) [.ret [(false, [tI (p_l_szBoard x0 (1048576 : Int))])], .b false, .ret [(true, GBoard.t .own .own (p_l_toBoard x0))], .ret [(false, [tB (pastOf (p_l_toBoard x0) x1 x2)])], .ret [(true, GBoard.t .own .own (p_l_toBoard x0))], .ret [(false, [tB (pastOf (p_l_toBoard x0) x1 x2)])], .b false, .ret [(true, GBoard.t .own .own (p_l_toBoard x0))], .ret [(false, [tB true])]] [fun k => E.C k 12 [.agg (LBoard.t .far q0 x0), .one (tI (1048576 : Int))] = some [(false, [tI (p_l_szBoard x0 (1048576 : Int))])], fun _ => (decide ((p_l_szBoard x0 (1048576 : Int)) < (0 : Int))) = false, fun k => E.C k 14 [.agg (LBoard.t .far q0 x0)] = some [(true, GBoard.t .own .own (p_l_toBoard x0))], fun k => E.C k 21 [.agg (GBoard.t .far .own (p_l_toBoard x0)), .one (tI x1), .one (tI x2)] = some [(false, [tB (pastOf (p_l_toBoard x0) x1 x2)])], fun k => E.C k 14 [.agg (LBoard.t .far q0 x0)] = some [(true, GBoard.t .own .own (p_l_toBoard x0))], fun k => E.C k 22 [.agg (GBoard.t .far .own (p_l_toBoard x0)), .one (tI x1), .one (tI x2)] = some [(false, [tB (pastOf (p_l_toBoard x0) x1 x2)])], fun _ => (!((pastOf (p_l_toBoard x0) x1 x2) == (pastOf (p_l_toBoard x0) x1 x2))) = false, fun k => E.C k 14 [.agg (LBoard.t .far q0 x0)] = some [(true, GBoard.t .own .own (p_l_toBoard x0))], fun k => E.C k 16 [.agg (GBoard.t .far .own (p_l_toBoard x0)), .agg (GBoard.t .far .own (p_l_toBoard x0))] = some [(false, [tB true])]] rfl rfl (fun k => by kernel_rfl) ⟨T_l_szBoard x0 (1048576 : Int) h0, Ev.c h1, T_l_toBoard x0 h2, T_s_PastOf (p_l_toBoard x0) x1 x2 h3, T_l_toBoard x0 h2, T_i_PastOf (p_l_toBoard x0) x1 x2 h3, Ev.c h4, T_l_toBoard x0 h2, Does.to (T_l_eqBoard (p_l_toBoard x0) (p_l_toBoard x0) h5 h3) (by rw [h6]), trivial⟩
theorem l_FnExactPastOf_P3 {q0 : Kd} (x0 : LBoard) (x1 : Int) (x2 : Int) (h0 : Wf.wf x0) (h1 : (decide ((p_l_szBoard x0 (1048576 : Int)) < (0 : Int))) = false) (h2 : Small.sm x0) (h3 : Small.sm (p_l_toBoard x0)) (h4 : (!((pastOf (p_l_toBoard x0) x1 x2) == (pastOf (p_l_toBoard x0) x1 x2))) = false) (h5 : (p_l_toBoard x0) = (p_l_toBoard x0)) (h6 : (yes (p_l_toBoard x0) (p_l_toBoard x0)) = false) : Does E 6 [.agg (LBoard.t .far q0 x0), .one (tI x1), .one (tI x2)] [(false, [tB false])] :=
  Does.path (fn := Try.f6) [.ret [(false, [tI (p_l_szBoard x0 (1048576 : Int))])], .b false, .ret [(true, GBoard.t .own .own (p_l_toBoard x0))], .ret [(false, [tB (pastOf (p_l_toBoard x0) x1 x2)])], .ret [(true, GBoard.t .own .own (p_l_toBoard x0))], .ret [(false, [tB (pastOf (p_l_toBoard x0) x1 x2)])], .b false, .ret [(true, GBoard.t .own .own (p_l_toBoard x0))], .ret [(false, [tB false])]] [fun k => E.C k 12 [.agg (LBoard.t .far q0 x0), .one (tI (1048576 : Int))] = some [(false, [tI (p_l_szBoard x0 (1048576 : Int))])], fun _ => (decide ((p_l_szBoard x0 (1048576 : Int)) < (0 : Int))) = false, fun k => E.C k 14 [.agg (LBoard.t .far q0 x0)] = some [(true, GBoard.t .own .own (p_l_toBoard x0))], fun k => E.C k 21 [.agg (GBoard.t .far .own (p_l_toBoard x0)), .one (tI x1), .one (tI x2)] = some [(false, [tB (pastOf (p_l_toBoard x0) x1 x2)])], fun k => E.C k 14 [.agg (LBoard.t .far q0 x0)] = some [(true, GBoard.t .own .own (p_l_toBoard x0))], fun k => E.C k 22 [.agg (GBoard.t .far .own (p_l_toBoard x0)), .one (tI x1), .one (tI x2)] = some [(false, [tB (pastOf (p_l_toBoard x0) x1 x2)])], fun _ => (!((pastOf (p_l_toBoard x0) x1 x2) == (pastOf (p_l_toBoard x0) x1 x2))) = false, fun k => E.C k 14 [.agg (LBoard.t .far q0 x0)] = some [(true, GBoard.t .own .own (p_l_toBoard x0))], fun k => E.C k 16 [.agg (GBoard.t .far .own (p_l_toBoard x0)), .agg (GBoard.t .far .own (p_l_toBoard x0))] = some [(false, [tB false])]] rfl rfl (fun k => by kernel_rfl) ⟨T_l_szBoard x0 (1048576 : Int) h0, Ev.c h1, T_l_toBoard x0 h2, T_s_PastOf (p_l_toBoard x0) x1 x2 h3, T_l_toBoard x0 h2, T_i_PastOf (p_l_toBoard x0) x1 x2 h3, Ev.c h4, T_l_toBoard x0 h2, Does.to (T_l_eqBoard (p_l_toBoard x0) (p_l_toBoard x0) h5 h3) (by rw [h6]), trivial⟩
noncomputable def l_FnExactPastOf_F (x0 : LBoard) (x1 : Int) (x2 : Int) : Option (Bool) :=
    if Wf.wf x0 then cond (decide ((p_l_szBoard x0 (1048576 : Int)) < (0 : Int)))
      (some (true))
      (if Small.sm x0 then if Small.sm (p_l_toBoard x0) then cond (!((pastOf (p_l_toBoard x0) x1 x2) == (pastOf (p_l_toBoard x0) x1 x2)))
        (some (false))
        (if (p_l_toBoard x0) = (p_l_toBoard x0) then cond (yes (p_l_toBoard x0) (p_l_toBoard x0))
          (some (true))
          (some (false)) else none) else none else none) else none
theorem l_FnExactPastOf_D {q0 : Kd} (x0 : LBoard) (x1 : Int) (x2 : Int) : Ans (l_FnExactPastOf_F x0 x1 x2) (fun r => Does E 6 [.agg (LBoard.t .far q0 x0), .one (tI x1), .one (tI x2)] [(false, [tB r])]) := by
  unfold l_FnExactPastOf_F
  refine Ans.pre (fun h0 => ?_)
  refine Ans.ite (fun h1 => ?_) (fun h1 => ?_)
  · exact Ans.some (l_FnExactPastOf_P0 (q0 := q0) x0 x1 x2 h0 h1)
  · refine Ans.pre (fun h2 => ?_)
    refine Ans.pre (fun h3 => ?_)
    refine Ans.ite (fun h4 => ?_) (fun h4 => ?_)
    · exact Ans.some (l_FnExactPastOf_P1 (q0 := q0) x0 x1 x2 h0 h1 h2 h3 h4)
    · refine Ans.pre (fun h5 => ?_)
      refine Ans.ite (fun h6 => ?_) (fun h6 => ?_)
      · exact Ans.some (l_FnExactPastOf_P2 (q0 := q0) x0 x1 x2 h0 h1 h2 h3 h4 h5 h6)
      · exact Ans.some (l_FnExactPastOf_P3 (q0 := q0) x0 x1 x2 h0 h1 h2 h3 h4 h5 h6)
theorem T_law_PastOf {q0 : Kd} (x0 : LBoard) (x1 : Int) (x2 : Int) (h : Wf.wf x0) : Does E 6 [.agg (LBoard.t .far q0 x0), .one (tI x1), .one (tI x2)] [(false, [tB true])] := by
  have hs := le_l_szBoard x0 1048576 h (by omega) (by omega)
  exact l_FnExactPastOf_D x0 x1 x2 _ (by
    unfold l_FnExactPastOf_F
    refine lawPre h (lawSz fun q => ?_)
    have hs := (hs q).2
    have ht := sm_l_toBoard hs
    simp [hs, ht, yes])
end Go.Proofs.Ytohlonlaadmikaa.Am
namespace Go.Proofs.Ytohlonlaadmikaa.Am
set_option linter.unusedVariables false
set_option linter.unusedSimpArgs false
open Go Go.Proofs Classical
set_option maxRecDepth 100000
set_option linter.unusedVariables false
set_option linter.unusedSimpArgs false
-- loop.example/g00188/spec.PlanAt
inductive s_PlanAt_X0 where
  | ret (v4 : Int)
  | x0 
def s_PlanAt_Q0 {q0 : Kd} (v1 : ByteArray) (v2_0 : List GSession) (v2_1 : List GPlan) (v2_2 : List GRun) (v2_3 : Int) (v2_4 : Int) (v5 : Int) : s_PlanAt_X0 → Prop
  | .ret zv4 => Loops E 13 (lpAt Try.f13 0) (stL 23 [(1, .one (tS v1)), (2, .box () [.s .far () 3 (v2_0.map GSession.t), .s .far () 9 (v2_1.map (GPlan.t q0 q0)), .s .far () 5 (v2_2.map (GRun.t q0)), tI v2_3, tI v2_4]), (5, .one (tI v5))]) .ret (stL 23 [(4, .one (tI zv4))])
  | .x0 => Loops E 13 (lpAt Try.f13 0) (stL 23 [(1, .one (tS v1)), (2, .box () [.s .far () 3 (v2_0.map GSession.t), .s .far () 9 (v2_1.map (GPlan.t q0 q0)), .s .far () 5 (v2_2.map (GRun.t q0)), tI v2_3, tI v2_4]), (5, .one (tI v5))]) (.exit 0) (stL 23 [])
theorem s_PlanAt_R0_0 {q0 : Kd} (v1 : ByteArray) (v2_0 : List GSession) (v2_1 : List GPlan) (v2_2 : List GRun) (v2_3 : Int) (v2_4 : Int) (v5 : Int) (g0 : GPlan) (h0 : (decide (v5 < (v2_1.length : Int))) = true) (h1 : getI v2_1 v5 = some g0) (h2 : (g0.f0.f0.toList == v1.toList) = true) : Round E 13 (lpAt Try.f13 0) (stL 23 [(1, .one (tS v1)), (2, .box () [.s .far () 3 (v2_0.map GSession.t), .s .far () 9 (v2_1.map (GPlan.t q0 q0)), .s .far () 5 (v2_2.map (GRun.t q0)), tI v2_3, tI v2_4]), (5, .one (tI v5))]) .ret (stL 23 [(4, .one (tI v5))]) :=
  Round.path [.val (.int .i64 (v2_1.length : Int)), .b true, .row ((GPlan.t q0 q0) g0), .b true] [fun _ => ((v2_1.map (GPlan.t q0 q0)).length : Int) = (v2_1.length : Int), fun _ => (decide (v5 < (v2_1.length : Int))) = true, fun _ => 0 ≤ v5 ∧ (v2_1.map (GPlan.t q0 q0))[v5.toNat]? = some ((GPlan.t q0 q0) g0), fun _ => (g0.f0.f0.toList == v1.toList) = true] (fun k => by kernel_rfl) ⟨Ev.c lenMap, Ev.c h0, Ev.c (getRow h1), Ev.c h2, trivial⟩
theorem s_PlanAt_R0_1 {q0 : Kd} (v1 : ByteArray) (v2_0 : List GSession) (v2_1 : List GPlan) (v2_2 : List GRun) (v2_3 : Int) (v2_4 : Int) (v5 : Int) (g0 : GPlan) (h0 : (decide (v5 < (v2_1.length : Int))) = true) (h1 : getI v2_1 v5 = some g0) (h2 : (g0.f0.f0.toList == v1.toList) = false) : Round E 13 (lpAt Try.f13 0) (stL 23 [(1, .one (tS v1)), (2, .box () [.s .far () 3 (v2_0.map GSession.t), .s .far () 9 (v2_1.map (GPlan.t q0 q0)), .s .far () 5 (v2_2.map (GRun.t q0)), tI v2_3, tI v2_4]), (5, .one (tI v5))]) .normal (stL 23 [(1, .one (tS v1)), (2, .box () [.s .far () 3 (v2_0.map GSession.t), .s .far () 9 (v2_1.map (GPlan.t q0 q0)), .s .far () 5 (v2_2.map (GRun.t q0)), tI v2_3, tI v2_4]), (5, .one (tI (IntKind.wrap .i64 (v5 + (1 : Int)))))]) :=
  Round.path [.val (.int .i64 (v2_1.length : Int)), .b true, .row ((GPlan.t q0 q0) g0), .b false] [fun _ => ((v2_1.map (GPlan.t q0 q0)).length : Int) = (v2_1.length : Int), fun _ => (decide (v5 < (v2_1.length : Int))) = true, fun _ => 0 ≤ v5 ∧ (v2_1.map (GPlan.t q0 q0))[v5.toNat]? = some ((GPlan.t q0 q0) g0), fun _ => (g0.f0.f0.toList == v1.toList) = false] (fun k => by kernel_rfl) ⟨Ev.c lenMap, Ev.c h0, Ev.c (getRow h1), Ev.c h2, trivial⟩
theorem s_PlanAt_R0_2 {q0 : Kd} (v1 : ByteArray) (v2_0 : List GSession) (v2_1 : List GPlan) (v2_2 : List GRun) (v2_3 : Int) (v2_4 : Int) (v5 : Int) (h0 : (decide (v5 < (v2_1.length : Int))) = false) : Round E 13 (lpAt Try.f13 0) (stL 23 [(1, .one (tS v1)), (2, .box () [.s .far () 3 (v2_0.map GSession.t), .s .far () 9 (v2_1.map (GPlan.t q0 q0)), .s .far () 5 (v2_2.map (GRun.t q0)), tI v2_3, tI v2_4]), (5, .one (tI v5))]) (.exit 0) (stL 23 []) :=
  Round.path [.val (.int .i64 (v2_1.length : Int)), .b false] [fun _ => ((v2_1.map (GPlan.t q0 q0)).length : Int) = (v2_1.length : Int), fun _ => (decide (v5 < (v2_1.length : Int))) = false] (fun k => by kernel_rfl) ⟨Ev.c lenMap, Ev.c h0, trivial⟩
noncomputable def s_PlanAt_l0 (v1 : ByteArray) : List GPlan → Nat → Option s_PlanAt_X0
  | [], i => some (.x0)
  | hd :: rest, i => cond (hd.f0.f0.toList == v1.toList)
    (some (.ret (i : Int)))
    (s_PlanAt_l0 v1 rest (i + 1))
theorem s_PlanAt_L0 {q0 : Kd} (v1 : ByteArray) (v2_0 : List GSession) (v2_1 : List GPlan) (v2_2 : List GRun) (v2_3 : Int) (v2_4 : Int) (rest : List GPlan) : ∀ (i : Nat) , (v2_1).drop i = rest → v2_1.length ≤ 9223372036854775807 → Ans (s_PlanAt_l0 v1 rest i) (s_PlanAt_Q0 (q0 := q0) v1 v2_0 v2_1 v2_2 v2_3 v2_4 (i : Int)) := by
  induction rest with
  | nil =>
    intro i hE hl
    have hb := foldEnd hE
    unfold s_PlanAt_l0
    exact Ans.some (Loops.stop (s_PlanAt_R0_2 (q0 := q0) v1 v2_0 v2_1 v2_2 v2_3 v2_4 (i : Int) hb) (by intro h; cases h))
  | cons hd rest ih =>
    intro i hE hl
    have hb := foldMore hE
    have hw := foldNext hE hl
    have hE2 := foldRest hE
    have hg := foldGet hE
    unfold s_PlanAt_l0
    refine Ans.ite (fun h2 => ?_) (fun h2 => ?_)
    · exact Ans.some (Loops.stop (s_PlanAt_R0_0 (q0 := q0) v1 v2_0 v2_1 v2_2 v2_3 v2_4 (i : Int) hd hb hg h2) (by intro h; cases h))
    · exact (ih (i + 1) hE2 hl).mono fun y hy => by
                have r := s_PlanAt_R0_1 (q0 := q0) v1 v2_0 v2_1 v2_2 v2_3 v2_4 (i : Int) hd hb hg h2
                rw [hw] at r
                cases y <;> exact Loops.next r hy
theorem s_PlanAt_P0 {q0 : Kd} (x0 : GBoard) (x1 : ByteArray) (w0_4 : Int) (h0 : Loops E 13 (lpAt Try.f13 0) (stL 23 [(1, .one (tS x1)), (2, .box () [.s .far () 3 (x0.f0.map GSession.t), .s .far () 9 (x0.f1.map (GPlan.t q0 q0)), .s .far () 5 (x0.f2.map (GRun.t q0)), tI x0.f3, tI x0.f4]), (5, .one (tI (0 : Int)))]) .ret (stL 23 [(4, .one (tI w0_4))])) : Does E 13 [.agg (GBoard.t .far q0 x0), .one (tS x1)] [(false, [tI w0_4])] :=
  Does.path (fn := Try.f13) [.lp .ret (stL 23 [(4, .one (tI w0_4))])] [fun k => LoopK E 13 (lpAt Try.f13 0) (stL 23 [(1, .one (tS x1)), (2, .box () [.s .far () 3 (x0.f0.map GSession.t), .s .far () 9 (x0.f1.map (GPlan.t q0 q0)), .s .far () 5 (x0.f2.map (GRun.t q0)), tI x0.f3, tI x0.f4]), (5, .one (tI (0 : Int)))]) .ret (stL 23 [(4, .one (tI w0_4))]) k k] rfl rfl (fun k => by kernel_rfl) ⟨Loops.ev h0, trivial⟩
theorem s_PlanAt_P1 {q0 : Kd} (x0 : GBoard) (x1 : ByteArray) (h0 : Loops E 13 (lpAt Try.f13 0) (stL 23 [(1, .one (tS x1)), (2, .box () [.s .far () 3 (x0.f0.map GSession.t), .s .far () 9 (x0.f1.map (GPlan.t q0 q0)), .s .far () 5 (x0.f2.map (GRun.t q0)), tI x0.f3, tI x0.f4]), (5, .one (tI (0 : Int)))]) (.exit 0) (stL 23 [])) : Does E 13 [.agg (GBoard.t .far q0 x0), .one (tS x1)] [(false, [tI (-1 : Int)])] :=
  Does.path (fn := Try.f13) [.lp (.exit 0) (stL 23 [])] [fun k => LoopK E 13 (lpAt Try.f13 0) (stL 23 [(1, .one (tS x1)), (2, .box () [.s .far () 3 (x0.f0.map GSession.t), .s .far () 9 (x0.f1.map (GPlan.t q0 q0)), .s .far () 5 (x0.f2.map (GRun.t q0)), tI x0.f3, tI x0.f4]), (5, .one (tI (0 : Int)))]) (.exit 0) (stL 23 []) k k] rfl rfl (fun k => by kernel_rfl) ⟨Loops.ev h0, trivial⟩
noncomputable def s_PlanAt_F (x0 : GBoard) (x1 : ByteArray) : Option (Int) :=
    if x0.f1.length ≤ 9223372036854775807 then (s_PlanAt_l0 x1 x0.f1 0).bind fun y => match y with
      | .ret w0_4 => (some (w0_4))
      | .x0 => (some ((-1 : Int))) else none
theorem s_PlanAt_D {q0 : Kd} (x0 : GBoard) (x1 : ByteArray) : Ans (s_PlanAt_F x0 x1) (fun r => Does E 13 [.agg (GBoard.t .far q0 x0), .one (tS x1)] [(false, [tI r])]) := by
  unfold s_PlanAt_F
  refine Ans.pre (fun hl1 => ?_)
  refine Ans.bind (fun y hy => ?_)
  replace hy := s_PlanAt_L0 (q0 := q0) x1 x0.f0 x0.f1 x0.f2 x0.f3 x0.f4 x0.f1 0 rfl hl1 y hy
  cases y with
  | ret w0_4 =>
    have h0 := hy
    exact Ans.some (s_PlanAt_P0 (q0 := q0) x0 x1 w0_4 h0)
  | x0 =>
    have h0 := hy
    exact Ans.some (s_PlanAt_P1 (q0 := q0) x0 x1 h0)
-- loop.example/g00188/impl.PlanAt$1
theorem i_PlanAt_1_P0 {q0 : Kd} (x0 : GPlan) (y0 : ByteArray)  : Does E 42 [.agg (GPlan.t .far q0 x0), .im .far () [tS y0] 0] [(false, [tB (x0.f0.f0.toList == y0.toList)])] :=
  Does.path (fn := Try.f42) [] [] rfl rfl (fun k => by kernel_rfl) trivial
noncomputable def i_PlanAt_1_F (x0 : GPlan) (y0 : ByteArray) : Option (Bool) :=
    some (x0.f0.f0.toList == y0.toList)
theorem i_PlanAt_1_D {q0 : Kd} (x0 : GPlan) (y0 : ByteArray) : Ans (i_PlanAt_1_F x0 y0) (fun r => Does E 42 [.agg (GPlan.t .far q0 x0), .im .far () [tS y0] 0] [(false, [tB r])]) := by
  unfold i_PlanAt_1_F
  exact Ans.some (i_PlanAt_1_P0 (q0 := q0) x0 y0)
def planHas (x : GPlan) (n : ByteArray) : Bool := x.f0.f0.toList == n.toList
theorem T_i_PlanAt_1 {q0 : Kd} (x0 : GPlan) (y0 : ByteArray) : Does E 42 [.agg (GPlan.t .far q0 x0), .im .far () [tS y0] 0] [(false, [tB (planHas x0 y0)])] := by
  exact i_PlanAt_1_D x0 y0 _ rfl
-- slices.IndexFunc[[]loop.example/g00188/impl.Plan,loop.example/g00188/impl.Plan]
inductive slices_IndexFunc_Plan_i_PlanAt_1_X0 where
  | ret (v4 : Int)
  | x0 
def slices_IndexFunc_Plan_i_PlanAt_1_Q0 {q0 : Kd} (v0 : List GPlan) (v1_0_0 : ByteArray) (v7 : Int) (v8 : Int) : slices_IndexFunc_Plan_i_PlanAt_1_X0 → Prop
  | .ret zv4 => Loops E 41 (lpAt Try.f41 0) (stL 19 [(0, .one (.s .far () 9 (v0.map (GPlan.t q0 q0)))), (1, .fni 42 [((), [tS v1_0_0])]), (7, .one (tI v7)), (8, .one (tI v8))]) .ret (stL 19 [(4, .one (tI zv4))])
  | .x0 => Loops E 41 (lpAt Try.f41 0) (stL 19 [(0, .one (.s .far () 9 (v0.map (GPlan.t q0 q0)))), (1, .fni 42 [((), [tS v1_0_0])]), (7, .one (tI v7)), (8, .one (tI v8))]) (.exit 0) (stL 19 [])
theorem slices_IndexFunc_Plan_i_PlanAt_1_R0_0 {q0 : Kd} (v0 : List GPlan) (v1_0_0 : ByteArray) (v7 : Int) (v8 : Int) (g0 : GPlan) (h0 : (decide (v8 < v7)) = true) (h1 : getI v0 v8 = some g0) (h2 : (planHas g0 v1_0_0) = true) : Round E 41 (lpAt Try.f41 0) (stL 19 [(0, .one (.s .far () 9 (v0.map (GPlan.t q0 q0)))), (1, .fni 42 [((), [tS v1_0_0])]), (7, .one (tI v7)), (8, .one (tI v8))]) .ret (stL 19 [(4, .one (tI v8))]) :=
  Round.path [.b true, .row ((GPlan.t q0 q0) g0), .ret [(false, [tB true])]] [fun _ => (decide (v8 < v7)) = true, fun _ => 0 ≤ v8 ∧ (v0.map (GPlan.t q0 q0))[v8.toNat]? = some ((GPlan.t q0 q0) g0), fun k => E.C k 42 [.agg (GPlan.t .far q0 g0), .im .far () [tS v1_0_0] 0] = some [(false, [tB true])]] (fun k => by kernel_rfl) ⟨Ev.c h0, Ev.c (getRow h1), Does.to (T_i_PlanAt_1 g0 v1_0_0) (by rw [h2]), trivial⟩
theorem slices_IndexFunc_Plan_i_PlanAt_1_R0_1 {q0 : Kd} (v0 : List GPlan) (v1_0_0 : ByteArray) (v7 : Int) (v8 : Int) (g0 : GPlan) (h0 : (decide (v8 < v7)) = true) (h1 : getI v0 v8 = some g0) (h2 : (planHas g0 v1_0_0) = false) : Round E 41 (lpAt Try.f41 0) (stL 19 [(0, .one (.s .far () 9 (v0.map (GPlan.t q0 q0)))), (1, .fni 42 [((), [tS v1_0_0])]), (7, .one (tI v7)), (8, .one (tI v8))]) .normal (stL 19 [(0, .one (.s .far () 9 (v0.map (GPlan.t q0 q0)))), (1, .fni 42 [((), [tS v1_0_0])]), (7, .one (tI v7)), (8, .one (tI (IntKind.wrap .i64 (v8 + (1 : Int)))))]) :=
  Round.path [.b true, .row ((GPlan.t q0 q0) g0), .ret [(false, [tB false])]] [fun _ => (decide (v8 < v7)) = true, fun _ => 0 ≤ v8 ∧ (v0.map (GPlan.t q0 q0))[v8.toNat]? = some ((GPlan.t q0 q0) g0), fun k => E.C k 42 [.agg (GPlan.t .far q0 g0), .im .far () [tS v1_0_0] 0] = some [(false, [tB false])]] (fun k => by kernel_rfl) ⟨Ev.c h0, Ev.c (getRow h1), Does.to (T_i_PlanAt_1 g0 v1_0_0) (by rw [h2]), trivial⟩
theorem slices_IndexFunc_Plan_i_PlanAt_1_R0_2 {q0 : Kd} (v0 : List GPlan) (v1_0_0 : ByteArray) (v7 : Int) (v8 : Int) (h0 : (decide (v8 < v7)) = false) : Round E 41 (lpAt Try.f41 0) (stL 19 [(0, .one (.s .far () 9 (v0.map (GPlan.t q0 q0)))), (1, .fni 42 [((), [tS v1_0_0])]), (7, .one (tI v7)), (8, .one (tI v8))]) (.exit 0) (stL 19 []) :=
  Round.path [.b false] [fun _ => (decide (v8 < v7)) = false] (fun k => by kernel_rfl) ⟨Ev.c h0, trivial⟩
noncomputable def slices_IndexFunc_Plan_i_PlanAt_1_l0 (v1_0_0 : ByteArray) : List GPlan → Nat → Option slices_IndexFunc_Plan_i_PlanAt_1_X0
  | [], i => some (.x0)
  | hd :: rest, i => cond (planHas hd v1_0_0)
    (some (.ret (i : Int)))
    (slices_IndexFunc_Plan_i_PlanAt_1_l0 v1_0_0 rest (i + 1))
theorem slices_IndexFunc_Plan_i_PlanAt_1_L0 {q0 : Kd} (v0 : List GPlan) (v1_0_0 : ByteArray) (rest : List GPlan) : ∀ (i : Nat) , (v0).drop i = rest → v0.length ≤ 9223372036854775807 → Ans (slices_IndexFunc_Plan_i_PlanAt_1_l0 v1_0_0 rest i) (slices_IndexFunc_Plan_i_PlanAt_1_Q0 (q0 := q0) v0 v1_0_0 (v0.length : Int) (i : Int)) := by
  induction rest with
  | nil =>
    intro i hE hl
    have hb := foldEnd hE
    unfold slices_IndexFunc_Plan_i_PlanAt_1_l0
    exact Ans.some (Loops.stop (slices_IndexFunc_Plan_i_PlanAt_1_R0_2 (q0 := q0) v0 v1_0_0 (v0.length : Int) (i : Int) hb) (by intro h; cases h))
  | cons hd rest ih =>
    intro i hE hl
    have hb := foldMore hE
    have hw := foldNext hE hl
    have hE2 := foldRest hE
    have hg := foldGet hE
    unfold slices_IndexFunc_Plan_i_PlanAt_1_l0
    refine Ans.ite (fun h2 => ?_) (fun h2 => ?_)
    · exact Ans.some (Loops.stop (slices_IndexFunc_Plan_i_PlanAt_1_R0_0 (q0 := q0) v0 v1_0_0 (v0.length : Int) (i : Int) hd hb hg h2) (by intro h; cases h))
    · exact (ih (i + 1) hE2 hl).mono fun y hy => by
                have r := slices_IndexFunc_Plan_i_PlanAt_1_R0_1 (q0 := q0) v0 v1_0_0 (v0.length : Int) (i : Int) hd hb hg h2
                rw [hw] at r
                cases y <;> exact Loops.next r hy
theorem slices_IndexFunc_Plan_i_PlanAt_1_P0 {q0 : Kd} (x0 : List GPlan) (c1_0 : ByteArray) (w0_4 : Int) (h0 : Loops E 41 (lpAt Try.f41 0) (stL 19 [(0, .one (.s .far () 9 (x0.map (GPlan.t q0 q0)))), (1, .fni 42 [((), [tS c1_0])]), (7, .one (tI (x0.length : Int))), (8, .one (tI (0 : Int)))]) .ret (stL 19 [(4, .one (tI w0_4))])) : Does E 41 [.one (.s .far () 9 (x0.map (GPlan.t q0 q0))), .fni 42 [((), [tS c1_0])]] [(false, [tI w0_4])] :=
  Does.path (fn := Try.f41) [.val (.int .i64 (x0.length : Int)), .lp .ret (stL 19 [(4, .one (tI w0_4))])] [fun _ => ((x0.map (GPlan.t q0 q0)).length : Int) = (x0.length : Int), fun k => LoopK E 41 (lpAt Try.f41 0) (stL 19 [(0, .one (.s .far () 9 (x0.map (GPlan.t q0 q0)))), (1, .fni 42 [((), [tS c1_0])]), (7, .one (tI (x0.length : Int))), (8, .one (tI (0 : Int)))]) .ret (stL 19 [(4, .one (tI w0_4))]) k k] rfl rfl (fun k => by kernel_rfl) ⟨Ev.c lenMap, Loops.ev h0, trivial⟩
theorem slices_IndexFunc_Plan_i_PlanAt_1_P1 {q0 : Kd} (x0 : List GPlan) (c1_0 : ByteArray) (h0 : Loops E 41 (lpAt Try.f41 0) (stL 19 [(0, .one (.s .far () 9 (x0.map (GPlan.t q0 q0)))), (1, .fni 42 [((), [tS c1_0])]), (7, .one (tI (x0.length : Int))), (8, .one (tI (0 : Int)))]) (.exit 0) (stL 19 [])) : Does E 41 [.one (.s .far () 9 (x0.map (GPlan.t q0 q0))), .fni 42 [((), [tS c1_0])]] [(false, [tI (-1 : Int)])] :=
  Does.path (fn := Try.f41) [.val (.int .i64 (x0.length : Int)), .lp (.exit 0) (stL 19 [])] [fun _ => ((x0.map (GPlan.t q0 q0)).length : Int) = (x0.length : Int), fun k => LoopK E 41 (lpAt Try.f41 0) (stL 19 [(0, .one (.s .far () 9 (x0.map (GPlan.t q0 q0)))), (1, .fni 42 [((), [tS c1_0])]), (7, .one (tI (x0.length : Int))), (8, .one (tI (0 : Int)))]) (.exit 0) (stL 19 []) k k] rfl rfl (fun k => by kernel_rfl) ⟨Ev.c lenMap, Loops.ev h0, trivial⟩
noncomputable def slices_IndexFunc_Plan_i_PlanAt_1_F (x0 : List GPlan) (c1_0 : ByteArray) : Option (Int) :=
    if x0.length ≤ 9223372036854775807 then (slices_IndexFunc_Plan_i_PlanAt_1_l0 c1_0 x0 0).bind fun y => match y with
      | .ret w0_4 => (some (w0_4))
      | .x0 => (some ((-1 : Int))) else none
theorem slices_IndexFunc_Plan_i_PlanAt_1_D {q0 : Kd} (x0 : List GPlan) (c1_0 : ByteArray) : Ans (slices_IndexFunc_Plan_i_PlanAt_1_F x0 c1_0) (fun r => Does E 41 [.one (.s .far () 9 (x0.map (GPlan.t q0 q0))), .fni 42 [((), [tS c1_0])]] [(false, [tI r])]) := by
  unfold slices_IndexFunc_Plan_i_PlanAt_1_F
  refine Ans.pre (fun hl1 => ?_)
  refine Ans.bind (fun y hy => ?_)
  replace hy := slices_IndexFunc_Plan_i_PlanAt_1_L0 (q0 := q0) x0 c1_0 x0 0 rfl hl1 y hy
  cases y with
  | ret w0_4 =>
    have h0 := hy
    exact Ans.some (slices_IndexFunc_Plan_i_PlanAt_1_P0 (q0 := q0) x0 c1_0 w0_4 h0)
  | x0 =>
    have h0 := hy
    exact Ans.some (slices_IndexFunc_Plan_i_PlanAt_1_P1 (q0 := q0) x0 c1_0 h0)
noncomputable def planIdx (l : List GPlan) (n : ByteArray) : Int := (slices_IndexFunc_Plan_i_PlanAt_1_F l n).getD (-1)
noncomputable def planAt (b : GBoard) (n : ByteArray) : Int := planIdx b.f1 n
theorem plan_l (n : ByteArray) : ∀ (rest : List GPlan) (i : Nat),
    (∃ k : Nat, s_PlanAt_l0 n rest i = some (.ret (k : Int)) ∧ slices_IndexFunc_Plan_i_PlanAt_1_l0 n rest i = some (.ret (k : Int)) ∧ k < i + rest.length) ∨ s_PlanAt_l0 n rest i = some .x0 ∧ slices_IndexFunc_Plan_i_PlanAt_1_l0 n rest i = some .x0
  | [], i => .inr ⟨rfl, rfl⟩
  | x :: rest, i => by
    unfold s_PlanAt_l0 slices_IndexFunc_Plan_i_PlanAt_1_l0 planHas
    cases x.f0.f0.toList == n.toList with
    | true => exact .inl ⟨i, rfl, rfl, by simp⟩
    | false =>
      rcases plan_l n rest (i + 1) with ⟨k, h1, h2, h3⟩ | h
      · exact .inl ⟨k, h1, h2, by simp; omega⟩
      · exact .inr h
theorem plan_ok (b : GBoard) (n : ByteArray) (h : b.f1.length ≤ 1050000) : s_PlanAt_F b n = some (planAt b n) ∧ slices_IndexFunc_Plan_i_PlanAt_1_F b.f1 n = some (planAt b n) ∧ -1 ≤ planAt b n ∧ planAt b n < (b.f1.length : Int) := by
  unfold planAt planIdx s_PlanAt_F slices_IndexFunc_Plan_i_PlanAt_1_F
  rw [if_pos (by omega), if_pos (by omega)]
  rcases plan_l n b.f1 0 with ⟨k, h1, h2, h3⟩ | ⟨h1, h2⟩
  · rw [h1, h2]; exact ⟨rfl, rfl, show (-1 : Int) ≤ (k : Int) by omega, show (k : Int) < _ by omega⟩
  · rw [h1, h2]; exact ⟨rfl, rfl, show (-1 : Int) ≤ -1 by omega, show (-1 : Int) < _ by omega⟩
theorem T_s_PlanAt {q0 : Kd} (x0 : GBoard) (x1 : ByteArray) (h : Small.sm x0) : Does E 13 [.agg (GBoard.t .far q0 x0), .one (tS x1)] [(false, [tI (planAt x0 x1)])] := by
  exact s_PlanAt_D x0 x1 _ (plan_ok x0 x1 h.2.1.1).1
theorem T_slices_IndexFunc_Plan_i_PlanAt_1 {q0 : Kd} (x0 : List GPlan) (c1_0 : ByteArray) (h : x0.length ≤ 1050000) : Does E 41 [.one (.s .far () 9 (x0.map (GPlan.t q0 q0))), .fni 42 [((), [tS c1_0])]] [(false, [tI (planIdx x0 c1_0)])] := by
  exact slices_IndexFunc_Plan_i_PlanAt_1_D x0 c1_0 _ (plan_ok ⟨[], x0, [], 0, 0⟩ c1_0 h).2.1
-- loop.example/g00188/impl.PlanAt
theorem i_PlanAt_P0 {q0 : Kd} (x0 : GBoard) (x1 : ByteArray) (h0 : x0.f1.length ≤ 1050000) : Does E 15 [.agg (GBoard.t .far q0 x0), .one (tS x1)] [(false, [tI (planIdx x0.f1 x1)])] :=
  Does.path (fn := Try.f15) [.ret [(false, [tI (planIdx x0.f1 x1)])]] [fun k => E.C k 41 [.one (.s .far () 9 (x0.f1.map (GPlan.t q0 q0))), .fni 42 [((), [tS x1])]] = some [(false, [tI (planIdx x0.f1 x1)])]] rfl rfl (fun k => by kernel_rfl) ⟨T_slices_IndexFunc_Plan_i_PlanAt_1 x0.f1 x1 h0, trivial⟩
noncomputable def i_PlanAt_F (x0 : GBoard) (x1 : ByteArray) : Option (Int) :=
    if x0.f1.length ≤ 1050000 then some (planIdx x0.f1 x1) else none
theorem i_PlanAt_D {q0 : Kd} (x0 : GBoard) (x1 : ByteArray) : Ans (i_PlanAt_F x0 x1) (fun r => Does E 15 [.agg (GBoard.t .far q0 x0), .one (tS x1)] [(false, [tI r])]) := by
  unfold i_PlanAt_F
  refine Ans.pre (fun h0 => ?_)
  exact Ans.some (i_PlanAt_P0 (q0 := q0) x0 x1 h0)
theorem T_i_PlanAt {q0 : Kd} (x0 : GBoard) (x1 : ByteArray) (h : Small.sm x0) : Does E 15 [.agg (GBoard.t .far q0 x0), .one (tS x1)] [(false, [tI (planAt x0 x1)])] := by
  exact i_PlanAt_D x0 x1 _ (by unfold i_PlanAt_F; rw [if_pos h.2.1.1]; rfl)
end Go.Proofs.Ytohlonlaadmikaa.Am
namespace Go.Proofs.Ytohlonlaadmikaa.Am
set_option linter.unusedVariables false
set_option linter.unusedSimpArgs false
open Go Go.Proofs Classical
set_option maxRecDepth 100000
set_option linter.unusedVariables false
set_option linter.unusedSimpArgs false
-- loop.example/g00188/spec.UsedBy
inductive s_UsedBy_X1 where
  | x2 (v5 : Int)
def s_UsedBy_Q1 {q0 : Kd} (v1 : ByteArray) (v2_0 : List GSession) (v2_1 : List GPlan) (v2_2 : List GRun) (v2_3 : Int) (v2_4 : Int) (v5 : Int) (v6 : Int) (v7 : Int) (v8 : Int) : s_UsedBy_X1 → Prop
  | .x2 zv5 => Loops E 23 (lpAt Try.f23 1) (stL 80 [(1, .one (tS v1)), (2, .box () [.s .far () 3 (v2_0.map GSession.t), .s .far () 9 (v2_1.map (GPlan.t q0 q0)), .s .far () 5 (v2_2.map (GRun.t q0)), tI v2_3, tI v2_4]), (5, .one (tI v5)), (6, .one (tI v6)), (7, .one (tI v7)), (8, .one (tI v8))]) (.exit 2) (stL 80 [(1, .one (tS v1)), (2, .box () [.s .far () 3 (v2_0.map GSession.t), .s .far () 9 (v2_1.map (GPlan.t q0 q0)), .s .far () 5 (v2_2.map (GRun.t q0)), tI v2_3, tI v2_4]), (5, .one (tI zv5)), (6, .one (tI v6))])
theorem s_UsedBy_R1_0 {q0 : Kd} (v1 : ByteArray) (v2_0 : List GSession) (v2_1 : List GPlan) (v2_2 : List GRun) (v2_3 : Int) (v2_4 : Int) (v5 : Int) (v6 : Int) (v7 : Int) (v8 : Int) (g0 : GRun) (g1 : GState) (g2 : GPlan) (g3 : GTask) (h0 : getI v2_2 v6 = some g0) (h1 : (decide (v8 < (g0.f3.length : Int))) = true) (h2 : (decide (v7 ≥ (0 : Int))) = true) (h3 : getI g0.f3 v8 = some g1) (h4 : (g1.f0 == (1 : Int)) = true) (h5 : getI v2_1 v7 = some g2) (h6 : (decide (v8 < (g2.f0.f5.length : Int))) = true) (h7 : getI g2.f0.f5 v8 = some g3) (h8 : (g3.f1.toList == v1.toList) = true) : Round E 23 (lpAt Try.f23 1) (stL 80 [(1, .one (tS v1)), (2, .box () [.s .far () 3 (v2_0.map GSession.t), .s .far () 9 (v2_1.map (GPlan.t q0 q0)), .s .far () 5 (v2_2.map (GRun.t q0)), tI v2_3, tI v2_4]), (5, .one (tI v5)), (6, .one (tI v6)), (7, .one (tI v7)), (8, .one (tI v8))]) .normal (stL 80 [(1, .one (tS v1)), (2, .box () [.s .far () 3 (v2_0.map GSession.t), .s .far () 9 (v2_1.map (GPlan.t q0 q0)), .s .far () 5 (v2_2.map (GRun.t q0)), tI v2_3, tI v2_4]), (5, .one (tI (IntKind.wrap .i64 (v5 + (1 : Int))))), (6, .one (tI v6)), (7, .one (tI v7)), (8, .one (tI (IntKind.wrap .i64 (v8 + (1 : Int)))))]) :=
  Round.path [.row ((GRun.t q0) g0), .val (.int .i64 (g0.f3.length : Int)), .b true, .b true, .row ((GRun.t q0) g0), .row (GState.t g1), .b true, .row ((GPlan.t q0 q0) g2), .val (.int .i64 (g2.f0.f5.length : Int)), .b true, .row ((GPlan.t q0 q0) g2), .row ((GTask.t q0) g3), .b true] [fun _ => 0 ≤ v6 ∧ (v2_2.map (GRun.t q0))[v6.toNat]? = some ((GRun.t q0) g0), fun _ => ((g0.f3.map GState.t).length : Int) = (g0.f3.length : Int), fun _ => (decide (v8 < (g0.f3.length : Int))) = true, fun _ => (decide (v7 ≥ (0 : Int))) = true, fun _ => 0 ≤ v6 ∧ (v2_2.map (GRun.t q0))[v6.toNat]? = some ((GRun.t q0) g0), fun _ => 0 ≤ v8 ∧ (g0.f3.map GState.t)[v8.toNat]? = some (GState.t g1), fun _ => (g1.f0 == (1 : Int)) = true, fun _ => 0 ≤ v7 ∧ (v2_1.map (GPlan.t q0 q0))[v7.toNat]? = some ((GPlan.t q0 q0) g2), fun _ => ((g2.f0.f5.map (GTask.t q0)).length : Int) = (g2.f0.f5.length : Int), fun _ => (decide (v8 < (g2.f0.f5.length : Int))) = true, fun _ => 0 ≤ v7 ∧ (v2_1.map (GPlan.t q0 q0))[v7.toNat]? = some ((GPlan.t q0 q0) g2), fun _ => 0 ≤ v8 ∧ (g2.f0.f5.map (GTask.t q0))[v8.toNat]? = some ((GTask.t q0) g3), fun _ => (g3.f1.toList == v1.toList) = true] (fun k => by kernel_rfl) ⟨Ev.c (getRow h0), Ev.c lenMap, Ev.c h1, Ev.c h2, Ev.c (getRow h0), Ev.c (getRow h3), Ev.c h4, Ev.c (getRow h5), Ev.c lenMap, Ev.c h6, Ev.c (getRow h5), Ev.c (getRow h7), Ev.c h8, trivial⟩
theorem s_UsedBy_R1_1 {q0 : Kd} (v1 : ByteArray) (v2_0 : List GSession) (v2_1 : List GPlan) (v2_2 : List GRun) (v2_3 : Int) (v2_4 : Int) (v5 : Int) (v6 : Int) (v7 : Int) (v8 : Int) (g0 : GRun) (g1 : GState) (g2 : GPlan) (g3 : GTask) (h0 : getI v2_2 v6 = some g0) (h1 : (decide (v8 < (g0.f3.length : Int))) = true) (h2 : (decide (v7 ≥ (0 : Int))) = true) (h3 : getI g0.f3 v8 = some g1) (h4 : (g1.f0 == (1 : Int)) = true) (h5 : getI v2_1 v7 = some g2) (h6 : (decide (v8 < (g2.f0.f5.length : Int))) = true) (h7 : getI g2.f0.f5 v8 = some g3) (h8 : (g3.f1.toList == v1.toList) = false) : Round E 23 (lpAt Try.f23 1) (stL 80 [(1, .one (tS v1)), (2, .box () [.s .far () 3 (v2_0.map GSession.t), .s .far () 9 (v2_1.map (GPlan.t q0 q0)), .s .far () 5 (v2_2.map (GRun.t q0)), tI v2_3, tI v2_4]), (5, .one (tI v5)), (6, .one (tI v6)), (7, .one (tI v7)), (8, .one (tI v8))]) .normal (stL 80 [(1, .one (tS v1)), (2, .box () [.s .far () 3 (v2_0.map GSession.t), .s .far () 9 (v2_1.map (GPlan.t q0 q0)), .s .far () 5 (v2_2.map (GRun.t q0)), tI v2_3, tI v2_4]), (5, .one (tI v5)), (6, .one (tI v6)), (7, .one (tI v7)), (8, .one (tI (IntKind.wrap .i64 (v8 + (1 : Int)))))]) :=
  Round.path [.row ((GRun.t q0) g0), .val (.int .i64 (g0.f3.length : Int)), .b true, .b true, .row ((GRun.t q0) g0), .row (GState.t g1), .b true, .row ((GPlan.t q0 q0) g2), .val (.int .i64 (g2.f0.f5.length : Int)), .b true, .row ((GPlan.t q0 q0) g2), .row ((GTask.t q0) g3), .b false] [fun _ => 0 ≤ v6 ∧ (v2_2.map (GRun.t q0))[v6.toNat]? = some ((GRun.t q0) g0), fun _ => ((g0.f3.map GState.t).length : Int) = (g0.f3.length : Int), fun _ => (decide (v8 < (g0.f3.length : Int))) = true, fun _ => (decide (v7 ≥ (0 : Int))) = true, fun _ => 0 ≤ v6 ∧ (v2_2.map (GRun.t q0))[v6.toNat]? = some ((GRun.t q0) g0), fun _ => 0 ≤ v8 ∧ (g0.f3.map GState.t)[v8.toNat]? = some (GState.t g1), fun _ => (g1.f0 == (1 : Int)) = true, fun _ => 0 ≤ v7 ∧ (v2_1.map (GPlan.t q0 q0))[v7.toNat]? = some ((GPlan.t q0 q0) g2), fun _ => ((g2.f0.f5.map (GTask.t q0)).length : Int) = (g2.f0.f5.length : Int), fun _ => (decide (v8 < (g2.f0.f5.length : Int))) = true, fun _ => 0 ≤ v7 ∧ (v2_1.map (GPlan.t q0 q0))[v7.toNat]? = some ((GPlan.t q0 q0) g2), fun _ => 0 ≤ v8 ∧ (g2.f0.f5.map (GTask.t q0))[v8.toNat]? = some ((GTask.t q0) g3), fun _ => (g3.f1.toList == v1.toList) = false] (fun k => by kernel_rfl) ⟨Ev.c (getRow h0), Ev.c lenMap, Ev.c h1, Ev.c h2, Ev.c (getRow h0), Ev.c (getRow h3), Ev.c h4, Ev.c (getRow h5), Ev.c lenMap, Ev.c h6, Ev.c (getRow h5), Ev.c (getRow h7), Ev.c h8, trivial⟩
theorem s_UsedBy_R1_2 {q0 : Kd} (v1 : ByteArray) (v2_0 : List GSession) (v2_1 : List GPlan) (v2_2 : List GRun) (v2_3 : Int) (v2_4 : Int) (v5 : Int) (v6 : Int) (v7 : Int) (v8 : Int) (g0 : GRun) (g1 : GState) (g2 : GPlan) (h0 : getI v2_2 v6 = some g0) (h1 : (decide (v8 < (g0.f3.length : Int))) = true) (h2 : (decide (v7 ≥ (0 : Int))) = true) (h3 : getI g0.f3 v8 = some g1) (h4 : (g1.f0 == (1 : Int)) = true) (h5 : getI v2_1 v7 = some g2) (h6 : (decide (v8 < (g2.f0.f5.length : Int))) = false) : Round E 23 (lpAt Try.f23 1) (stL 80 [(1, .one (tS v1)), (2, .box () [.s .far () 3 (v2_0.map GSession.t), .s .far () 9 (v2_1.map (GPlan.t q0 q0)), .s .far () 5 (v2_2.map (GRun.t q0)), tI v2_3, tI v2_4]), (5, .one (tI v5)), (6, .one (tI v6)), (7, .one (tI v7)), (8, .one (tI v8))]) .normal (stL 80 [(1, .one (tS v1)), (2, .box () [.s .far () 3 (v2_0.map GSession.t), .s .far () 9 (v2_1.map (GPlan.t q0 q0)), .s .far () 5 (v2_2.map (GRun.t q0)), tI v2_3, tI v2_4]), (5, .one (tI v5)), (6, .one (tI v6)), (7, .one (tI v7)), (8, .one (tI (IntKind.wrap .i64 (v8 + (1 : Int)))))]) :=
  Round.path [.row ((GRun.t q0) g0), .val (.int .i64 (g0.f3.length : Int)), .b true, .b true, .row ((GRun.t q0) g0), .row (GState.t g1), .b true, .row ((GPlan.t q0 q0) g2), .val (.int .i64 (g2.f0.f5.length : Int)), .b false] [fun _ => 0 ≤ v6 ∧ (v2_2.map (GRun.t q0))[v6.toNat]? = some ((GRun.t q0) g0), fun _ => ((g0.f3.map GState.t).length : Int) = (g0.f3.length : Int), fun _ => (decide (v8 < (g0.f3.length : Int))) = true, fun _ => (decide (v7 ≥ (0 : Int))) = true, fun _ => 0 ≤ v6 ∧ (v2_2.map (GRun.t q0))[v6.toNat]? = some ((GRun.t q0) g0), fun _ => 0 ≤ v8 ∧ (g0.f3.map GState.t)[v8.toNat]? = some (GState.t g1), fun _ => (g1.f0 == (1 : Int)) = true, fun _ => 0 ≤ v7 ∧ (v2_1.map (GPlan.t q0 q0))[v7.toNat]? = some ((GPlan.t q0 q0) g2), fun _ => ((g2.f0.f5.map (GTask.t q0)).length : Int) = (g2.f0.f5.length : Int), fun _ => (decide (v8 < (g2.f0.f5.length : Int))) = false] (fun k => by kernel_rfl) ⟨Ev.c (getRow h0), Ev.c lenMap, Ev.c h1, Ev.c h2, Ev.c (getRow h0), Ev.c (getRow h3), Ev.c h4, Ev.c (getRow h5), Ev.c lenMap, Ev.c h6, trivial⟩
theorem s_UsedBy_R1_3 {q0 : Kd} (v1 : ByteArray) (v2_0 : List GSession) (v2_1 : List GPlan) (v2_2 : List GRun) (v2_3 : Int) (v2_4 : Int) (v5 : Int) (v6 : Int) (v7 : Int) (v8 : Int) (g0 : GRun) (g1 : GState) (h0 : getI v2_2 v6 = some g0) (h1 : (decide (v8 < (g0.f3.length : Int))) = true) (h2 : (decide (v7 ≥ (0 : Int))) = true) (h3 : getI g0.f3 v8 = some g1) (h4 : (g1.f0 == (1 : Int)) = false) : Round E 23 (lpAt Try.f23 1) (stL 80 [(1, .one (tS v1)), (2, .box () [.s .far () 3 (v2_0.map GSession.t), .s .far () 9 (v2_1.map (GPlan.t q0 q0)), .s .far () 5 (v2_2.map (GRun.t q0)), tI v2_3, tI v2_4]), (5, .one (tI v5)), (6, .one (tI v6)), (7, .one (tI v7)), (8, .one (tI v8))]) .normal (stL 80 [(1, .one (tS v1)), (2, .box () [.s .far () 3 (v2_0.map GSession.t), .s .far () 9 (v2_1.map (GPlan.t q0 q0)), .s .far () 5 (v2_2.map (GRun.t q0)), tI v2_3, tI v2_4]), (5, .one (tI v5)), (6, .one (tI v6)), (7, .one (tI v7)), (8, .one (tI (IntKind.wrap .i64 (v8 + (1 : Int)))))]) :=
  Round.path [.row ((GRun.t q0) g0), .val (.int .i64 (g0.f3.length : Int)), .b true, .b true, .row ((GRun.t q0) g0), .row (GState.t g1), .b false] [fun _ => 0 ≤ v6 ∧ (v2_2.map (GRun.t q0))[v6.toNat]? = some ((GRun.t q0) g0), fun _ => ((g0.f3.map GState.t).length : Int) = (g0.f3.length : Int), fun _ => (decide (v8 < (g0.f3.length : Int))) = true, fun _ => (decide (v7 ≥ (0 : Int))) = true, fun _ => 0 ≤ v6 ∧ (v2_2.map (GRun.t q0))[v6.toNat]? = some ((GRun.t q0) g0), fun _ => 0 ≤ v8 ∧ (g0.f3.map GState.t)[v8.toNat]? = some (GState.t g1), fun _ => (g1.f0 == (1 : Int)) = false] (fun k => by kernel_rfl) ⟨Ev.c (getRow h0), Ev.c lenMap, Ev.c h1, Ev.c h2, Ev.c (getRow h0), Ev.c (getRow h3), Ev.c h4, trivial⟩
theorem s_UsedBy_R1_4 {q0 : Kd} (v1 : ByteArray) (v2_0 : List GSession) (v2_1 : List GPlan) (v2_2 : List GRun) (v2_3 : Int) (v2_4 : Int) (v5 : Int) (v6 : Int) (v7 : Int) (v8 : Int) (g0 : GRun) (h0 : getI v2_2 v6 = some g0) (h1 : (decide (v8 < (g0.f3.length : Int))) = true) (h2 : (decide (v7 ≥ (0 : Int))) = false) : Round E 23 (lpAt Try.f23 1) (stL 80 [(1, .one (tS v1)), (2, .box () [.s .far () 3 (v2_0.map GSession.t), .s .far () 9 (v2_1.map (GPlan.t q0 q0)), .s .far () 5 (v2_2.map (GRun.t q0)), tI v2_3, tI v2_4]), (5, .one (tI v5)), (6, .one (tI v6)), (7, .one (tI v7)), (8, .one (tI v8))]) (.exit 2) (stL 80 [(1, .one (tS v1)), (2, .box () [.s .far () 3 (v2_0.map GSession.t), .s .far () 9 (v2_1.map (GPlan.t q0 q0)), .s .far () 5 (v2_2.map (GRun.t q0)), tI v2_3, tI v2_4]), (5, .one (tI v5)), (6, .one (tI v6))]) :=
  Round.path [.row ((GRun.t q0) g0), .val (.int .i64 (g0.f3.length : Int)), .b true, .b false] [fun _ => 0 ≤ v6 ∧ (v2_2.map (GRun.t q0))[v6.toNat]? = some ((GRun.t q0) g0), fun _ => ((g0.f3.map GState.t).length : Int) = (g0.f3.length : Int), fun _ => (decide (v8 < (g0.f3.length : Int))) = true, fun _ => (decide (v7 ≥ (0 : Int))) = false] (fun k => by kernel_rfl) ⟨Ev.c (getRow h0), Ev.c lenMap, Ev.c h1, Ev.c h2, trivial⟩
theorem s_UsedBy_R1_5 {q0 : Kd} (v1 : ByteArray) (v2_0 : List GSession) (v2_1 : List GPlan) (v2_2 : List GRun) (v2_3 : Int) (v2_4 : Int) (v5 : Int) (v6 : Int) (v7 : Int) (v8 : Int) (g0 : GRun) (h0 : getI v2_2 v6 = some g0) (h1 : (decide (v8 < (g0.f3.length : Int))) = false) : Round E 23 (lpAt Try.f23 1) (stL 80 [(1, .one (tS v1)), (2, .box () [.s .far () 3 (v2_0.map GSession.t), .s .far () 9 (v2_1.map (GPlan.t q0 q0)), .s .far () 5 (v2_2.map (GRun.t q0)), tI v2_3, tI v2_4]), (5, .one (tI v5)), (6, .one (tI v6)), (7, .one (tI v7)), (8, .one (tI v8))]) (.exit 2) (stL 80 [(1, .one (tS v1)), (2, .box () [.s .far () 3 (v2_0.map GSession.t), .s .far () 9 (v2_1.map (GPlan.t q0 q0)), .s .far () 5 (v2_2.map (GRun.t q0)), tI v2_3, tI v2_4]), (5, .one (tI v5)), (6, .one (tI v6))]) :=
  Round.path [.row ((GRun.t q0) g0), .val (.int .i64 (g0.f3.length : Int)), .b false] [fun _ => 0 ≤ v6 ∧ (v2_2.map (GRun.t q0))[v6.toNat]? = some ((GRun.t q0) g0), fun _ => ((g0.f3.map GState.t).length : Int) = (g0.f3.length : Int), fun _ => (decide (v8 < (g0.f3.length : Int))) = false] (fun k => by kernel_rfl) ⟨Ev.c (getRow h0), Ev.c lenMap, Ev.c h1, trivial⟩
noncomputable def s_UsedBy_l1 (v1 : ByteArray) (v2_1 : List GPlan) (v7 : Int) : List GState → Nat → Int → Option s_UsedBy_X1
  | [], i, v5 => some (.x2 v5)
  | hd :: rest, i, v5 => cond (decide (v7 ≥ (0 : Int)))
    (cond (hd.f0 == (1 : Int))
      ((getI v2_1 v7).bind fun g2 => cond (decide ((i : Int) < (g2.f0.f5.length : Int)))
        ((getI g2.f0.f5 (i : Int)).bind fun g3 => cond (g3.f1.toList == v1.toList)
          (s_UsedBy_l1 v1 v2_1 v7 rest (i + 1) (IntKind.wrap .i64 (v5 + (1 : Int))))
          (s_UsedBy_l1 v1 v2_1 v7 rest (i + 1) v5))
        (s_UsedBy_l1 v1 v2_1 v7 rest (i + 1) v5))
      (s_UsedBy_l1 v1 v2_1 v7 rest (i + 1) v5))
    (some (.x2 v5))
theorem s_UsedBy_L1 {q0 : Kd} (v1 : ByteArray) (v2_0 : List GSession) (v2_1 : List GPlan) (v2_2 : List GRun) (v2_3 : Int) (v2_4 : Int) (v6 : Int) (v7 : Int) (g0 : GRun) (hq0 : getI v2_2 v6 = some g0) (rest : List GState) : ∀ (i : Nat) (v5 : Int), (g0.f3).drop i = rest → g0.f3.length ≤ 9223372036854775807 → Ans (s_UsedBy_l1 v1 v2_1 v7 rest i v5) (s_UsedBy_Q1 (q0 := q0) v1 v2_0 v2_1 v2_2 v2_3 v2_4 v5 v6 v7 (i : Int)) := by
  induction rest with
  | nil =>
    intro i v5 hE hl
    have hb := foldEnd hE
    unfold s_UsedBy_l1
    exact Ans.some (Loops.stop (s_UsedBy_R1_5 (q0 := q0) v1 v2_0 v2_1 v2_2 v2_3 v2_4 v5 v6 v7 (i : Int) g0 hq0 hb) (by intro h; cases h))
  | cons hd rest ih =>
    intro i v5 hE hl
    have hb := foldMore hE
    have hw := foldNext hE hl
    have hE2 := foldRest hE
    have hg := foldGet hE
    unfold s_UsedBy_l1
    refine Ans.ite (fun h2 => ?_) (fun h2 => ?_)
    · refine Ans.ite (fun h4 => ?_) (fun h4 => ?_)
      · refine Ans.bind (fun g2 h5 => ?_)
        refine Ans.ite (fun h6 => ?_) (fun h6 => ?_)
        · refine Ans.bind (fun g3 h7 => ?_)
          refine Ans.ite (fun h8 => ?_) (fun h8 => ?_)
          · exact (ih (i + 1) (IntKind.wrap .i64 (v5 + (1 : Int))) hE2 hl).mono fun y hy => by
                have r := s_UsedBy_R1_0 (q0 := q0) v1 v2_0 v2_1 v2_2 v2_3 v2_4 v5 v6 v7 (i : Int) g0 hd g2 g3 hq0 hb h2 hg h4 h5 h6 h7 h8
                rw [hw] at r
                cases y <;> exact Loops.next r hy
          · exact (ih (i + 1) v5 hE2 hl).mono fun y hy => by
                have r := s_UsedBy_R1_1 (q0 := q0) v1 v2_0 v2_1 v2_2 v2_3 v2_4 v5 v6 v7 (i : Int) g0 hd g2 g3 hq0 hb h2 hg h4 h5 h6 h7 h8
                rw [hw] at r
                cases y <;> exact Loops.next r hy
        · exact (ih (i + 1) v5 hE2 hl).mono fun y hy => by
                have r := s_UsedBy_R1_2 (q0 := q0) v1 v2_0 v2_1 v2_2 v2_3 v2_4 v5 v6 v7 (i : Int) g0 hd g2 hq0 hb h2 hg h4 h5 h6
                rw [hw] at r
                cases y <;> exact Loops.next r hy
      · exact (ih (i + 1) v5 hE2 hl).mono fun y hy => by
                have r := s_UsedBy_R1_3 (q0 := q0) v1 v2_0 v2_1 v2_2 v2_3 v2_4 v5 v6 v7 (i : Int) g0 hd hq0 hb h2 hg h4
                rw [hw] at r
                cases y <;> exact Loops.next r hy
    · exact Ans.some (Loops.stop (s_UsedBy_R1_4 (q0 := q0) v1 v2_0 v2_1 v2_2 v2_3 v2_4 v5 v6 v7 (i : Int) g0 hq0 hb h2) (by intro h; cases h))
inductive s_UsedBy_X0 where
  | x0 (v5 : Int)
def s_UsedBy_Q0 {q0 : Kd} (v1 : ByteArray) (v2_0 : List GSession) (v2_1 : List GPlan) (v2_2 : List GRun) (v2_3 : Int) (v2_4 : Int) (v5 : Int) (v6 : Int) : s_UsedBy_X0 → Prop
  | .x0 zv5 => Loops E 23 (lpAt Try.f23 0) (stL 80 [(1, .one (tS v1)), (2, .box () [.s .far () 3 (v2_0.map GSession.t), .s .far () 9 (v2_1.map (GPlan.t q0 q0)), .s .far () 5 (v2_2.map (GRun.t q0)), tI v2_3, tI v2_4]), (5, .one (tI v5)), (6, .one (tI v6))]) (.exit 0) (stL 80 [(5, .one (tI zv5))])
theorem s_UsedBy_R0_0 {q0 : Kd} (v1 : ByteArray) (v2_0 : List GSession) (v2_1 : List GPlan) (v2_2 : List GRun) (v2_3 : Int) (v2_4 : Int) (v5 : Int) (v6 : Int) (g0 : GRun) (w0_5 : Int) (h0 : (decide (v6 < (v2_2.length : Int))) = true) (h1 : getI v2_2 v6 = some g0) (h2 : Small.sm (GBoard.mk v2_0 v2_1 v2_2 v2_3 v2_4)) (h3 : Loops E 23 (lpAt Try.f23 1) (stL 80 [(1, .one (tS v1)), (2, .box () [.s .far () 3 (v2_0.map GSession.t), .s .far () 9 (v2_1.map (GPlan.t q0 q0)), .s .far () 5 (v2_2.map (GRun.t q0)), tI v2_3, tI v2_4]), (5, .one (tI v5)), (6, .one (tI v6)), (7, .one (tI (planAt (GBoard.mk v2_0 v2_1 v2_2 v2_3 v2_4) g0.f0))), (8, .one (tI (0 : Int)))]) (.exit 2) (stL 80 [(1, .one (tS v1)), (2, .box () [.s .far () 3 (v2_0.map GSession.t), .s .far () 9 (v2_1.map (GPlan.t q0 q0)), .s .far () 5 (v2_2.map (GRun.t q0)), tI v2_3, tI v2_4]), (5, .one (tI w0_5)), (6, .one (tI v6))])) : Round E 23 (lpAt Try.f23 0) (stL 80 [(1, .one (tS v1)), (2, .box () [.s .far () 3 (v2_0.map GSession.t), .s .far () 9 (v2_1.map (GPlan.t q0 q0)), .s .far () 5 (v2_2.map (GRun.t q0)), tI v2_3, tI v2_4]), (5, .one (tI v5)), (6, .one (tI v6))]) .normal (stL 80 [(1, .one (tS v1)), (2, .box () [.s .far () 3 (v2_0.map GSession.t), .s .far () 9 (v2_1.map (GPlan.t q0 q0)), .s .far () 5 (v2_2.map (GRun.t q0)), tI v2_3, tI v2_4]), (5, .one (tI w0_5)), (6, .one (tI (IntKind.wrap .i64 (v6 + (1 : Int)))))]) :=
  Round.path [.val (.int .i64 (v2_2.length : Int)), .b true, .row ((GRun.t q0) g0), .ret [(false, [tI (planAt (GBoard.mk v2_0 v2_1 v2_2 v2_3 v2_4) g0.f0)])], .lp (.exit 2) (stL 80 [(1, .one (tS v1)), (2, .box () [.s .far () 3 (v2_0.map GSession.t), .s .far () 9 (v2_1.map (GPlan.t q0 q0)), .s .far () 5 (v2_2.map (GRun.t q0)), tI v2_3, tI v2_4]), (5, .one (tI w0_5)), (6, .one (tI v6))])] [fun _ => ((v2_2.map (GRun.t q0)).length : Int) = (v2_2.length : Int), fun _ => (decide (v6 < (v2_2.length : Int))) = true, fun _ => 0 ≤ v6 ∧ (v2_2.map (GRun.t q0))[v6.toNat]? = some ((GRun.t q0) g0), fun k => E.C k 13 [.agg (GBoard.t .far q0 (GBoard.mk v2_0 v2_1 v2_2 v2_3 v2_4)), .one (tS g0.f0)] = some [(false, [tI (planAt (GBoard.mk v2_0 v2_1 v2_2 v2_3 v2_4) g0.f0)])], fun k => LoopK E 23 (lpAt Try.f23 1) (stL 80 [(1, .one (tS v1)), (2, .box () [.s .far () 3 (v2_0.map GSession.t), .s .far () 9 (v2_1.map (GPlan.t q0 q0)), .s .far () 5 (v2_2.map (GRun.t q0)), tI v2_3, tI v2_4]), (5, .one (tI v5)), (6, .one (tI v6)), (7, .one (tI (planAt (GBoard.mk v2_0 v2_1 v2_2 v2_3 v2_4) g0.f0))), (8, .one (tI (0 : Int)))]) (.exit 2) (stL 80 [(1, .one (tS v1)), (2, .box () [.s .far () 3 (v2_0.map GSession.t), .s .far () 9 (v2_1.map (GPlan.t q0 q0)), .s .far () 5 (v2_2.map (GRun.t q0)), tI v2_3, tI v2_4]), (5, .one (tI w0_5)), (6, .one (tI v6))]) k k] (fun k => by kernel_rfl) ⟨Ev.c lenMap, Ev.c h0, Ev.c (getRow h1), T_s_PlanAt (GBoard.mk v2_0 v2_1 v2_2 v2_3 v2_4) g0.f0 h2, Loops.ev h3, trivial⟩
theorem s_UsedBy_R0_1 {q0 : Kd} (v1 : ByteArray) (v2_0 : List GSession) (v2_1 : List GPlan) (v2_2 : List GRun) (v2_3 : Int) (v2_4 : Int) (v5 : Int) (v6 : Int) (h0 : (decide (v6 < (v2_2.length : Int))) = false) : Round E 23 (lpAt Try.f23 0) (stL 80 [(1, .one (tS v1)), (2, .box () [.s .far () 3 (v2_0.map GSession.t), .s .far () 9 (v2_1.map (GPlan.t q0 q0)), .s .far () 5 (v2_2.map (GRun.t q0)), tI v2_3, tI v2_4]), (5, .one (tI v5)), (6, .one (tI v6))]) (.exit 0) (stL 80 [(5, .one (tI v5))]) :=
  Round.path [.val (.int .i64 (v2_2.length : Int)), .b false] [fun _ => ((v2_2.map (GRun.t q0)).length : Int) = (v2_2.length : Int), fun _ => (decide (v6 < (v2_2.length : Int))) = false] (fun k => by kernel_rfl) ⟨Ev.c lenMap, Ev.c h0, trivial⟩
noncomputable def s_UsedBy_l0 (v1 : ByteArray) (v2_0 : List GSession) (v2_1 : List GPlan) (v2_2 : List GRun) (v2_3 : Int) (v2_4 : Int) : List GRun → Nat → Int → Option s_UsedBy_X0
  | [], i, v5 => some (.x0 v5)
  | hd :: rest, i, v5 => if Small.sm (GBoard.mk v2_0 v2_1 v2_2 v2_3 v2_4) then if hd.f3.length ≤ 9223372036854775807 then (s_UsedBy_l1 v1 v2_1 (planAt (GBoard.mk v2_0 v2_1 v2_2 v2_3 v2_4) hd.f0) hd.f3 0 v5).bind fun y => match y with
    | .x2 w0_5 => (s_UsedBy_l0 v1 v2_0 v2_1 v2_2 v2_3 v2_4 rest (i + 1) w0_5) else none else none
theorem s_UsedBy_L0 {q0 : Kd} (v1 : ByteArray) (v2_0 : List GSession) (v2_1 : List GPlan) (v2_2 : List GRun) (v2_3 : Int) (v2_4 : Int) (rest : List GRun) : ∀ (i : Nat) (v5 : Int), (v2_2).drop i = rest → v2_2.length ≤ 9223372036854775807 → Ans (s_UsedBy_l0 v1 v2_0 v2_1 v2_2 v2_3 v2_4 rest i v5) (s_UsedBy_Q0 (q0 := q0) v1 v2_0 v2_1 v2_2 v2_3 v2_4 v5 (i : Int)) := by
  induction rest with
  | nil =>
    intro i v5 hE hl
    have hb := foldEnd hE
    unfold s_UsedBy_l0
    exact Ans.some (Loops.stop (s_UsedBy_R0_1 (q0 := q0) v1 v2_0 v2_1 v2_2 v2_3 v2_4 v5 (i : Int) hb) (by intro h; cases h))
  | cons hd rest ih =>
    intro i v5 hE hl
    have hb := foldMore hE
    have hw := foldNext hE hl
    have hE2 := foldRest hE
    have hg := foldGet hE
    unfold s_UsedBy_l0
    refine Ans.pre (fun h2 => ?_)
    refine Ans.pre (fun hl2 => ?_)
    refine Ans.bind (fun y hy => ?_)
    replace hy := s_UsedBy_L1 (q0 := q0) v1 v2_0 v2_1 v2_2 v2_3 v2_4 (i : Int) (planAt (GBoard.mk v2_0 v2_1 v2_2 v2_3 v2_4) hd.f0) hd hg hd.f3 0 v5 rfl hl2 y hy
    cases y with
    | x2 w0_5 =>
      have h3 := hy
      exact (ih (i + 1) w0_5 hE2 hl).mono fun y hy => by
                have r := s_UsedBy_R0_0 (q0 := q0) v1 v2_0 v2_1 v2_2 v2_3 v2_4 v5 (i : Int) hd w0_5 hb hg h2 h3
                rw [hw] at r
                cases y <;> exact Loops.next r hy
theorem s_UsedBy_P0 {q0 : Kd} (x0 : GBoard) (x1 : ByteArray) (w0_5 : Int) (h0 : Loops E 23 (lpAt Try.f23 0) (stL 80 [(1, .one (tS x1)), (2, .box () [.s .far () 3 (x0.f0.map GSession.t), .s .far () 9 (x0.f1.map (GPlan.t q0 q0)), .s .far () 5 (x0.f2.map (GRun.t q0)), tI x0.f3, tI x0.f4]), (5, .one (tI (0 : Int))), (6, .one (tI (0 : Int)))]) (.exit 0) (stL 80 [(5, .one (tI w0_5))])) : Does E 23 [.agg (GBoard.t .far q0 x0), .one (tS x1)] [(false, [tI w0_5])] :=
  Does.path (fn := Try.f23) [.lp (.exit 0) (stL 80 [(5, .one (tI w0_5))])] [fun k => LoopK E 23 (lpAt Try.f23 0) (stL 80 [(1, .one (tS x1)), (2, .box () [.s .far () 3 (x0.f0.map GSession.t), .s .far () 9 (x0.f1.map (GPlan.t q0 q0)), .s .far () 5 (x0.f2.map (GRun.t q0)), tI x0.f3, tI x0.f4]), (5, .one (tI (0 : Int))), (6, .one (tI (0 : Int)))]) (.exit 0) (stL 80 [(5, .one (tI w0_5))]) k k] rfl rfl (fun k => by kernel_rfl) ⟨Loops.ev h0, trivial⟩
noncomputable def s_UsedBy_F (x0 : GBoard) (x1 : ByteArray) : Option (Int) :=
    if x0.f2.length ≤ 9223372036854775807 then (s_UsedBy_l0 x1 x0.f0 x0.f1 x0.f2 x0.f3 x0.f4 x0.f2 0 (0 : Int)).bind fun y => match y with
      | .x0 w0_5 => (some (w0_5)) else none
theorem s_UsedBy_D {q0 : Kd} (x0 : GBoard) (x1 : ByteArray) : Ans (s_UsedBy_F x0 x1) (fun r => Does E 23 [.agg (GBoard.t .far q0 x0), .one (tS x1)] [(false, [tI r])]) := by
  unfold s_UsedBy_F
  refine Ans.pre (fun hl1 => ?_)
  refine Ans.bind (fun y hy => ?_)
  replace hy := s_UsedBy_L0 (q0 := q0) x1 x0.f0 x0.f1 x0.f2 x0.f3 x0.f4 x0.f2 0 (0 : Int) rfl hl1 y hy
  cases y with
  | x0 w0_5 =>
    have h0 := hy
    exact Ans.some (s_UsedBy_P0 (q0 := q0) x0 x1 w0_5 h0)
-- loop.example/g00188/impl.UsedBy
inductive i_UsedBy_X1 where
  | x2 (v5 : Int)
def i_UsedBy_Q1 {q0 : Kd} (v1 : ByteArray) (v2_0 : List GSession) (v2_1 : List GPlan) (v2_2 : List GRun) (v2_3 : Int) (v2_4 : Int) (v5 : Int) (v9 : List GTask) (v13 : List GRun) (v14 : Int) (v15 : Int) (v40 : List GState) (v41 : Int) (v42 : Int) : i_UsedBy_X1 → Prop
  | .x2 zv5 => Loops E 24 (lpAt Try.f24 1) (stL 64 [(1, .one (tS v1)), (2, .box () [.s .far () 3 (v2_0.map GSession.t), .s .far () 9 (v2_1.map (GPlan.t q0 q0)), .s .far () 5 (v2_2.map (GRun.t q0)), tI v2_3, tI v2_4]), (5, .one (tI v5)), (9, .one (.s .far () 5 (v9.map (GTask.t q0)))), (13, .one (.s .far () 5 (v13.map (GRun.t q0)))), (14, .one (tI v14)), (15, .one (tI v15)), (40, .one (.s .far () 4 (v40.map GState.t))), (41, .one (tI v41)), (42, .one (tI v42))]) (.exit 2) (stL 64 [(1, .one (tS v1)), (2, .box () [.s .far () 3 (v2_0.map GSession.t), .s .far () 9 (v2_1.map (GPlan.t q0 q0)), .s .far () 5 (v2_2.map (GRun.t q0)), tI v2_3, tI v2_4]), (5, .one (tI zv5)), (13, .one (.s .far () 5 (v13.map (GRun.t q0)))), (14, .one (tI v14)), (15, .one (tI v15))])
theorem i_UsedBy_R1_0 {q0 : Kd} (v1 : ByteArray) (v2_0 : List GSession) (v2_1 : List GPlan) (v2_2 : List GRun) (v2_3 : Int) (v2_4 : Int) (v5 : Int) (v9 : List GTask) (v13 : List GRun) (v14 : Int) (v15 : Int) (v40 : List GState) (v41 : Int) (v42 : Int) (g0 : GState) (g1 : GTask) (h0 : (decide (v42 < v41)) = true) (h1 : getI v40 v42 = some g0) (h2 : (g0.f0 == (1 : Int)) = true) (h3 : getI v9 v42 = some g1) (h4 : (g1.f1.toList == v1.toList) = true) : Round E 24 (lpAt Try.f24 1) (stL 64 [(1, .one (tS v1)), (2, .box () [.s .far () 3 (v2_0.map GSession.t), .s .far () 9 (v2_1.map (GPlan.t q0 q0)), .s .far () 5 (v2_2.map (GRun.t q0)), tI v2_3, tI v2_4]), (5, .one (tI v5)), (9, .one (.s .far () 5 (v9.map (GTask.t q0)))), (13, .one (.s .far () 5 (v13.map (GRun.t q0)))), (14, .one (tI v14)), (15, .one (tI v15)), (40, .one (.s .far () 4 (v40.map GState.t))), (41, .one (tI v41)), (42, .one (tI v42))]) .normal (stL 64 [(1, .one (tS v1)), (2, .box () [.s .far () 3 (v2_0.map GSession.t), .s .far () 9 (v2_1.map (GPlan.t q0 q0)), .s .far () 5 (v2_2.map (GRun.t q0)), tI v2_3, tI v2_4]), (5, .one (tI (IntKind.wrap .i64 (v5 + (1 : Int))))), (9, .one (.s .far () 5 (v9.map (GTask.t q0)))), (13, .one (.s .far () 5 (v13.map (GRun.t q0)))), (14, .one (tI v14)), (15, .one (tI v15)), (40, .one (.s .far () 4 (v40.map GState.t))), (41, .one (tI v41)), (42, .one (tI (IntKind.wrap .i64 (v42 + (1 : Int)))))]) :=
  Round.path [.b true, .row (GState.t g0), .b true, .row ((GTask.t q0) g1), .b true] [fun _ => (decide (v42 < v41)) = true, fun _ => 0 ≤ v42 ∧ (v40.map GState.t)[v42.toNat]? = some (GState.t g0), fun _ => (g0.f0 == (1 : Int)) = true, fun _ => 0 ≤ v42 ∧ (v9.map (GTask.t q0))[v42.toNat]? = some ((GTask.t q0) g1), fun _ => (g1.f1.toList == v1.toList) = true] (fun k => by kernel_rfl) ⟨Ev.c h0, Ev.c (getRow h1), Ev.c h2, Ev.c (getRow h3), Ev.c h4, trivial⟩
theorem i_UsedBy_R1_1 {q0 : Kd} (v1 : ByteArray) (v2_0 : List GSession) (v2_1 : List GPlan) (v2_2 : List GRun) (v2_3 : Int) (v2_4 : Int) (v5 : Int) (v9 : List GTask) (v13 : List GRun) (v14 : Int) (v15 : Int) (v40 : List GState) (v41 : Int) (v42 : Int) (g0 : GState) (g1 : GTask) (h0 : (decide (v42 < v41)) = true) (h1 : getI v40 v42 = some g0) (h2 : (g0.f0 == (1 : Int)) = true) (h3 : getI v9 v42 = some g1) (h4 : (g1.f1.toList == v1.toList) = false) : Round E 24 (lpAt Try.f24 1) (stL 64 [(1, .one (tS v1)), (2, .box () [.s .far () 3 (v2_0.map GSession.t), .s .far () 9 (v2_1.map (GPlan.t q0 q0)), .s .far () 5 (v2_2.map (GRun.t q0)), tI v2_3, tI v2_4]), (5, .one (tI v5)), (9, .one (.s .far () 5 (v9.map (GTask.t q0)))), (13, .one (.s .far () 5 (v13.map (GRun.t q0)))), (14, .one (tI v14)), (15, .one (tI v15)), (40, .one (.s .far () 4 (v40.map GState.t))), (41, .one (tI v41)), (42, .one (tI v42))]) .normal (stL 64 [(1, .one (tS v1)), (2, .box () [.s .far () 3 (v2_0.map GSession.t), .s .far () 9 (v2_1.map (GPlan.t q0 q0)), .s .far () 5 (v2_2.map (GRun.t q0)), tI v2_3, tI v2_4]), (5, .one (tI v5)), (9, .one (.s .far () 5 (v9.map (GTask.t q0)))), (13, .one (.s .far () 5 (v13.map (GRun.t q0)))), (14, .one (tI v14)), (15, .one (tI v15)), (40, .one (.s .far () 4 (v40.map GState.t))), (41, .one (tI v41)), (42, .one (tI (IntKind.wrap .i64 (v42 + (1 : Int)))))]) :=
  Round.path [.b true, .row (GState.t g0), .b true, .row ((GTask.t q0) g1), .b false] [fun _ => (decide (v42 < v41)) = true, fun _ => 0 ≤ v42 ∧ (v40.map GState.t)[v42.toNat]? = some (GState.t g0), fun _ => (g0.f0 == (1 : Int)) = true, fun _ => 0 ≤ v42 ∧ (v9.map (GTask.t q0))[v42.toNat]? = some ((GTask.t q0) g1), fun _ => (g1.f1.toList == v1.toList) = false] (fun k => by kernel_rfl) ⟨Ev.c h0, Ev.c (getRow h1), Ev.c h2, Ev.c (getRow h3), Ev.c h4, trivial⟩
theorem i_UsedBy_R1_2 {q0 : Kd} (v1 : ByteArray) (v2_0 : List GSession) (v2_1 : List GPlan) (v2_2 : List GRun) (v2_3 : Int) (v2_4 : Int) (v5 : Int) (v9 : List GTask) (v13 : List GRun) (v14 : Int) (v15 : Int) (v40 : List GState) (v41 : Int) (v42 : Int) (g0 : GState) (h0 : (decide (v42 < v41)) = true) (h1 : getI v40 v42 = some g0) (h2 : (g0.f0 == (1 : Int)) = false) : Round E 24 (lpAt Try.f24 1) (stL 64 [(1, .one (tS v1)), (2, .box () [.s .far () 3 (v2_0.map GSession.t), .s .far () 9 (v2_1.map (GPlan.t q0 q0)), .s .far () 5 (v2_2.map (GRun.t q0)), tI v2_3, tI v2_4]), (5, .one (tI v5)), (9, .one (.s .far () 5 (v9.map (GTask.t q0)))), (13, .one (.s .far () 5 (v13.map (GRun.t q0)))), (14, .one (tI v14)), (15, .one (tI v15)), (40, .one (.s .far () 4 (v40.map GState.t))), (41, .one (tI v41)), (42, .one (tI v42))]) .normal (stL 64 [(1, .one (tS v1)), (2, .box () [.s .far () 3 (v2_0.map GSession.t), .s .far () 9 (v2_1.map (GPlan.t q0 q0)), .s .far () 5 (v2_2.map (GRun.t q0)), tI v2_3, tI v2_4]), (5, .one (tI v5)), (9, .one (.s .far () 5 (v9.map (GTask.t q0)))), (13, .one (.s .far () 5 (v13.map (GRun.t q0)))), (14, .one (tI v14)), (15, .one (tI v15)), (40, .one (.s .far () 4 (v40.map GState.t))), (41, .one (tI v41)), (42, .one (tI (IntKind.wrap .i64 (v42 + (1 : Int)))))]) :=
  Round.path [.b true, .row (GState.t g0), .b false] [fun _ => (decide (v42 < v41)) = true, fun _ => 0 ≤ v42 ∧ (v40.map GState.t)[v42.toNat]? = some (GState.t g0), fun _ => (g0.f0 == (1 : Int)) = false] (fun k => by kernel_rfl) ⟨Ev.c h0, Ev.c (getRow h1), Ev.c h2, trivial⟩
theorem i_UsedBy_R1_3 {q0 : Kd} (v1 : ByteArray) (v2_0 : List GSession) (v2_1 : List GPlan) (v2_2 : List GRun) (v2_3 : Int) (v2_4 : Int) (v5 : Int) (v9 : List GTask) (v13 : List GRun) (v14 : Int) (v15 : Int) (v40 : List GState) (v41 : Int) (v42 : Int) (h0 : (decide (v42 < v41)) = false) : Round E 24 (lpAt Try.f24 1) (stL 64 [(1, .one (tS v1)), (2, .box () [.s .far () 3 (v2_0.map GSession.t), .s .far () 9 (v2_1.map (GPlan.t q0 q0)), .s .far () 5 (v2_2.map (GRun.t q0)), tI v2_3, tI v2_4]), (5, .one (tI v5)), (9, .one (.s .far () 5 (v9.map (GTask.t q0)))), (13, .one (.s .far () 5 (v13.map (GRun.t q0)))), (14, .one (tI v14)), (15, .one (tI v15)), (40, .one (.s .far () 4 (v40.map GState.t))), (41, .one (tI v41)), (42, .one (tI v42))]) (.exit 2) (stL 64 [(1, .one (tS v1)), (2, .box () [.s .far () 3 (v2_0.map GSession.t), .s .far () 9 (v2_1.map (GPlan.t q0 q0)), .s .far () 5 (v2_2.map (GRun.t q0)), tI v2_3, tI v2_4]), (5, .one (tI v5)), (13, .one (.s .far () 5 (v13.map (GRun.t q0)))), (14, .one (tI v14)), (15, .one (tI v15))]) :=
  Round.path [.b false] [fun _ => (decide (v42 < v41)) = false] (fun k => by kernel_rfl) ⟨Ev.c h0, trivial⟩
noncomputable def i_UsedBy_l1 (v1 : ByteArray) (v9 : List GTask) : List GState → Nat → Int → Option i_UsedBy_X1
  | [], i, v5 => some (.x2 v5)
  | hd :: rest, i, v5 => cond (hd.f0 == (1 : Int))
    ((getI v9 (i : Int)).bind fun g1 => cond (g1.f1.toList == v1.toList)
      (i_UsedBy_l1 v1 v9 rest (i + 1) (IntKind.wrap .i64 (v5 + (1 : Int))))
      (i_UsedBy_l1 v1 v9 rest (i + 1) v5))
    (i_UsedBy_l1 v1 v9 rest (i + 1) v5)
theorem i_UsedBy_L1 {q0 : Kd} (v1 : ByteArray) (v2_0 : List GSession) (v2_1 : List GPlan) (v2_2 : List GRun) (v2_3 : Int) (v2_4 : Int) (v9 : List GTask) (v13 : List GRun) (v14 : Int) (v15 : Int) (v40 : List GState) (rest : List GState) : ∀ (i : Nat) (v5 : Int), (v40).drop i = rest → v40.length ≤ 9223372036854775807 → Ans (i_UsedBy_l1 v1 v9 rest i v5) (i_UsedBy_Q1 (q0 := q0) v1 v2_0 v2_1 v2_2 v2_3 v2_4 v5 v9 v13 v14 v15 v40 (v40.length : Int) (i : Int)) := by
  induction rest with
  | nil =>
    intro i v5 hE hl
    have hb := foldEnd hE
    unfold i_UsedBy_l1
    exact Ans.some (Loops.stop (i_UsedBy_R1_3 (q0 := q0) v1 v2_0 v2_1 v2_2 v2_3 v2_4 v5 v9 v13 v14 v15 v40 (v40.length : Int) (i : Int) hb) (by intro h; cases h))
  | cons hd rest ih =>
    intro i v5 hE hl
    have hb := foldMore hE
    have hw := foldNext hE hl
    have hE2 := foldRest hE
    have hg := foldGet hE
    unfold i_UsedBy_l1
    refine Ans.ite (fun h2 => ?_) (fun h2 => ?_)
    · refine Ans.bind (fun g1 h3 => ?_)
      refine Ans.ite (fun h4 => ?_) (fun h4 => ?_)
      · exact (ih (i + 1) (IntKind.wrap .i64 (v5 + (1 : Int))) hE2 hl).mono fun y hy => by
                have r := i_UsedBy_R1_0 (q0 := q0) v1 v2_0 v2_1 v2_2 v2_3 v2_4 v5 v9 v13 v14 v15 v40 (v40.length : Int) (i : Int) hd g1 hb hg h2 h3 h4
                rw [hw] at r
                cases y <;> exact Loops.next r hy
      · exact (ih (i + 1) v5 hE2 hl).mono fun y hy => by
                have r := i_UsedBy_R1_1 (q0 := q0) v1 v2_0 v2_1 v2_2 v2_3 v2_4 v5 v9 v13 v14 v15 v40 (v40.length : Int) (i : Int) hd g1 hb hg h2 h3 h4
                rw [hw] at r
                cases y <;> exact Loops.next r hy
    · exact (ih (i + 1) v5 hE2 hl).mono fun y hy => by
                have r := i_UsedBy_R1_2 (q0 := q0) v1 v2_0 v2_1 v2_2 v2_3 v2_4 v5 v9 v13 v14 v15 v40 (v40.length : Int) (i : Int) hd hb hg h2
                rw [hw] at r
                cases y <;> exact Loops.next r hy
inductive i_UsedBy_X0 where
  | x0 (v5 : Int)
def i_UsedBy_Q0 {q0 : Kd} (v1 : ByteArray) (v2_0 : List GSession) (v2_1 : List GPlan) (v2_2 : List GRun) (v2_3 : Int) (v2_4 : Int) (v5 : Int) (v13 : List GRun) (v14 : Int) (v15 : Int) : i_UsedBy_X0 → Prop
  | .x0 zv5 => Loops E 24 (lpAt Try.f24 0) (stL 64 [(1, .one (tS v1)), (2, .box () [.s .far () 3 (v2_0.map GSession.t), .s .far () 9 (v2_1.map (GPlan.t q0 q0)), .s .far () 5 (v2_2.map (GRun.t q0)), tI v2_3, tI v2_4]), (5, .one (tI v5)), (13, .one (.s .far () 5 (v13.map (GRun.t q0)))), (14, .one (tI v14)), (15, .one (tI v15))]) (.exit 0) (stL 64 [(5, .one (tI zv5))])
theorem i_UsedBy_R0_0 {q0 : Kd} (v1 : ByteArray) (v2_0 : List GSession) (v2_1 : List GPlan) (v2_2 : List GRun) (v2_3 : Int) (v2_4 : Int) (v5 : Int) (v13 : List GRun) (v14 : Int) (v15 : Int) (g0 : GRun) (h0 : (decide (v15 < v14)) = true) (h1 : getI v13 v15 = some g0) (h2 : Small.sm (GBoard.mk v2_0 v2_1 v2_2 v2_3 v2_4)) (h3 : (decide ((planAt (GBoard.mk v2_0 v2_1 v2_2 v2_3 v2_4) g0.f0) < (0 : Int))) = true) : Round E 24 (lpAt Try.f24 0) (stL 64 [(1, .one (tS v1)), (2, .box () [.s .far () 3 (v2_0.map GSession.t), .s .far () 9 (v2_1.map (GPlan.t q0 q0)), .s .far () 5 (v2_2.map (GRun.t q0)), tI v2_3, tI v2_4]), (5, .one (tI v5)), (13, .one (.s .far () 5 (v13.map (GRun.t q0)))), (14, .one (tI v14)), (15, .one (tI v15))]) .normal (stL 64 [(1, .one (tS v1)), (2, .box () [.s .far () 3 (v2_0.map GSession.t), .s .far () 9 (v2_1.map (GPlan.t q0 q0)), .s .far () 5 (v2_2.map (GRun.t q0)), tI v2_3, tI v2_4]), (5, .one (tI v5)), (13, .one (.s .far () 5 (v13.map (GRun.t q0)))), (14, .one (tI v14)), (15, .one (tI (IntKind.wrap .i64 (v15 + (1 : Int)))))]) :=
  Round.path [.b true, .row ((GRun.t q0) g0), .ret [(false, [tI (planAt (GBoard.mk v2_0 v2_1 v2_2 v2_3 v2_4) g0.f0)])], .b true] [fun _ => (decide (v15 < v14)) = true, fun _ => 0 ≤ v15 ∧ (v13.map (GRun.t q0))[v15.toNat]? = some ((GRun.t q0) g0), fun k => E.C k 15 [.agg (GBoard.t .far q0 (GBoard.mk v2_0 v2_1 v2_2 v2_3 v2_4)), .one (tS g0.f0)] = some [(false, [tI (planAt (GBoard.mk v2_0 v2_1 v2_2 v2_3 v2_4) g0.f0)])], fun _ => (decide ((planAt (GBoard.mk v2_0 v2_1 v2_2 v2_3 v2_4) g0.f0) < (0 : Int))) = true] (fun k => by kernel_rfl) ⟨Ev.c h0, Ev.c (getRow h1), T_i_PlanAt (GBoard.mk v2_0 v2_1 v2_2 v2_3 v2_4) g0.f0 h2, Ev.c h3, trivial⟩
theorem i_UsedBy_R0_1 {q0 : Kd} (v1 : ByteArray) (v2_0 : List GSession) (v2_1 : List GPlan) (v2_2 : List GRun) (v2_3 : Int) (v2_4 : Int) (v5 : Int) (v13 : List GRun) (v14 : Int) (v15 : Int) (g0 : GRun) (g1 : GPlan) (w0_5 : Int) (h0 : (decide (v15 < v14)) = true) (h1 : getI v13 v15 = some g0) (h2 : Small.sm (GBoard.mk v2_0 v2_1 v2_2 v2_3 v2_4)) (h3 : (decide ((planAt (GBoard.mk v2_0 v2_1 v2_2 v2_3 v2_4) g0.f0) < (0 : Int))) = false) (h4 : getI v2_1 (planAt (GBoard.mk v2_0 v2_1 v2_2 v2_3 v2_4) g0.f0) = some g1) (h5 : 0 ≤ (0 : Int) ∧ (0 : Int) ≤ (minI (g0.f3.length : Int) (g1.f0.f5.length : Int)) ∧ (minI (g0.f3.length : Int) (g1.f0.f5.length : Int)) ≤ (g0.f3.length : Int)) (h6 : Loops E 24 (lpAt Try.f24 1) (stL 64 [(1, .one (tS v1)), (2, .box () [.s .far () 3 (v2_0.map GSession.t), .s .far () 9 (v2_1.map (GPlan.t q0 q0)), .s .far () 5 (v2_2.map (GRun.t q0)), tI v2_3, tI v2_4]), (5, .one (tI v5)), (9, .one (.s .far () 5 (g1.f0.f5.map (GTask.t q0)))), (13, .one (.s .far () 5 (v13.map (GRun.t q0)))), (14, .one (tI v14)), (15, .one (tI v15)), (40, .one (.s .far () 4 (((g0.f3.drop (0 : Int).toNat).take ((minI (g0.f3.length : Int) (g1.f0.f5.length : Int)).toNat - (0 : Int).toNat)).map GState.t))), (41, .one (tI (((g0.f3.drop (0 : Int).toNat).take ((minI (g0.f3.length : Int) (g1.f0.f5.length : Int)).toNat - (0 : Int).toNat)).length : Int))), (42, .one (tI (0 : Int)))]) (.exit 2) (stL 64 [(1, .one (tS v1)), (2, .box () [.s .far () 3 (v2_0.map GSession.t), .s .far () 9 (v2_1.map (GPlan.t q0 q0)), .s .far () 5 (v2_2.map (GRun.t q0)), tI v2_3, tI v2_4]), (5, .one (tI w0_5)), (13, .one (.s .far () 5 (v13.map (GRun.t q0)))), (14, .one (tI v14)), (15, .one (tI v15))])) : Round E 24 (lpAt Try.f24 0) (stL 64 [(1, .one (tS v1)), (2, .box () [.s .far () 3 (v2_0.map GSession.t), .s .far () 9 (v2_1.map (GPlan.t q0 q0)), .s .far () 5 (v2_2.map (GRun.t q0)), tI v2_3, tI v2_4]), (5, .one (tI v5)), (13, .one (.s .far () 5 (v13.map (GRun.t q0)))), (14, .one (tI v14)), (15, .one (tI v15))]) .normal (stL 64 [(1, .one (tS v1)), (2, .box () [.s .far () 3 (v2_0.map GSession.t), .s .far () 9 (v2_1.map (GPlan.t q0 q0)), .s .far () 5 (v2_2.map (GRun.t q0)), tI v2_3, tI v2_4]), (5, .one (tI w0_5)), (13, .one (.s .far () 5 (v13.map (GRun.t q0)))), (14, .one (tI v14)), (15, .one (tI (IntKind.wrap .i64 (v15 + (1 : Int)))))]) :=
  Round.path [.b true, .row ((GRun.t q0) g0), .ret [(false, [tI (planAt (GBoard.mk v2_0 v2_1 v2_2 v2_3 v2_4) g0.f0)])], .b false, .row ((GPlan.t q0 q0) g1), .val (.int .i64 (g0.f3.length : Int)), .val (.int .i64 (g1.f0.f5.length : Int)), .val (.int .i64 (minI (g0.f3.length : Int) (g1.f0.f5.length : Int))), .rows (((g0.f3.drop (0 : Int).toNat).take ((minI (g0.f3.length : Int) (g1.f0.f5.length : Int)).toNat - (0 : Int).toNat)).map GState.t), .val (.int .i64 (((g0.f3.drop (0 : Int).toNat).take ((minI (g0.f3.length : Int) (g1.f0.f5.length : Int)).toNat - (0 : Int).toNat)).length : Int)), .lp (.exit 2) (stL 64 [(1, .one (tS v1)), (2, .box () [.s .far () 3 (v2_0.map GSession.t), .s .far () 9 (v2_1.map (GPlan.t q0 q0)), .s .far () 5 (v2_2.map (GRun.t q0)), tI v2_3, tI v2_4]), (5, .one (tI w0_5)), (13, .one (.s .far () 5 (v13.map (GRun.t q0)))), (14, .one (tI v14)), (15, .one (tI v15))])] [fun _ => (decide (v15 < v14)) = true, fun _ => 0 ≤ v15 ∧ (v13.map (GRun.t q0))[v15.toNat]? = some ((GRun.t q0) g0), fun k => E.C k 15 [.agg (GBoard.t .far q0 (GBoard.mk v2_0 v2_1 v2_2 v2_3 v2_4)), .one (tS g0.f0)] = some [(false, [tI (planAt (GBoard.mk v2_0 v2_1 v2_2 v2_3 v2_4) g0.f0)])], fun _ => (decide ((planAt (GBoard.mk v2_0 v2_1 v2_2 v2_3 v2_4) g0.f0) < (0 : Int))) = false, fun _ => 0 ≤ (planAt (GBoard.mk v2_0 v2_1 v2_2 v2_3 v2_4) g0.f0) ∧ (v2_1.map (GPlan.t q0 q0))[(planAt (GBoard.mk v2_0 v2_1 v2_2 v2_3 v2_4) g0.f0).toNat]? = some ((GPlan.t q0 q0) g1), fun _ => ((g0.f3.map GState.t).length : Int) = (g0.f3.length : Int), fun _ => ((g1.f0.f5.map (GTask.t q0)).length : Int) = (g1.f0.f5.length : Int), fun _ => (if (g1.f0.f5.length : Int) < (g0.f3.length : Int) then (g1.f0.f5.length : Int) else (g0.f3.length : Int)) = minI (g0.f3.length : Int) (g1.f0.f5.length : Int), fun _ => 0 ≤ (0 : Int) ∧ (0 : Int) ≤ (minI (g0.f3.length : Int) (g1.f0.f5.length : Int)) ∧ (minI (g0.f3.length : Int) (g1.f0.f5.length : Int)) ≤ ((g0.f3.map GState.t).length : Int), fun _ => ((g0.f3.map GState.t).drop (0 : Int).toNat).take ((minI (g0.f3.length : Int) (g1.f0.f5.length : Int)).toNat - (0 : Int).toNat) = ((g0.f3.drop (0 : Int).toNat).take ((minI (g0.f3.length : Int) (g1.f0.f5.length : Int)).toNat - (0 : Int).toNat)).map GState.t, fun _ => ((((g0.f3.drop (0 : Int).toNat).take ((minI (g0.f3.length : Int) (g1.f0.f5.length : Int)).toNat - (0 : Int).toNat)).map GState.t).length : Int) = (((g0.f3.drop (0 : Int).toNat).take ((minI (g0.f3.length : Int) (g1.f0.f5.length : Int)).toNat - (0 : Int).toNat)).length : Int), fun k => LoopK E 24 (lpAt Try.f24 1) (stL 64 [(1, .one (tS v1)), (2, .box () [.s .far () 3 (v2_0.map GSession.t), .s .far () 9 (v2_1.map (GPlan.t q0 q0)), .s .far () 5 (v2_2.map (GRun.t q0)), tI v2_3, tI v2_4]), (5, .one (tI v5)), (9, .one (.s .far () 5 (g1.f0.f5.map (GTask.t q0)))), (13, .one (.s .far () 5 (v13.map (GRun.t q0)))), (14, .one (tI v14)), (15, .one (tI v15)), (40, .one (.s .far () 4 (((g0.f3.drop (0 : Int).toNat).take ((minI (g0.f3.length : Int) (g1.f0.f5.length : Int)).toNat - (0 : Int).toNat)).map GState.t))), (41, .one (tI (((g0.f3.drop (0 : Int).toNat).take ((minI (g0.f3.length : Int) (g1.f0.f5.length : Int)).toNat - (0 : Int).toNat)).length : Int))), (42, .one (tI (0 : Int)))]) (.exit 2) (stL 64 [(1, .one (tS v1)), (2, .box () [.s .far () 3 (v2_0.map GSession.t), .s .far () 9 (v2_1.map (GPlan.t q0 q0)), .s .far () 5 (v2_2.map (GRun.t q0)), tI v2_3, tI v2_4]), (5, .one (tI w0_5)), (13, .one (.s .far () 5 (v13.map (GRun.t q0)))), (14, .one (tI v14)), (15, .one (tI v15))]) k k] (fun k => by kernel_rfl) ⟨Ev.c h0, Ev.c (getRow h1), T_i_PlanAt (GBoard.mk v2_0 v2_1 v2_2 v2_3 v2_4) g0.f0 h2, Ev.c h3, Ev.c (getRow h4), Ev.c lenMap, Ev.c lenMap, Ev.c rfl, Ev.c (sliceOk h5), Ev.c sliceMap, Ev.c lenMap, Loops.ev h6, trivial⟩
theorem i_UsedBy_R0_2 {q0 : Kd} (v1 : ByteArray) (v2_0 : List GSession) (v2_1 : List GPlan) (v2_2 : List GRun) (v2_3 : Int) (v2_4 : Int) (v5 : Int) (v13 : List GRun) (v14 : Int) (v15 : Int) (h0 : (decide (v15 < v14)) = false) : Round E 24 (lpAt Try.f24 0) (stL 64 [(1, .one (tS v1)), (2, .box () [.s .far () 3 (v2_0.map GSession.t), .s .far () 9 (v2_1.map (GPlan.t q0 q0)), .s .far () 5 (v2_2.map (GRun.t q0)), tI v2_3, tI v2_4]), (5, .one (tI v5)), (13, .one (.s .far () 5 (v13.map (GRun.t q0)))), (14, .one (tI v14)), (15, .one (tI v15))]) (.exit 0) (stL 64 [(5, .one (tI v5))]) :=
  Round.path [.b false] [fun _ => (decide (v15 < v14)) = false] (fun k => by kernel_rfl) ⟨Ev.c h0, trivial⟩
noncomputable def i_UsedBy_l0 (v1 : ByteArray) (v2_0 : List GSession) (v2_1 : List GPlan) (v2_2 : List GRun) (v2_3 : Int) (v2_4 : Int) : List GRun → Nat → Int → Option i_UsedBy_X0
  | [], i, v5 => some (.x0 v5)
  | hd :: rest, i, v5 => if Small.sm (GBoard.mk v2_0 v2_1 v2_2 v2_3 v2_4) then cond (decide ((planAt (GBoard.mk v2_0 v2_1 v2_2 v2_3 v2_4) hd.f0) < (0 : Int)))
    (i_UsedBy_l0 v1 v2_0 v2_1 v2_2 v2_3 v2_4 rest (i + 1) v5)
    ((getI v2_1 (planAt (GBoard.mk v2_0 v2_1 v2_2 v2_3 v2_4) hd.f0)).bind fun g1 => if 0 ≤ (0 : Int) ∧ (0 : Int) ≤ (minI (hd.f3.length : Int) (g1.f0.f5.length : Int)) ∧ (minI (hd.f3.length : Int) (g1.f0.f5.length : Int)) ≤ (hd.f3.length : Int) then if ((hd.f3.drop (0 : Int).toNat).take ((minI (hd.f3.length : Int) (g1.f0.f5.length : Int)).toNat - (0 : Int).toNat)).length ≤ 9223372036854775807 then (i_UsedBy_l1 v1 g1.f0.f5 ((hd.f3.drop (0 : Int).toNat).take ((minI (hd.f3.length : Int) (g1.f0.f5.length : Int)).toNat - (0 : Int).toNat)) 0 v5).bind fun y => match y with
      | .x2 w0_5 => (i_UsedBy_l0 v1 v2_0 v2_1 v2_2 v2_3 v2_4 rest (i + 1) w0_5) else none else none) else none
theorem i_UsedBy_L0 {q0 : Kd} (v1 : ByteArray) (v2_0 : List GSession) (v2_1 : List GPlan) (v2_2 : List GRun) (v2_3 : Int) (v2_4 : Int) (v13 : List GRun) (rest : List GRun) : ∀ (i : Nat) (v5 : Int), (v13).drop i = rest → v13.length ≤ 9223372036854775807 → Ans (i_UsedBy_l0 v1 v2_0 v2_1 v2_2 v2_3 v2_4 rest i v5) (i_UsedBy_Q0 (q0 := q0) v1 v2_0 v2_1 v2_2 v2_3 v2_4 v5 v13 (v13.length : Int) (i : Int)) := by
  induction rest with
  | nil =>
    intro i v5 hE hl
    have hb := foldEnd hE
    unfold i_UsedBy_l0
    exact Ans.some (Loops.stop (i_UsedBy_R0_2 (q0 := q0) v1 v2_0 v2_1 v2_2 v2_3 v2_4 v5 v13 (v13.length : Int) (i : Int) hb) (by intro h; cases h))
  | cons hd rest ih =>
    intro i v5 hE hl
    have hb := foldMore hE
    have hw := foldNext hE hl
    have hE2 := foldRest hE
    have hg := foldGet hE
    unfold i_UsedBy_l0
    refine Ans.pre (fun h2 => ?_)
    refine Ans.ite (fun h3 => ?_) (fun h3 => ?_)
    · exact (ih (i + 1) v5 hE2 hl).mono fun y hy => by
                have r := i_UsedBy_R0_0 (q0 := q0) v1 v2_0 v2_1 v2_2 v2_3 v2_4 v5 v13 (v13.length : Int) (i : Int) hd hb hg h2 h3
                rw [hw] at r
                cases y <;> exact Loops.next r hy
    · refine Ans.bind (fun g1 h4 => ?_)
      refine Ans.pre (fun h5 => ?_)
      refine Ans.pre (fun hl3 => ?_)
      refine Ans.bind (fun y hy => ?_)
      replace hy := i_UsedBy_L1 (q0 := q0) v1 v2_0 v2_1 v2_2 v2_3 v2_4 g1.f0.f5 v13 (v13.length : Int) (i : Int) ((hd.f3.drop (0 : Int).toNat).take ((minI (hd.f3.length : Int) (g1.f0.f5.length : Int)).toNat - (0 : Int).toNat)) ((hd.f3.drop (0 : Int).toNat).take ((minI (hd.f3.length : Int) (g1.f0.f5.length : Int)).toNat - (0 : Int).toNat)) 0 v5 rfl hl3 y hy
      cases y with
      | x2 w0_5 =>
        have h6 := hy
        exact (ih (i + 1) w0_5 hE2 hl).mono fun y hy => by
                have r := i_UsedBy_R0_1 (q0 := q0) v1 v2_0 v2_1 v2_2 v2_3 v2_4 v5 v13 (v13.length : Int) (i : Int) hd g1 w0_5 hb hg h2 h3 h4 h5 h6
                rw [hw] at r
                cases y <;> exact Loops.next r hy
theorem i_UsedBy_P0 {q0 : Kd} (x0 : GBoard) (x1 : ByteArray) (w0_5 : Int) (h0 : Loops E 24 (lpAt Try.f24 0) (stL 64 [(1, .one (tS x1)), (2, .box () [.s .far () 3 (x0.f0.map GSession.t), .s .far () 9 (x0.f1.map (GPlan.t q0 q0)), .s .far () 5 (x0.f2.map (GRun.t q0)), tI x0.f3, tI x0.f4]), (5, .one (tI (0 : Int))), (13, .one (.s .far () 5 (x0.f2.map (GRun.t q0)))), (14, .one (tI (x0.f2.length : Int))), (15, .one (tI (0 : Int)))]) (.exit 0) (stL 64 [(5, .one (tI w0_5))])) : Does E 24 [.agg (GBoard.t .far q0 x0), .one (tS x1)] [(false, [tI w0_5])] :=
  Does.path (fn := Try.f24) [.val (.int .i64 (x0.f2.length : Int)), .lp (.exit 0) (stL 64 [(5, .one (tI w0_5))])] [fun _ => ((x0.f2.map (GRun.t q0)).length : Int) = (x0.f2.length : Int), fun k => LoopK E 24 (lpAt Try.f24 0) (stL 64 [(1, .one (tS x1)), (2, .box () [.s .far () 3 (x0.f0.map GSession.t), .s .far () 9 (x0.f1.map (GPlan.t q0 q0)), .s .far () 5 (x0.f2.map (GRun.t q0)), tI x0.f3, tI x0.f4]), (5, .one (tI (0 : Int))), (13, .one (.s .far () 5 (x0.f2.map (GRun.t q0)))), (14, .one (tI (x0.f2.length : Int))), (15, .one (tI (0 : Int)))]) (.exit 0) (stL 64 [(5, .one (tI w0_5))]) k k] rfl rfl (fun k => by kernel_rfl) ⟨Ev.c lenMap, Loops.ev h0, trivial⟩
noncomputable def i_UsedBy_F (x0 : GBoard) (x1 : ByteArray) : Option (Int) :=
    if x0.f2.length ≤ 9223372036854775807 then (i_UsedBy_l0 x1 x0.f0 x0.f1 x0.f2 x0.f3 x0.f4 x0.f2 0 (0 : Int)).bind fun y => match y with
      | .x0 w0_5 => (some (w0_5)) else none
theorem i_UsedBy_D {q0 : Kd} (x0 : GBoard) (x1 : ByteArray) : Ans (i_UsedBy_F x0 x1) (fun r => Does E 24 [.agg (GBoard.t .far q0 x0), .one (tS x1)] [(false, [tI r])]) := by
  unfold i_UsedBy_F
  refine Ans.pre (fun hl1 => ?_)
  refine Ans.bind (fun y hy => ?_)
  replace hy := i_UsedBy_L0 (q0 := q0) x1 x0.f0 x0.f1 x0.f2 x0.f3 x0.f4 x0.f2 x0.f2 0 (0 : Int) rfl hl1 y hy
  cases y with
  | x0 w0_5 =>
    have h0 := hy
    exact Ans.some (i_UsedBy_P0 (q0 := q0) x0 x1 w0_5 h0)
noncomputable def usedBy (b : GBoard) (n : ByteArray) : Int := (s_UsedBy_F b n).getD 0
theorem used_neg (n : ByteArray) (ps : List GPlan) (k : Int) (h : k < 0) : ∀ (rest : List GState) (i : Nat) (v : Int), s_UsedBy_l1 n ps k rest i v = some (.x2 v)
  | [], i, v => rfl
  | x :: rest, i, v => by
    unfold s_UsedBy_l1
    rw [show decide (k ≥ (0 : Int)) = false from decide_eq_false (by omega)]
    rfl
theorem used_past (n : ByteArray) (ps : List GPlan) (k : Int) (g : GPlan) (hg : getI ps k = some g) : ∀ (rest : List GState) (i : Nat) (v : Int), g.f0.f5.length ≤ i → s_UsedBy_l1 n ps k rest i v = some (.x2 v)
  | [], i, v, _ => rfl
  | x :: rest, i, v, hi => by
    have ih := used_past n ps k g hg rest (i + 1) v (by omega)
    unfold s_UsedBy_l1
    rw [hg, Option.bind_some, show decide ((i : Int) < (g.f0.f5.length : Int)) = false from decide_eq_false (by omega), cond_false, ih]
    cases decide (k ≥ (0 : Int)) <;> cases x.f0 == (1 : Int) <;> rfl
theorem used_in (n : ByteArray) (ps : List GPlan) (k : Int) (g : GPlan) (hk : 0 ≤ k) (hg : getI ps k = some g) : ∀ (rest : List GState) (i : Nat) (v : Int), ∃ r, s_UsedBy_l1 n ps k rest i v = some (.x2 r) ∧ i_UsedBy_l1 n g.f0.f5 (rest.take (g.f0.f5.length - i)) i v = some (.x2 r)
  | [], i, v => ⟨v, rfl, by simp [i_UsedBy_l1]⟩
  | x :: rest, i, v => by
    by_cases hi : i < g.f0.f5.length
    · obtain ⟨y, hy⟩ : ∃ y, getI g.f0.f5 (i : Int) = some y := by rw [getI_nat, List.getElem?_eq_getElem hi]; exact ⟨_, rfl⟩
      rw [show g.f0.f5.length - i = (g.f0.f5.length - (i + 1)) + 1 by omega, List.take_succ_cons]
      have ih := used_in n ps k g hk hg rest (i + 1)
      unfold s_UsedBy_l1 i_UsedBy_l1
      simp only [hg, hy, Option.bind_some, show decide ((i : Int) < (g.f0.f5.length : Int)) = true from decide_eq_true (by omega), show decide (k ≥ (0 : Int)) = true from decide_eq_true hk, cond_true]
      cases x.f0 == (1 : Int) <;> cases y.f1.toList == n.toList <;> exact ih _
    · refine ⟨v, used_past n ps k g hg _ i v (by omega), ?_⟩
      rw [show g.f0.f5.length - i = 0 by omega, List.take_zero]; rfl
theorem used_l (n : ByteArray) (b : GBoard) (hb : Small.sm b) : ∀ (rest : List GRun) (i : Nat) (v : Int), (∀ y ∈ rest, Small.sm y) → ∃ r, s_UsedBy_l0 n b.f0 b.f1 b.f2 b.f3 b.f4 rest i v = some (.x0 r) ∧ i_UsedBy_l0 n b.f0 b.f1 b.f2 b.f3 b.f4 rest i v = some (.x0 r)
  | [], i, v, _ => ⟨v, rfl, rfl⟩
  | x :: rest, i, v, h => by
    have hx := sm_wf_len (h x (by simp)).2.2
    have hb' : Small.sm (GBoard.mk b.f0 b.f1 b.f2 b.f3 b.f4) := hb
    obtain ⟨-, -, p1, p2⟩ := plan_ok b x.f0 hb.2.1.1
    have ih := fun v => used_l n b hb rest (i + 1) v fun y hy => h y (by simp [hy])
    unfold s_UsedBy_l0 i_UsedBy_l0
    simp only [if_pos hx, if_pos hb']
    rw [show (GBoard.mk b.f0 b.f1 b.f2 b.f3 b.f4) = b from rfl]
    by_cases q : planAt b x.f0 < 0
    · rw [used_neg n _ _ q, decide_eq_true q]
      exact ih v
    · obtain ⟨g, hg, _⟩ := getI_in (l := b.f1) (k := planAt b x.f0) (by omega)
      obtain ⟨r, h1, h2⟩ := used_in n b.f1 _ g (by omega) hg x.f3 0 v
      rw [decide_eq_false q, hg, h1]
      simp only [cond_false, Option.bind_some]
      have hm : minI (x.f3.length : Int) (g.f0.f5.length : Int) = ((min x.f3.length g.f0.f5.length : Nat) : Int) := by unfold minI; split <;> omega
      have ht : (x.f3.drop 0).take (min x.f3.length g.f0.f5.length - 0) = x.f3.take (g.f0.f5.length - 0) := by rw [List.drop_zero, Nat.sub_zero, Nat.sub_zero, List.take_eq_take_iff]; omega
      rw [hm]
      simp only [Int.toNat_natCast, Int.toNat_zero]
      rw [ht, if_pos (by omega), if_pos (by simp; omega), h2]
      exact ih r
theorem used_ok (b : GBoard) (n : ByteArray) (h : Small.sm b) : s_UsedBy_F b n = some (usedBy b n) ∧ i_UsedBy_F b n = some (usedBy b n) := by
  obtain ⟨r, h1, h2⟩ := used_l n b h b.f2 0 0 h.2.2.2
  have h3 := sm_wf_len h.2.2
  have e : s_UsedBy_F b n = some r := by unfold s_UsedBy_F; rw [if_pos h3, h1]; rfl
  have e2 : i_UsedBy_F b n = some r := by unfold i_UsedBy_F; rw [if_pos h3, h2]; rfl
  have e3 : usedBy b n = r := by unfold usedBy; rw [e]; rfl
  rw [e3]; exact ⟨e, e2⟩
theorem T_s_UsedBy {q0 : Kd} (x0 : GBoard) (x1 : ByteArray) (h : Small.sm x0) : Does E 23 [.agg (GBoard.t .far q0 x0), .one (tS x1)] [(false, [tI (usedBy x0 x1)])] := by
  exact s_UsedBy_D x0 x1 _ (used_ok x0 x1 h).1
theorem T_i_UsedBy {q0 : Kd} (x0 : GBoard) (x1 : ByteArray) (h : Small.sm x0) : Does E 24 [.agg (GBoard.t .far q0 x0), .one (tS x1)] [(false, [tI (usedBy x0 x1)])] := by
  exact i_UsedBy_D x0 x1 _ (used_ok x0 x1 h).2
-- loop.example/g00188/laws.FnExactUsedBy
theorem l_FnExactUsedBy_P0 {q0 : Kd} (x0 : LBoard) (x1 : ByteArray) (h0 : (decide ((x1.size : Int) > (1048576 : Int))) = true) : Does E 7 [.agg (LBoard.t .far q0 x0), .one (tS x1)] [(false, [tB true])] :=
  Does.path (fn := Try.f7) [.b true] [fun _ => (decide ((x1.size : Int) > (1048576 : Int))) = true] rfl rfl (fun k => by kernel_rfl) ⟨Ev.c h0, trivial⟩
theorem l_FnExactUsedBy_P1 {q0 : Kd} (x0 : LBoard) (x1 : ByteArray) (h0 : (decide ((x1.size : Int) > (1048576 : Int))) = false) (h1 : Wf.wf x0) (h2 : (decide ((p_l_szBoard x0 (1048576 : Int)) < (0 : Int))) = true) : Does E 7 [.agg (LBoard.t .far q0 x0), .one (tS x1)] [(false, [tB true])] :=
  Does.path (fn := Try.f7) [.b false, .ret [(false, [tI (p_l_szBoard x0 (1048576 : Int))])], .b true] [fun _ => (decide ((x1.size : Int) > (1048576 : Int))) = false, fun k => E.C k 12 [.agg (LBoard.t .far q0 x0), .one (tI (1048576 : Int))] = some [(false, [tI (p_l_szBoard x0 (1048576 : Int))])], fun _ => (decide ((p_l_szBoard x0 (1048576 : Int)) < (0 : Int))) = true] rfl rfl (fun k => by kernel_rfl) ⟨Ev.c h0, T_l_szBoard x0 (1048576 : Int) h1, Ev.c h2, trivial⟩
theorem l_FnExactUsedBy_P2 {q0 : Kd} (x0 : LBoard) (x1 : ByteArray) (h0 : (decide ((x1.size : Int) > (1048576 : Int))) = false) (h1 : Wf.wf x0) (h2 : (decide ((p_l_szBoard x0 (1048576 : Int)) < (0 : Int))) = false) (h3 : Small.sm x0) (h4 : Small.sm (p_l_toBoard x0)) (h5 : ((usedBy (p_l_toBoard x0) x1) != (usedBy (p_l_toBoard x0) x1)) = true) : Does E 7 [.agg (LBoard.t .far q0 x0), .one (tS x1)] [(false, [tB false])] :=
  Does.path (fn := Try.f7) [.b false, .ret [(false, [tI (p_l_szBoard x0 (1048576 : Int))])], .b false, .ret [(true, GBoard.t .own .own (p_l_toBoard x0))], .ret [(false, [tI (usedBy (p_l_toBoard x0) x1)])], .ret [(true, GBoard.t .own .own (p_l_toBoard x0))], .ret [(false, [tI (usedBy (p_l_toBoard x0) x1)])], .b true] [fun _ => (decide ((x1.size : Int) > (1048576 : Int))) = false, fun k => E.C k 12 [.agg (LBoard.t .far q0 x0), .one (tI (1048576 : Int))] = some [(false, [tI (p_l_szBoard x0 (1048576 : Int))])], fun _ => (decide ((p_l_szBoard x0 (1048576 : Int)) < (0 : Int))) = false, fun k => E.C k 14 [.agg (LBoard.t .far q0 x0)] = some [(true, GBoard.t .own .own (p_l_toBoard x0))], fun k => E.C k 23 [.agg (GBoard.t .far .own (p_l_toBoard x0)), .one (tS x1)] = some [(false, [tI (usedBy (p_l_toBoard x0) x1)])], fun k => E.C k 14 [.agg (LBoard.t .far q0 x0)] = some [(true, GBoard.t .own .own (p_l_toBoard x0))], fun k => E.C k 24 [.agg (GBoard.t .far .own (p_l_toBoard x0)), .one (tS x1)] = some [(false, [tI (usedBy (p_l_toBoard x0) x1)])], fun _ => ((usedBy (p_l_toBoard x0) x1) != (usedBy (p_l_toBoard x0) x1)) = true] rfl rfl (fun k => by kernel_rfl) ⟨Ev.c h0, T_l_szBoard x0 (1048576 : Int) h1, Ev.c h2, T_l_toBoard x0 h3, T_s_UsedBy (p_l_toBoard x0) x1 h4, T_l_toBoard x0 h3, T_i_UsedBy (p_l_toBoard x0) x1 h4, Ev.c h5, trivial⟩
theorem l_FnExactUsedBy_P3 {q0 : Kd} (x0 : LBoard) (x1 : ByteArray) (h0 : (decide ((x1.size : Int) > (1048576 : Int))) = false) (h1 : Wf.wf x0) (h2 : (decide ((p_l_szBoard x0 (1048576 : Int)) < (0 : Int))) = false) (h3 : Small.sm x0) (h4 : Small.sm (p_l_toBoard x0)) (h5 : ((usedBy (p_l_toBoard x0) x1) != (usedBy (p_l_toBoard x0) x1)) = false) (h6 : (p_l_toBoard x0) = (p_l_toBoard x0)) (h7 : (yes (p_l_toBoard x0) (p_l_toBoard x0)) = true) : Does E 7 [.agg (LBoard.t .far q0 x0), .one (tS x1)] [(false, [tB true])] :=
  Does.path (fn := Try.f7) [.b false, .ret [(false, [tI (p_l_szBoard x0 (1048576 : Int))])], .b false, .ret [(true, GBoard.t .own .own (p_l_toBoard x0))], .ret [(false, [tI (usedBy (p_l_toBoard x0) x1)])], .ret [(true, GBoard.t .own .own (p_l_toBoard x0))], .ret [(false, [tI (usedBy (p_l_toBoard x0) x1)])], .b false, .ret [(true, GBoard.t .own .own (p_l_toBoard x0))], .ret [(false, [tB true])]] [fun _ => (decide ((x1.size : Int) > (1048576 : Int))) = false, fun k => E.C k 12 [.agg (LBoard.t .far q0 x0), .one (tI (1048576 : Int))] = some [(false, [tI (p_l_szBoard x0 (1048576 : Int))])], fun _ => (decide ((p_l_szBoard x0 (1048576 : Int)) < (0 : Int))) = false, fun k => E.C k 14 [.agg (LBoard.t .far q0 x0)] = some [(true, GBoard.t .own .own (p_l_toBoard x0))], fun k => E.C k 23 [.agg (GBoard.t .far .own (p_l_toBoard x0)), .one (tS x1)] = some [(false, [tI (usedBy (p_l_toBoard x0) x1)])], fun k => E.C k 14 [.agg (LBoard.t .far q0 x0)] = some [(true, GBoard.t .own .own (p_l_toBoard x0))], fun k => E.C k 24 [.agg (GBoard.t .far .own (p_l_toBoard x0)), .one (tS x1)] = some [(false, [tI (usedBy (p_l_toBoard x0) x1)])], fun _ => ((usedBy (p_l_toBoard x0) x1) != (usedBy (p_l_toBoard x0) x1)) = false, fun k => E.C k 14 [.agg (LBoard.t .far q0 x0)] = some [(true, GBoard.t .own .own (p_l_toBoard x0))], fun k => E.C k 16 [.agg (GBoard.t .far .own (p_l_toBoard x0)), .agg (GBoard.t .far .own (p_l_toBoard x0))] = some [(false, [tB true])]] rfl rfl (fun k => by kernel_rfl) ⟨Ev.c h0, T_l_szBoard x0 (1048576 : Int) h1, Ev.c h2, T_l_toBoard x0 h3, T_s_UsedBy (p_l_toBoard x0) x1 h4, T_l_toBoard x0 h3, T_i_UsedBy (p_l_toBoard x0) x1 h4, Ev.c h5, T_l_toBoard x0 h3, Does.to (T_l_eqBoard (p_l_toBoard x0) (p_l_toBoard x0) h6 h4) (by rw [h7]), trivial⟩
theorem l_FnExactUsedBy_P4 {q0 : Kd} (x0 : LBoard) (x1 : ByteArray) (h0 : (decide ((x1.size : Int) > (1048576 : Int))) = false) (h1 : Wf.wf x0) (h2 : (decide ((p_l_szBoard x0 (1048576 : Int)) < (0 : Int))) = false) (h3 : Small.sm x0) (h4 : Small.sm (p_l_toBoard x0)) (h5 : ((usedBy (p_l_toBoard x0) x1) != (usedBy (p_l_toBoard x0) x1)) = false) (h6 : (p_l_toBoard x0) = (p_l_toBoard x0)) (h7 : (yes (p_l_toBoard x0) (p_l_toBoard x0)) = false) : Does E 7 [.agg (LBoard.t .far q0 x0), .one (tS x1)] [(false, [tB false])] :=
  Does.path (fn := Try.f7) [.b false, .ret [(false, [tI (p_l_szBoard x0 (1048576 : Int))])], .b false, .ret [(true, GBoard.t .own .own (p_l_toBoard x0))], .ret [(false, [tI (usedBy (p_l_toBoard x0) x1)])], .ret [(true, GBoard.t .own .own (p_l_toBoard x0))], .ret [(false, [tI (usedBy (p_l_toBoard x0) x1)])], .b false, .ret [(true, GBoard.t .own .own (p_l_toBoard x0))], .ret [(false, [tB false])]] [fun _ => (decide ((x1.size : Int) > (1048576 : Int))) = false, fun k => E.C k 12 [.agg (LBoard.t .far q0 x0), .one (tI (1048576 : Int))] = some [(false, [tI (p_l_szBoard x0 (1048576 : Int))])], fun _ => (decide ((p_l_szBoard x0 (1048576 : Int)) < (0 : Int))) = false, fun k => E.C k 14 [.agg (LBoard.t .far q0 x0)] = some [(true, GBoard.t .own .own (p_l_toBoard x0))], fun k => E.C k 23 [.agg (GBoard.t .far .own (p_l_toBoard x0)), .one (tS x1)] = some [(false, [tI (usedBy (p_l_toBoard x0) x1)])], fun k => E.C k 14 [.agg (LBoard.t .far q0 x0)] = some [(true, GBoard.t .own .own (p_l_toBoard x0))], fun k => E.C k 24 [.agg (GBoard.t .far .own (p_l_toBoard x0)), .one (tS x1)] = some [(false, [tI (usedBy (p_l_toBoard x0) x1)])], fun _ => ((usedBy (p_l_toBoard x0) x1) != (usedBy (p_l_toBoard x0) x1)) = false, fun k => E.C k 14 [.agg (LBoard.t .far q0 x0)] = some [(true, GBoard.t .own .own (p_l_toBoard x0))], fun k => E.C k 16 [.agg (GBoard.t .far .own (p_l_toBoard x0)), .agg (GBoard.t .far .own (p_l_toBoard x0))] = some [(false, [tB false])]] rfl rfl (fun k => by kernel_rfl) ⟨Ev.c h0, T_l_szBoard x0 (1048576 : Int) h1, Ev.c h2, T_l_toBoard x0 h3, T_s_UsedBy (p_l_toBoard x0) x1 h4, T_l_toBoard x0 h3, T_i_UsedBy (p_l_toBoard x0) x1 h4, Ev.c h5, T_l_toBoard x0 h3, Does.to (T_l_eqBoard (p_l_toBoard x0) (p_l_toBoard x0) h6 h4) (by rw [h7]), trivial⟩
noncomputable def l_FnExactUsedBy_F (x0 : LBoard) (x1 : ByteArray) : Option (Bool) :=
    cond (decide ((x1.size : Int) > (1048576 : Int)))
      (some (true))
      (if Wf.wf x0 then cond (decide ((p_l_szBoard x0 (1048576 : Int)) < (0 : Int)))
        (some (true))
        (if Small.sm x0 then if Small.sm (p_l_toBoard x0) then cond ((usedBy (p_l_toBoard x0) x1) != (usedBy (p_l_toBoard x0) x1))
          (some (false))
          (if (p_l_toBoard x0) = (p_l_toBoard x0) then cond (yes (p_l_toBoard x0) (p_l_toBoard x0))
            (some (true))
            (some (false)) else none) else none else none) else none)
theorem l_FnExactUsedBy_D {q0 : Kd} (x0 : LBoard) (x1 : ByteArray) : Ans (l_FnExactUsedBy_F x0 x1) (fun r => Does E 7 [.agg (LBoard.t .far q0 x0), .one (tS x1)] [(false, [tB r])]) := by
  unfold l_FnExactUsedBy_F
  refine Ans.ite (fun h0 => ?_) (fun h0 => ?_)
  · exact Ans.some (l_FnExactUsedBy_P0 (q0 := q0) x0 x1 h0)
  · refine Ans.pre (fun h1 => ?_)
    refine Ans.ite (fun h2 => ?_) (fun h2 => ?_)
    · exact Ans.some (l_FnExactUsedBy_P1 (q0 := q0) x0 x1 h0 h1 h2)
    · refine Ans.pre (fun h3 => ?_)
      refine Ans.pre (fun h4 => ?_)
      refine Ans.ite (fun h5 => ?_) (fun h5 => ?_)
      · exact Ans.some (l_FnExactUsedBy_P2 (q0 := q0) x0 x1 h0 h1 h2 h3 h4 h5)
      · refine Ans.pre (fun h6 => ?_)
        refine Ans.ite (fun h7 => ?_) (fun h7 => ?_)
        · exact Ans.some (l_FnExactUsedBy_P3 (q0 := q0) x0 x1 h0 h1 h2 h3 h4 h5 h6 h7)
        · exact Ans.some (l_FnExactUsedBy_P4 (q0 := q0) x0 x1 h0 h1 h2 h3 h4 h5 h6 h7)
theorem T_law_UsedBy {q0 : Kd} (x0 : LBoard) (x1 : ByteArray) (h : Wf.wf x0) : Does E 7 [.agg (LBoard.t .far q0 x0), .one (tS x1)] [(false, [tB true])] := by
  have hs := le_l_szBoard x0 1048576 h (by omega) (by omega)
  exact l_FnExactUsedBy_D x0 x1 _ (by
    unfold l_FnExactUsedBy_F
    refine lawCond fun _ => ?_
    refine lawPre h (lawSz fun q => ?_)
    have hs := (hs q).2
    have ht := sm_l_toBoard hs
    simp [hs, ht, yes])
end Go.Proofs.Ytohlonlaadmikaa.Am
