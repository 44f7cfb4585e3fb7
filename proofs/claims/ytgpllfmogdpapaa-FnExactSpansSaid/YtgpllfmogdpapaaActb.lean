/- What spans do. Conditions: none. -/
import Derived.Test.YtgpllfmogdpapaaAct
namespace Go.Proofs.Ytgpllfmogdpapaa.Am
set_option linter.unusedVariables false
set_option linter.unusedSimpArgs false
open Go Go.Proofs Classical
set_option maxRecDepth 100000
set_option linter.unusedVariables false
set_option linter.unusedSimpArgs false
inductive i_spansOf_X0 where
  | x0 (v9 : List GSpan)
def i_spansOf_Q0 (v2 : Int) (v3 : Int) (v4_0 : List Int) (v4_1 : List Int) (v4_2 : List Int) (v4_3 : List Int) (v4_4 : List Int) (v9 : List GSpan) (v10 : Int) (v11 : Bool) : i_spansOf_X0 → Prop
  | .x0 zv9 => Loops E 97 (lpAt Try.f97 0) (stL 49 [(2, .one (tI v2)), (3, .one (tI v3)), (4, .box () [.s .far () 1 (v4_0.map etI), .s .far () 1 (v4_1.map etI), .s .far () 1 (v4_2.map etI), .s .far () 1 (v4_3.map etI), .s .far () 1 (v4_4.map etI)]), (9, .one (.s .own () 2 (v9.map GSpan.t))), (10, .one (tI v10)), (11, .one (tB v11))]) (.exit 0) (stL 49 [(9, .one (.s .own () 2 (zv9.map GSpan.t)))])
theorem i_spansOf_R0_0 (v2 : Int) (v3 : Int) (v4_0 : List Int) (v4_1 : List Int) (v4_2 : List Int) (v4_3 : List Int) (v4_4 : List Int) (v9 : List GSpan) (v10 : Int) (h0 : (decide ((v9.length : Int) < v3)) = true) (h1 : Small.sm (GCron.mk v4_0 v4_1 v4_2 v4_3 v4_4)) (h2 : cronOk (GCron.mk v4_0 v4_1 v4_2 v4_3 v4_4) = true) (h3 : (400 : Int) = 400) (h4 : ((nextFire (GCron.mk v4_0 v4_1 v4_2 v4_3 v4_4) (inc v10) (400 : Int)).2) = true) (h5 : (decide (((nextFire (GCron.mk v4_0 v4_1 v4_2 v4_3 v4_4) (inc v10) (400 : Int)).1) > v2)) = true) : Round E 97 (lpAt Try.f97 0) (stL 49 [(2, .one (tI v2)), (3, .one (tI v3)), (4, .box () [.s .far () 1 (v4_0.map etI), .s .far () 1 (v4_1.map etI), .s .far () 1 (v4_2.map etI), .s .far () 1 (v4_3.map etI), .s .far () 1 (v4_4.map etI)]), (9, .one (.s .own () 2 (v9.map GSpan.t))), (10, .one (tI v10)), (11, .one (tB true))]) (.exit 0) (stL 49 [(9, .one (.s .own () 2 (v9.map GSpan.t)))]) :=
  Round.path [.val (.int .i64 (v9.length : Int)), .b true, .ret [(false, [tI ((nextFire (GCron.mk v4_0 v4_1 v4_2 v4_3 v4_4) (inc v10) (400 : Int)).1)]), (false, [tB true])], .b true] [fun _ => ((v9.map GSpan.t).length : Int) = (v9.length : Int), fun _ => (decide ((v9.length : Int) < v3)) = true, fun k => E.C k 152 [.agg (GCron.t .far (GCron.mk v4_0 v4_1 v4_2 v4_3 v4_4)), .one (tI (inc v10)), .one (tI (400 : Int))] = some [(false, [tI ((nextFire (GCron.mk v4_0 v4_1 v4_2 v4_3 v4_4) (inc v10) (400 : Int)).1)]), (false, [tB true])], fun _ => (decide (((nextFire (GCron.mk v4_0 v4_1 v4_2 v4_3 v4_4) (inc v10) (400 : Int)).1) > v2)) = true] (fun k => by kernel_rfl) ⟨Ev.c lenMap, Ev.c h0, Does.to (T_i_nextFire (GCron.mk v4_0 v4_1 v4_2 v4_3 v4_4) (inc v10) (400 : Int) h1 h2 h3) (by rw [h4]), Ev.c h5, trivial⟩
theorem i_spansOf_R0_1 (v2 : Int) (v3 : Int) (v4_0 : List Int) (v4_1 : List Int) (v4_2 : List Int) (v4_3 : List Int) (v4_4 : List Int) (v9 : List GSpan) (v10 : Int) (h0 : (decide ((v9.length : Int) < v3)) = true) (h1 : Small.sm (GCron.mk v4_0 v4_1 v4_2 v4_3 v4_4)) (h2 : cronOk (GCron.mk v4_0 v4_1 v4_2 v4_3 v4_4) = true) (h3 : (400 : Int) = 400) (h4 : ((nextFire (GCron.mk v4_0 v4_1 v4_2 v4_3 v4_4) (inc v10) (400 : Int)).2) = true) (h5 : (decide (((nextFire (GCron.mk v4_0 v4_1 v4_2 v4_3 v4_4) (inc v10) (400 : Int)).1) > v2)) = false) (h6 : (v9.length + ([(GSpan.mk v10 ((nextFire (GCron.mk v4_0 v4_1 v4_2 v4_3 v4_4) (inc v10) (400 : Int)).1))]).length) * 16 ≤ 140737488355328 ∧ v9.length + ([(GSpan.mk v10 ((nextFire (GCron.mk v4_0 v4_1 v4_2 v4_3 v4_4) (inc v10) (400 : Int)).1))]).length ≤ 4611686018427387904) : Round E 97 (lpAt Try.f97 0) (stL 49 [(2, .one (tI v2)), (3, .one (tI v3)), (4, .box () [.s .far () 1 (v4_0.map etI), .s .far () 1 (v4_1.map etI), .s .far () 1 (v4_2.map etI), .s .far () 1 (v4_3.map etI), .s .far () 1 (v4_4.map etI)]), (9, .one (.s .own () 2 (v9.map GSpan.t))), (10, .one (tI v10)), (11, .one (tB true))]) .normal (stL 49 [(2, .one (tI v2)), (3, .one (tI v3)), (4, .box () [.s .far () 1 (v4_0.map etI), .s .far () 1 (v4_1.map etI), .s .far () 1 (v4_2.map etI), .s .far () 1 (v4_3.map etI), .s .far () 1 (v4_4.map etI)]), (9, .one (.s .own () 2 ((v9 ++ ([(GSpan.mk v10 ((nextFire (GCron.mk v4_0 v4_1 v4_2 v4_3 v4_4) (inc v10) (400 : Int)).1))])).map GSpan.t))), (10, .one (tI ((nextFire (GCron.mk v4_0 v4_1 v4_2 v4_3 v4_4) (inc v10) (400 : Int)).1))), (11, .one (tB true))]) :=
  Round.path [.val (.int .i64 (v9.length : Int)), .b true, .ret [(false, [tI ((nextFire (GCron.mk v4_0 v4_1 v4_2 v4_3 v4_4) (inc v10) (400 : Int)).1)]), (false, [tB true])], .b false, .rows ((v9 ++ ([(GSpan.mk v10 ((nextFire (GCron.mk v4_0 v4_1 v4_2 v4_3 v4_4) (inc v10) (400 : Int)).1))])).map GSpan.t)] [fun _ => ((v9.map GSpan.t).length : Int) = (v9.length : Int), fun _ => (decide ((v9.length : Int) < v3)) = true, fun k => E.C k 152 [.agg (GCron.t .far (GCron.mk v4_0 v4_1 v4_2 v4_3 v4_4)), .one (tI (inc v10)), .one (tI (400 : Int))] = some [(false, [tI ((nextFire (GCron.mk v4_0 v4_1 v4_2 v4_3 v4_4) (inc v10) (400 : Int)).1)]), (false, [tB true])], fun _ => (decide (((nextFire (GCron.mk v4_0 v4_1 v4_2 v4_3 v4_4) (inc v10) (400 : Int)).1) > v2)) = false, fun _ => (((([(GSpan.mk v10 ((nextFire (GCron.mk v4_0 v4_1 v4_2 v4_3 v4_4) (inc v10) (400 : Int)).1))]).map GSpan.t).drop 0).take (([(GSpan.mk v10 ((nextFire (GCron.mk v4_0 v4_1 v4_2 v4_3 v4_4) (inc v10) (400 : Int)).1))]).map GSpan.t).length).all (fun r => r.all T.flat) = true ∧ ((v9.map GSpan.t).length + (((([(GSpan.mk v10 ((nextFire (GCron.mk v4_0 v4_1 v4_2 v4_3 v4_4) (inc v10) (400 : Int)).1))]).map GSpan.t).drop 0).take (([(GSpan.mk v10 ((nextFire (GCron.mk v4_0 v4_1 v4_2 v4_3 v4_4) (inc v10) (400 : Int)).1))]).map GSpan.t).length).length) * 16 ≤ 140737488355328 ∧ (v9.map GSpan.t).length + (((([(GSpan.mk v10 ((nextFire (GCron.mk v4_0 v4_1 v4_2 v4_3 v4_4) (inc v10) (400 : Int)).1))]).map GSpan.t).drop 0).take (([(GSpan.mk v10 ((nextFire (GCron.mk v4_0 v4_1 v4_2 v4_3 v4_4) (inc v10) (400 : Int)).1))]).map GSpan.t).length).length ≤ 4611686018427387904, fun _ => (v9.map GSpan.t) ++ (((([(GSpan.mk v10 ((nextFire (GCron.mk v4_0 v4_1 v4_2 v4_3 v4_4) (inc v10) (400 : Int)).1))]).map GSpan.t).drop 0).take (([(GSpan.mk v10 ((nextFire (GCron.mk v4_0 v4_1 v4_2 v4_3 v4_4) (inc v10) (400 : Int)).1))]).map GSpan.t).length) = (v9 ++ ([(GSpan.mk v10 ((nextFire (GCron.mk v4_0 v4_1 v4_2 v4_3 v4_4) (inc v10) (400 : Int)).1))])).map GSpan.t] (fun k => by kernel_rfl) ⟨Ev.c lenMap, Ev.c h0, Does.to (T_i_nextFire (GCron.mk v4_0 v4_1 v4_2 v4_3 v4_4) (inc v10) (400 : Int) h1 h2 h3) (by rw [h4]), Ev.c h5, Ev.c (by simp only [List.take_length, List.drop_zero]; exact appOk (fun x => rfl) h6), Ev.c (by simp only [List.take_length, List.drop_zero]; exact appMap), trivial⟩
theorem i_spansOf_R0_2 (v2 : Int) (v3 : Int) (v4_0 : List Int) (v4_1 : List Int) (v4_2 : List Int) (v4_3 : List Int) (v4_4 : List Int) (v9 : List GSpan) (v10 : Int) (h0 : (decide ((v9.length : Int) < v3)) = true) (h1 : Small.sm (GCron.mk v4_0 v4_1 v4_2 v4_3 v4_4)) (h2 : cronOk (GCron.mk v4_0 v4_1 v4_2 v4_3 v4_4) = true) (h3 : (400 : Int) = 400) (h4 : ((nextFire (GCron.mk v4_0 v4_1 v4_2 v4_3 v4_4) (inc v10) (400 : Int)).2) = false) : Round E 97 (lpAt Try.f97 0) (stL 49 [(2, .one (tI v2)), (3, .one (tI v3)), (4, .box () [.s .far () 1 (v4_0.map etI), .s .far () 1 (v4_1.map etI), .s .far () 1 (v4_2.map etI), .s .far () 1 (v4_3.map etI), .s .far () 1 (v4_4.map etI)]), (9, .one (.s .own () 2 (v9.map GSpan.t))), (10, .one (tI v10)), (11, .one (tB true))]) (.exit 0) (stL 49 [(9, .one (.s .own () 2 (v9.map GSpan.t)))]) :=
  Round.path [.val (.int .i64 (v9.length : Int)), .b true, .ret [(false, [tI ((nextFire (GCron.mk v4_0 v4_1 v4_2 v4_3 v4_4) (inc v10) (400 : Int)).1)]), (false, [tB false])]] [fun _ => ((v9.map GSpan.t).length : Int) = (v9.length : Int), fun _ => (decide ((v9.length : Int) < v3)) = true, fun k => E.C k 152 [.agg (GCron.t .far (GCron.mk v4_0 v4_1 v4_2 v4_3 v4_4)), .one (tI (inc v10)), .one (tI (400 : Int))] = some [(false, [tI ((nextFire (GCron.mk v4_0 v4_1 v4_2 v4_3 v4_4) (inc v10) (400 : Int)).1)]), (false, [tB false])]] (fun k => by kernel_rfl) ⟨Ev.c lenMap, Ev.c h0, Does.to (T_i_nextFire (GCron.mk v4_0 v4_1 v4_2 v4_3 v4_4) (inc v10) (400 : Int) h1 h2 h3) (by rw [h4]), trivial⟩
theorem i_spansOf_R0_3 (v2 : Int) (v3 : Int) (v4_0 : List Int) (v4_1 : List Int) (v4_2 : List Int) (v4_3 : List Int) (v4_4 : List Int) (v9 : List GSpan) (v10 : Int) (h0 : (decide ((v9.length : Int) < v3)) = false) : Round E 97 (lpAt Try.f97 0) (stL 49 [(2, .one (tI v2)), (3, .one (tI v3)), (4, .box () [.s .far () 1 (v4_0.map etI), .s .far () 1 (v4_1.map etI), .s .far () 1 (v4_2.map etI), .s .far () 1 (v4_3.map etI), .s .far () 1 (v4_4.map etI)]), (9, .one (.s .own () 2 (v9.map GSpan.t))), (10, .one (tI v10)), (11, .one (tB true))]) (.exit 0) (stL 49 [(9, .one (.s .own () 2 (v9.map GSpan.t)))]) :=
  Round.path [.val (.int .i64 (v9.length : Int)), .b false] [fun _ => ((v9.map GSpan.t).length : Int) = (v9.length : Int), fun _ => (decide ((v9.length : Int) < v3)) = false] (fun k => by kernel_rfl) ⟨Ev.c lenMap, Ev.c h0, trivial⟩
theorem i_spansOf_R0_4 (v2 : Int) (v3 : Int) (v4_0 : List Int) (v4_1 : List Int) (v4_2 : List Int) (v4_3 : List Int) (v4_4 : List Int) (v9 : List GSpan) (v10 : Int)  : Round E 97 (lpAt Try.f97 0) (stL 49 [(2, .one (tI v2)), (3, .one (tI v3)), (4, .box () [.s .far () 1 (v4_0.map etI), .s .far () 1 (v4_1.map etI), .s .far () 1 (v4_2.map etI), .s .far () 1 (v4_3.map etI), .s .far () 1 (v4_4.map etI)]), (9, .one (.s .own () 2 (v9.map GSpan.t))), (10, .one (tI v10)), (11, .one (tB false))]) (.exit 0) (stL 49 [(9, .one (.s .own () 2 (v9.map GSpan.t)))]) :=
  Round.path [] [] (fun k => by kernel_rfl) trivial
noncomputable def i_spansOf_l0 (v2 : Int) (v3 : Int) (v4_0 : List Int) (v4_1 : List Int) (v4_2 : List Int) (v4_3 : List Int) (v4_4 : List Int) : Nat → (List GSpan) → Int → Bool → Option i_spansOf_X0
  | 0, _, _, _ => none
  | n + 1, v9, v10, v11 => match v11 with
    | true => cond (decide ((v9.length : Int) < v3))
      (if Small.sm (GCron.mk v4_0 v4_1 v4_2 v4_3 v4_4) then if cronOk (GCron.mk v4_0 v4_1 v4_2 v4_3 v4_4) = true then if (400 : Int) = 400 then cond ((nextFire (GCron.mk v4_0 v4_1 v4_2 v4_3 v4_4) (inc v10) (400 : Int)).2)
        (cond (decide (((nextFire (GCron.mk v4_0 v4_1 v4_2 v4_3 v4_4) (inc v10) (400 : Int)).1) > v2))
          (some (.x0 v9))
          (if (v9.length + ([(GSpan.mk v10 ((nextFire (GCron.mk v4_0 v4_1 v4_2 v4_3 v4_4) (inc v10) (400 : Int)).1))]).length) * 16 ≤ 140737488355328 ∧ v9.length + ([(GSpan.mk v10 ((nextFire (GCron.mk v4_0 v4_1 v4_2 v4_3 v4_4) (inc v10) (400 : Int)).1))]).length ≤ 4611686018427387904 then i_spansOf_l0 v2 v3 v4_0 v4_1 v4_2 v4_3 v4_4 n (v9 ++ ([(GSpan.mk v10 ((nextFire (GCron.mk v4_0 v4_1 v4_2 v4_3 v4_4) (inc v10) (400 : Int)).1))])) ((nextFire (GCron.mk v4_0 v4_1 v4_2 v4_3 v4_4) (inc v10) (400 : Int)).1) true else none))
        (some (.x0 v9)) else none else none else none)
      (some (.x0 v9))
    | false => some (.x0 v9)
theorem i_spansOf_L0 (v2 : Int) (v3 : Int) (v4_0 : List Int) (v4_1 : List Int) (v4_2 : List Int) (v4_3 : List Int) (v4_4 : List Int) (n : Nat) : ∀ (v9 : List GSpan) (v10 : Int) (v11 : Bool), Ans (i_spansOf_l0 v2 v3 v4_0 v4_1 v4_2 v4_3 v4_4 n v9 v10 v11) (i_spansOf_Q0 v2 v3 v4_0 v4_1 v4_2 v4_3 v4_4 v9 v10 v11) := by
  induction n with
  | zero => intros; exact Ans.none
  | succ n ih =>
    intro v9 v10 v11
    unfold i_spansOf_l0
    cases v11 with
    | true =>
      refine Ans.ite (fun h0 => ?_) (fun h0 => ?_)
      · refine Ans.pre (fun h1 => ?_)
        refine Ans.pre (fun h2 => ?_)
        refine Ans.pre (fun h3 => ?_)
        refine Ans.ite (fun h4 => ?_) (fun h4 => ?_)
        · refine Ans.ite (fun h5 => ?_) (fun h5 => ?_)
          · exact Ans.some (Loops.stop (i_spansOf_R0_0 v2 v3 v4_0 v4_1 v4_2 v4_3 v4_4 v9 v10 h0 h1 h2 h3 h4 h5) (by intro h; cases h))
          · refine Ans.pre (fun h6 => ?_)
            exact (ih (v9 ++ ([(GSpan.mk v10 ((nextFire (GCron.mk v4_0 v4_1 v4_2 v4_3 v4_4) (inc v10) (400 : Int)).1))])) ((nextFire (GCron.mk v4_0 v4_1 v4_2 v4_3 v4_4) (inc v10) (400 : Int)).1) true).mono fun y hy => by cases y <;> exact Loops.next (i_spansOf_R0_1 v2 v3 v4_0 v4_1 v4_2 v4_3 v4_4 v9 v10 h0 h1 h2 h3 h4 h5 h6) hy
        · exact Ans.some (Loops.stop (i_spansOf_R0_2 v2 v3 v4_0 v4_1 v4_2 v4_3 v4_4 v9 v10 h0 h1 h2 h3 h4) (by intro h; cases h))
      · exact Ans.some (Loops.stop (i_spansOf_R0_3 v2 v3 v4_0 v4_1 v4_2 v4_3 v4_4 v9 v10 h0) (by intro h; cases h))
    | false =>
      exact Ans.some (Loops.stop (i_spansOf_R0_4 v2 v3 v4_0 v4_1 v4_2 v4_3 v4_4 v9 v10) (by intro h; cases h))
theorem i_spansOf_P0 (x0 : GCron) (x1 : Int) (x2 : Int) (x3 : Int) (w0_9 : List GSpan) (h0 : Small.sm x0) (h1 : cronOk x0 = true) (h2 : (400 : Int) = 400) (h3 : Loops E 97 (lpAt Try.f97 0) (stL 49 [(2, .one (tI x2)), (3, .one (tI x3)), (4, .box () [.s .far () 1 (x0.f0.map etI), .s .far () 1 (x0.f1.map etI), .s .far () 1 (x0.f2.map etI), .s .far () 1 (x0.f3.map etI), .s .far () 1 (x0.f4.map etI)]), (9, .one (.s .own () 2 (([] : List GSpan).map GSpan.t))), (10, .one (tI ((nextFire x0 x1 (400 : Int)).1))), (11, .one (tB ((nextFire x0 x1 (400 : Int)).2)))]) (.exit 0) (stL 49 [(9, .one (.s .own () 2 (w0_9.map GSpan.t)))])) : Does E 97 [.agg (GCron.t .far x0), .one (tI x1), .one (tI x2), .one (tI x3)] [(false, [.s .own () 2 (w0_9.map GSpan.t)])] :=
  Does.path (fn := Try.f97) [.ret [(false, [tI ((nextFire x0 x1 (400 : Int)).1)]), (false, [tB ((nextFire x0 x1 (400 : Int)).2)])], .lp (.exit 0) (stL 49 [(9, .one (.s .own () 2 (w0_9.map GSpan.t)))])] [fun k => E.C k 152 [.agg (GCron.t .far x0), .one (tI x1), .one (tI (400 : Int))] = some [(false, [tI ((nextFire x0 x1 (400 : Int)).1)]), (false, [tB ((nextFire x0 x1 (400 : Int)).2)])], fun k => LoopK E 97 (lpAt Try.f97 0) (stL 49 [(2, .one (tI x2)), (3, .one (tI x3)), (4, .box () [.s .far () 1 (x0.f0.map etI), .s .far () 1 (x0.f1.map etI), .s .far () 1 (x0.f2.map etI), .s .far () 1 (x0.f3.map etI), .s .far () 1 (x0.f4.map etI)]), (9, .one (.s .own () 2 (([] : List GSpan).map GSpan.t))), (10, .one (tI ((nextFire x0 x1 (400 : Int)).1))), (11, .one (tB ((nextFire x0 x1 (400 : Int)).2)))]) (.exit 0) (stL 49 [(9, .one (.s .own () 2 (w0_9.map GSpan.t)))]) k k] rfl rfl (fun k => by kernel_rfl) ⟨T_i_nextFire x0 x1 (400 : Int) h0 h1 h2, Loops.ev h3, trivial⟩
noncomputable def i_spansOf_F (x0 : GCron) (x1 : Int) (x2 : Int) (x3 : Int) : Option ((List GSpan)) :=
    if Small.sm x0 then if cronOk x0 = true then if (400 : Int) = 400 then (i_spansOf_l0 x2 x3 x0.f0 x0.f1 x0.f2 x0.f3 x0.f4 9223372036854775808 ([]) ((nextFire x0 x1 (400 : Int)).1) ((nextFire x0 x1 (400 : Int)).2)).bind fun y => match y with
      | .x0 w0_9 => (some (w0_9)) else none else none else none
theorem i_spansOf_D (x0 : GCron) (x1 : Int) (x2 : Int) (x3 : Int) : Ans (i_spansOf_F x0 x1 x2 x3) (fun r => Does E 97 [.agg (GCron.t .far x0), .one (tI x1), .one (tI x2), .one (tI x3)] [(false, [.s .own () 2 (r.map GSpan.t)])]) := by
  unfold i_spansOf_F
  refine Ans.pre (fun h0 => ?_)
  refine Ans.pre (fun h1 => ?_)
  refine Ans.pre (fun h2 => ?_)
  refine Ans.bind (fun y hy => ?_)
  replace hy := i_spansOf_L0 x2 x3 x0.f0 x0.f1 x0.f2 x0.f3 x0.f4 9223372036854775808 ([]) ((nextFire x0 x1 (400 : Int)).1) ((nextFire x0 x1 (400 : Int)).2) y hy
  cases y with
  | x0 w0_9 =>
    have h3 := hy
    exact Ans.some (i_spansOf_P0 x0 x1 x2 x3 w0_9 h0 h1 h2 h3)
inductive s_l11Spans_X0 where
  | ret (v10 : List GSpan)
  | x0 (v4 : List GSpan)
def s_l11Spans_Q0 (v2 : Int) (v3 : Int) (v4 : List GSpan) (v5_0 : List Int) (v5_1 : List Int) (v5_2 : List Int) (v5_3 : List Int) (v5_4 : List Int) (v11 : Int) (v12 : Bool) : s_l11Spans_X0 → Prop
  | .ret zv10 => Loops E 95 (lpAt Try.f95 0) (stL 55 [(2, .one (tI v2)), (3, .one (tI v3)), (4, .one (.s .own () 2 (v4.map GSpan.t))), (5, .box () [.s .far () 1 (v5_0.map etI), .s .far () 1 (v5_1.map etI), .s .far () 1 (v5_2.map etI), .s .far () 1 (v5_3.map etI), .s .far () 1 (v5_4.map etI)]), (11, .one (tI v11)), (12, .one (tB v12))]) .ret (stL 55 [(10, .one (.s .own () 2 (zv10.map GSpan.t)))])
  | .x0 zv4 => Loops E 95 (lpAt Try.f95 0) (stL 55 [(2, .one (tI v2)), (3, .one (tI v3)), (4, .one (.s .own () 2 (v4.map GSpan.t))), (5, .box () [.s .far () 1 (v5_0.map etI), .s .far () 1 (v5_1.map etI), .s .far () 1 (v5_2.map etI), .s .far () 1 (v5_3.map etI), .s .far () 1 (v5_4.map etI)]), (11, .one (tI v11)), (12, .one (tB v12))]) (.exit 0) (stL 55 [(4, .one (.s .own () 2 (zv4.map GSpan.t)))])
theorem s_l11Spans_R0_0 (v2 : Int) (v3 : Int) (v4 : List GSpan) (v5_0 : List Int) (v5_1 : List Int) (v5_2 : List Int) (v5_3 : List Int) (v5_4 : List Int) (v11 : Int) (h0 : (decide ((v4.length : Int) < v3)) = true) (h1 : (decide (v11 < (68374079 : Int))) = true) (h2 : Small.sm (GCron.mk v5_0 v5_1 v5_2 v5_3 v5_4)) (h3 : (400 : Int) = 400) (h4 : ((nextFireS (GCron.mk v5_0 v5_1 v5_2 v5_3 v5_4) (inc v11) (400 : Int)).2) = true) (h5 : (decide (((nextFireS (GCron.mk v5_0 v5_1 v5_2 v5_3 v5_4) (inc v11) (400 : Int)).1) > v2)) = true) : Round E 95 (lpAt Try.f95 0) (stL 55 [(2, .one (tI v2)), (3, .one (tI v3)), (4, .one (.s .own () 2 (v4.map GSpan.t))), (5, .box () [.s .far () 1 (v5_0.map etI), .s .far () 1 (v5_1.map etI), .s .far () 1 (v5_2.map etI), .s .far () 1 (v5_3.map etI), .s .far () 1 (v5_4.map etI)]), (11, .one (tI v11)), (12, .one (tB true))]) .ret (stL 55 [(10, .one (.s .own () 2 (v4.map GSpan.t)))]) :=
  Round.path [.val (.int .i64 (v4.length : Int)), .b true, .b true, .ret [(false, [tI ((nextFireS (GCron.mk v5_0 v5_1 v5_2 v5_3 v5_4) (inc v11) (400 : Int)).1)]), (false, [tB true])], .b true] [fun _ => ((v4.map GSpan.t).length : Int) = (v4.length : Int), fun _ => (decide ((v4.length : Int) < v3)) = true, fun _ => (decide (v11 < (68374079 : Int))) = true, fun k => E.C k 149 [.agg (GCron.t .far (GCron.mk v5_0 v5_1 v5_2 v5_3 v5_4)), .one (tI (inc v11)), .one (tI (400 : Int))] = some [(false, [tI ((nextFireS (GCron.mk v5_0 v5_1 v5_2 v5_3 v5_4) (inc v11) (400 : Int)).1)]), (false, [tB true])], fun _ => (decide (((nextFireS (GCron.mk v5_0 v5_1 v5_2 v5_3 v5_4) (inc v11) (400 : Int)).1) > v2)) = true] (fun k => by kernel_rfl) ⟨Ev.c lenMap, Ev.c h0, Ev.c h1, Does.to (T_s_NextFire (GCron.mk v5_0 v5_1 v5_2 v5_3 v5_4) (inc v11) (400 : Int) h2 h3) (by rw [h4]), Ev.c h5, trivial⟩
theorem s_l11Spans_R0_1 (v2 : Int) (v3 : Int) (v4 : List GSpan) (v5_0 : List Int) (v5_1 : List Int) (v5_2 : List Int) (v5_3 : List Int) (v5_4 : List Int) (v11 : Int) (h0 : (decide ((v4.length : Int) < v3)) = true) (h1 : (decide (v11 < (68374079 : Int))) = true) (h2 : Small.sm (GCron.mk v5_0 v5_1 v5_2 v5_3 v5_4)) (h3 : (400 : Int) = 400) (h4 : ((nextFireS (GCron.mk v5_0 v5_1 v5_2 v5_3 v5_4) (inc v11) (400 : Int)).2) = true) (h5 : (decide (((nextFireS (GCron.mk v5_0 v5_1 v5_2 v5_3 v5_4) (inc v11) (400 : Int)).1) > v2)) = false) (h6 : (v4.length + ([(GSpan.mk v11 ((nextFireS (GCron.mk v5_0 v5_1 v5_2 v5_3 v5_4) (inc v11) (400 : Int)).1))]).length) * 16 ≤ 140737488355328 ∧ v4.length + ([(GSpan.mk v11 ((nextFireS (GCron.mk v5_0 v5_1 v5_2 v5_3 v5_4) (inc v11) (400 : Int)).1))]).length ≤ 4611686018427387904) : Round E 95 (lpAt Try.f95 0) (stL 55 [(2, .one (tI v2)), (3, .one (tI v3)), (4, .one (.s .own () 2 (v4.map GSpan.t))), (5, .box () [.s .far () 1 (v5_0.map etI), .s .far () 1 (v5_1.map etI), .s .far () 1 (v5_2.map etI), .s .far () 1 (v5_3.map etI), .s .far () 1 (v5_4.map etI)]), (11, .one (tI v11)), (12, .one (tB true))]) .normal (stL 55 [(2, .one (tI v2)), (3, .one (tI v3)), (4, .one (.s .own () 2 ((v4 ++ ([(GSpan.mk v11 ((nextFireS (GCron.mk v5_0 v5_1 v5_2 v5_3 v5_4) (inc v11) (400 : Int)).1))])).map GSpan.t))), (5, .box () [.s .far () 1 (v5_0.map etI), .s .far () 1 (v5_1.map etI), .s .far () 1 (v5_2.map etI), .s .far () 1 (v5_3.map etI), .s .far () 1 (v5_4.map etI)]), (11, .one (tI ((nextFireS (GCron.mk v5_0 v5_1 v5_2 v5_3 v5_4) (inc v11) (400 : Int)).1))), (12, .one (tB true))]) :=
  Round.path [.val (.int .i64 (v4.length : Int)), .b true, .b true, .ret [(false, [tI ((nextFireS (GCron.mk v5_0 v5_1 v5_2 v5_3 v5_4) (inc v11) (400 : Int)).1)]), (false, [tB true])], .b false, .rows ((v4 ++ ([(GSpan.mk v11 ((nextFireS (GCron.mk v5_0 v5_1 v5_2 v5_3 v5_4) (inc v11) (400 : Int)).1))])).map GSpan.t)] [fun _ => ((v4.map GSpan.t).length : Int) = (v4.length : Int), fun _ => (decide ((v4.length : Int) < v3)) = true, fun _ => (decide (v11 < (68374079 : Int))) = true, fun k => E.C k 149 [.agg (GCron.t .far (GCron.mk v5_0 v5_1 v5_2 v5_3 v5_4)), .one (tI (inc v11)), .one (tI (400 : Int))] = some [(false, [tI ((nextFireS (GCron.mk v5_0 v5_1 v5_2 v5_3 v5_4) (inc v11) (400 : Int)).1)]), (false, [tB true])], fun _ => (decide (((nextFireS (GCron.mk v5_0 v5_1 v5_2 v5_3 v5_4) (inc v11) (400 : Int)).1) > v2)) = false, fun _ => (((([(GSpan.mk v11 ((nextFireS (GCron.mk v5_0 v5_1 v5_2 v5_3 v5_4) (inc v11) (400 : Int)).1))]).map GSpan.t).drop 0).take (([(GSpan.mk v11 ((nextFireS (GCron.mk v5_0 v5_1 v5_2 v5_3 v5_4) (inc v11) (400 : Int)).1))]).map GSpan.t).length).all (fun r => r.all T.flat) = true ∧ ((v4.map GSpan.t).length + (((([(GSpan.mk v11 ((nextFireS (GCron.mk v5_0 v5_1 v5_2 v5_3 v5_4) (inc v11) (400 : Int)).1))]).map GSpan.t).drop 0).take (([(GSpan.mk v11 ((nextFireS (GCron.mk v5_0 v5_1 v5_2 v5_3 v5_4) (inc v11) (400 : Int)).1))]).map GSpan.t).length).length) * 16 ≤ 140737488355328 ∧ (v4.map GSpan.t).length + (((([(GSpan.mk v11 ((nextFireS (GCron.mk v5_0 v5_1 v5_2 v5_3 v5_4) (inc v11) (400 : Int)).1))]).map GSpan.t).drop 0).take (([(GSpan.mk v11 ((nextFireS (GCron.mk v5_0 v5_1 v5_2 v5_3 v5_4) (inc v11) (400 : Int)).1))]).map GSpan.t).length).length ≤ 4611686018427387904, fun _ => (v4.map GSpan.t) ++ (((([(GSpan.mk v11 ((nextFireS (GCron.mk v5_0 v5_1 v5_2 v5_3 v5_4) (inc v11) (400 : Int)).1))]).map GSpan.t).drop 0).take (([(GSpan.mk v11 ((nextFireS (GCron.mk v5_0 v5_1 v5_2 v5_3 v5_4) (inc v11) (400 : Int)).1))]).map GSpan.t).length) = (v4 ++ ([(GSpan.mk v11 ((nextFireS (GCron.mk v5_0 v5_1 v5_2 v5_3 v5_4) (inc v11) (400 : Int)).1))])).map GSpan.t] (fun k => by kernel_rfl) ⟨Ev.c lenMap, Ev.c h0, Ev.c h1, Does.to (T_s_NextFire (GCron.mk v5_0 v5_1 v5_2 v5_3 v5_4) (inc v11) (400 : Int) h2 h3) (by rw [h4]), Ev.c h5, Ev.c (by simp only [List.take_length, List.drop_zero]; exact appOk (fun x => rfl) h6), Ev.c (by simp only [List.take_length, List.drop_zero]; exact appMap), trivial⟩
theorem s_l11Spans_R0_2 (v2 : Int) (v3 : Int) (v4 : List GSpan) (v5_0 : List Int) (v5_1 : List Int) (v5_2 : List Int) (v5_3 : List Int) (v5_4 : List Int) (v11 : Int) (h0 : (decide ((v4.length : Int) < v3)) = true) (h1 : (decide (v11 < (68374079 : Int))) = true) (h2 : Small.sm (GCron.mk v5_0 v5_1 v5_2 v5_3 v5_4)) (h3 : (400 : Int) = 400) (h4 : ((nextFireS (GCron.mk v5_0 v5_1 v5_2 v5_3 v5_4) (inc v11) (400 : Int)).2) = false) : Round E 95 (lpAt Try.f95 0) (stL 55 [(2, .one (tI v2)), (3, .one (tI v3)), (4, .one (.s .own () 2 (v4.map GSpan.t))), (5, .box () [.s .far () 1 (v5_0.map etI), .s .far () 1 (v5_1.map etI), .s .far () 1 (v5_2.map etI), .s .far () 1 (v5_3.map etI), .s .far () 1 (v5_4.map etI)]), (11, .one (tI v11)), (12, .one (tB true))]) .ret (stL 55 [(10, .one (.s .own () 2 (v4.map GSpan.t)))]) :=
  Round.path [.val (.int .i64 (v4.length : Int)), .b true, .b true, .ret [(false, [tI ((nextFireS (GCron.mk v5_0 v5_1 v5_2 v5_3 v5_4) (inc v11) (400 : Int)).1)]), (false, [tB false])]] [fun _ => ((v4.map GSpan.t).length : Int) = (v4.length : Int), fun _ => (decide ((v4.length : Int) < v3)) = true, fun _ => (decide (v11 < (68374079 : Int))) = true, fun k => E.C k 149 [.agg (GCron.t .far (GCron.mk v5_0 v5_1 v5_2 v5_3 v5_4)), .one (tI (inc v11)), .one (tI (400 : Int))] = some [(false, [tI ((nextFireS (GCron.mk v5_0 v5_1 v5_2 v5_3 v5_4) (inc v11) (400 : Int)).1)]), (false, [tB false])]] (fun k => by kernel_rfl) ⟨Ev.c lenMap, Ev.c h0, Ev.c h1, Does.to (T_s_NextFire (GCron.mk v5_0 v5_1 v5_2 v5_3 v5_4) (inc v11) (400 : Int) h2 h3) (by rw [h4]), trivial⟩
theorem s_l11Spans_R0_3 (v2 : Int) (v3 : Int) (v4 : List GSpan) (v5_0 : List Int) (v5_1 : List Int) (v5_2 : List Int) (v5_3 : List Int) (v5_4 : List Int) (v11 : Int) (h0 : (decide ((v4.length : Int) < v3)) = true) (h1 : (decide (v11 < (68374079 : Int))) = false) : Round E 95 (lpAt Try.f95 0) (stL 55 [(2, .one (tI v2)), (3, .one (tI v3)), (4, .one (.s .own () 2 (v4.map GSpan.t))), (5, .box () [.s .far () 1 (v5_0.map etI), .s .far () 1 (v5_1.map etI), .s .far () 1 (v5_2.map etI), .s .far () 1 (v5_3.map etI), .s .far () 1 (v5_4.map etI)]), (11, .one (tI v11)), (12, .one (tB true))]) (.exit 0) (stL 55 [(4, .one (.s .own () 2 (v4.map GSpan.t)))]) :=
  Round.path [.val (.int .i64 (v4.length : Int)), .b true, .b false] [fun _ => ((v4.map GSpan.t).length : Int) = (v4.length : Int), fun _ => (decide ((v4.length : Int) < v3)) = true, fun _ => (decide (v11 < (68374079 : Int))) = false] (fun k => by kernel_rfl) ⟨Ev.c lenMap, Ev.c h0, Ev.c h1, trivial⟩
theorem s_l11Spans_R0_4 (v2 : Int) (v3 : Int) (v4 : List GSpan) (v5_0 : List Int) (v5_1 : List Int) (v5_2 : List Int) (v5_3 : List Int) (v5_4 : List Int) (v11 : Int) (h0 : (decide ((v4.length : Int) < v3)) = false) : Round E 95 (lpAt Try.f95 0) (stL 55 [(2, .one (tI v2)), (3, .one (tI v3)), (4, .one (.s .own () 2 (v4.map GSpan.t))), (5, .box () [.s .far () 1 (v5_0.map etI), .s .far () 1 (v5_1.map etI), .s .far () 1 (v5_2.map etI), .s .far () 1 (v5_3.map etI), .s .far () 1 (v5_4.map etI)]), (11, .one (tI v11)), (12, .one (tB true))]) (.exit 0) (stL 55 [(4, .one (.s .own () 2 (v4.map GSpan.t)))]) :=
  Round.path [.val (.int .i64 (v4.length : Int)), .b false] [fun _ => ((v4.map GSpan.t).length : Int) = (v4.length : Int), fun _ => (decide ((v4.length : Int) < v3)) = false] (fun k => by kernel_rfl) ⟨Ev.c lenMap, Ev.c h0, trivial⟩
theorem s_l11Spans_R0_5 (v2 : Int) (v3 : Int) (v4 : List GSpan) (v5_0 : List Int) (v5_1 : List Int) (v5_2 : List Int) (v5_3 : List Int) (v5_4 : List Int) (v11 : Int)  : Round E 95 (lpAt Try.f95 0) (stL 55 [(2, .one (tI v2)), (3, .one (tI v3)), (4, .one (.s .own () 2 (v4.map GSpan.t))), (5, .box () [.s .far () 1 (v5_0.map etI), .s .far () 1 (v5_1.map etI), .s .far () 1 (v5_2.map etI), .s .far () 1 (v5_3.map etI), .s .far () 1 (v5_4.map etI)]), (11, .one (tI v11)), (12, .one (tB false))]) (.exit 0) (stL 55 [(4, .one (.s .own () 2 (v4.map GSpan.t)))]) :=
  Round.path [] [] (fun k => by kernel_rfl) trivial
noncomputable def s_l11Spans_l0 (v2 : Int) (v3 : Int) (v5_0 : List Int) (v5_1 : List Int) (v5_2 : List Int) (v5_3 : List Int) (v5_4 : List Int) : Nat → (List GSpan) → Int → Bool → Option s_l11Spans_X0
  | 0, _, _, _ => none
  | n + 1, v4, v11, v12 => match v12 with
    | true => cond (decide ((v4.length : Int) < v3))
      (cond (decide (v11 < (68374079 : Int)))
        (if Small.sm (GCron.mk v5_0 v5_1 v5_2 v5_3 v5_4) then if (400 : Int) = 400 then cond ((nextFireS (GCron.mk v5_0 v5_1 v5_2 v5_3 v5_4) (inc v11) (400 : Int)).2)
          (cond (decide (((nextFireS (GCron.mk v5_0 v5_1 v5_2 v5_3 v5_4) (inc v11) (400 : Int)).1) > v2))
            (some (.ret v4))
            (if (v4.length + ([(GSpan.mk v11 ((nextFireS (GCron.mk v5_0 v5_1 v5_2 v5_3 v5_4) (inc v11) (400 : Int)).1))]).length) * 16 ≤ 140737488355328 ∧ v4.length + ([(GSpan.mk v11 ((nextFireS (GCron.mk v5_0 v5_1 v5_2 v5_3 v5_4) (inc v11) (400 : Int)).1))]).length ≤ 4611686018427387904 then s_l11Spans_l0 v2 v3 v5_0 v5_1 v5_2 v5_3 v5_4 n (v4 ++ ([(GSpan.mk v11 ((nextFireS (GCron.mk v5_0 v5_1 v5_2 v5_3 v5_4) (inc v11) (400 : Int)).1))])) ((nextFireS (GCron.mk v5_0 v5_1 v5_2 v5_3 v5_4) (inc v11) (400 : Int)).1) true else none))
          (some (.ret v4)) else none else none)
        (some (.x0 v4)))
      (some (.x0 v4))
    | false => some (.x0 v4)
theorem s_l11Spans_L0 (v2 : Int) (v3 : Int) (v5_0 : List Int) (v5_1 : List Int) (v5_2 : List Int) (v5_3 : List Int) (v5_4 : List Int) (n : Nat) : ∀ (v4 : List GSpan) (v11 : Int) (v12 : Bool), Ans (s_l11Spans_l0 v2 v3 v5_0 v5_1 v5_2 v5_3 v5_4 n v4 v11 v12) (s_l11Spans_Q0 v2 v3 v4 v5_0 v5_1 v5_2 v5_3 v5_4 v11 v12) := by
  induction n with
  | zero => intros; exact Ans.none
  | succ n ih =>
    intro v4 v11 v12
    unfold s_l11Spans_l0
    cases v12 with
    | true =>
      refine Ans.ite (fun h0 => ?_) (fun h0 => ?_)
      · refine Ans.ite (fun h1 => ?_) (fun h1 => ?_)
        · refine Ans.pre (fun h2 => ?_)
          refine Ans.pre (fun h3 => ?_)
          refine Ans.ite (fun h4 => ?_) (fun h4 => ?_)
          · refine Ans.ite (fun h5 => ?_) (fun h5 => ?_)
            · exact Ans.some (Loops.stop (s_l11Spans_R0_0 v2 v3 v4 v5_0 v5_1 v5_2 v5_3 v5_4 v11 h0 h1 h2 h3 h4 h5) (by intro h; cases h))
            · refine Ans.pre (fun h6 => ?_)
              exact (ih (v4 ++ ([(GSpan.mk v11 ((nextFireS (GCron.mk v5_0 v5_1 v5_2 v5_3 v5_4) (inc v11) (400 : Int)).1))])) ((nextFireS (GCron.mk v5_0 v5_1 v5_2 v5_3 v5_4) (inc v11) (400 : Int)).1) true).mono fun y hy => by cases y <;> exact Loops.next (s_l11Spans_R0_1 v2 v3 v4 v5_0 v5_1 v5_2 v5_3 v5_4 v11 h0 h1 h2 h3 h4 h5 h6) hy
          · exact Ans.some (Loops.stop (s_l11Spans_R0_2 v2 v3 v4 v5_0 v5_1 v5_2 v5_3 v5_4 v11 h0 h1 h2 h3 h4) (by intro h; cases h))
        · exact Ans.some (Loops.stop (s_l11Spans_R0_3 v2 v3 v4 v5_0 v5_1 v5_2 v5_3 v5_4 v11 h0 h1) (by intro h; cases h))
      · exact Ans.some (Loops.stop (s_l11Spans_R0_4 v2 v3 v4 v5_0 v5_1 v5_2 v5_3 v5_4 v11 h0) (by intro h; cases h))
    | false =>
      exact Ans.some (Loops.stop (s_l11Spans_R0_5 v2 v3 v4 v5_0 v5_1 v5_2 v5_3 v5_4 v11) (by intro h; cases h))
theorem s_l11Spans_P0 (x0 : GCron) (x1 : Int) (x2 : Int) (x3 : Int) (x4 : List GSpan) (w0_10 : List GSpan) (h0 : Small.sm x0) (h1 : (400 : Int) = 400) (h2 : Loops E 95 (lpAt Try.f95 0) (stL 55 [(2, .one (tI x2)), (3, .one (tI x3)), (4, .one (.s .own () 2 (x4.map GSpan.t))), (5, .box () [.s .far () 1 (x0.f0.map etI), .s .far () 1 (x0.f1.map etI), .s .far () 1 (x0.f2.map etI), .s .far () 1 (x0.f3.map etI), .s .far () 1 (x0.f4.map etI)]), (11, .one (tI ((nextFireS x0 x1 (400 : Int)).1))), (12, .one (tB ((nextFireS x0 x1 (400 : Int)).2)))]) .ret (stL 55 [(10, .one (.s .own () 2 (w0_10.map GSpan.t)))])) : Does E 95 [.agg (GCron.t .far x0), .one (tI x1), .one (tI x2), .one (tI x3), .one (.s .own () 2 (x4.map GSpan.t))] [(false, [.any]), (false, [.s .own () 2 (w0_10.map GSpan.t)])] :=
  Does.path (fn := Try.f95) [.ret [(false, [tI ((nextFireS x0 x1 (400 : Int)).1)]), (false, [tB ((nextFireS x0 x1 (400 : Int)).2)])], .lp .ret (stL 55 [(10, .one (.s .own () 2 (w0_10.map GSpan.t)))])] [fun k => E.C k 149 [.agg (GCron.t .far x0), .one (tI x1), .one (tI (400 : Int))] = some [(false, [tI ((nextFireS x0 x1 (400 : Int)).1)]), (false, [tB ((nextFireS x0 x1 (400 : Int)).2)])], fun k => LoopK E 95 (lpAt Try.f95 0) (stL 55 [(2, .one (tI x2)), (3, .one (tI x3)), (4, .one (.s .own () 2 (x4.map GSpan.t))), (5, .box () [.s .far () 1 (x0.f0.map etI), .s .far () 1 (x0.f1.map etI), .s .far () 1 (x0.f2.map etI), .s .far () 1 (x0.f3.map etI), .s .far () 1 (x0.f4.map etI)]), (11, .one (tI ((nextFireS x0 x1 (400 : Int)).1))), (12, .one (tB ((nextFireS x0 x1 (400 : Int)).2)))]) .ret (stL 55 [(10, .one (.s .own () 2 (w0_10.map GSpan.t)))]) k k] rfl rfl (fun k => by kernel_rfl) ⟨T_s_NextFire x0 x1 (400 : Int) h0 h1, Loops.ev h2, trivial⟩
theorem s_l11Spans_P1 (x0 : GCron) (x1 : Int) (x2 : Int) (x3 : Int) (x4 : List GSpan) (w0_4 : List GSpan) (h0 : Small.sm x0) (h1 : (400 : Int) = 400) (h2 : Loops E 95 (lpAt Try.f95 0) (stL 55 [(2, .one (tI x2)), (3, .one (tI x3)), (4, .one (.s .own () 2 (x4.map GSpan.t))), (5, .box () [.s .far () 1 (x0.f0.map etI), .s .far () 1 (x0.f1.map etI), .s .far () 1 (x0.f2.map etI), .s .far () 1 (x0.f3.map etI), .s .far () 1 (x0.f4.map etI)]), (11, .one (tI ((nextFireS x0 x1 (400 : Int)).1))), (12, .one (tB ((nextFireS x0 x1 (400 : Int)).2)))]) (.exit 0) (stL 55 [(4, .one (.s .own () 2 (w0_4.map GSpan.t)))])) : Does E 95 [.agg (GCron.t .far x0), .one (tI x1), .one (tI x2), .one (tI x3), .one (.s .own () 2 (x4.map GSpan.t))] [(false, [.any]), (false, [.s .own () 2 (w0_4.map GSpan.t)])] :=
  Does.path (fn := Try.f95) [.ret [(false, [tI ((nextFireS x0 x1 (400 : Int)).1)]), (false, [tB ((nextFireS x0 x1 (400 : Int)).2)])], .lp (.exit 0) (stL 55 [(4, .one (.s .own () 2 (w0_4.map GSpan.t)))])] [fun k => E.C k 149 [.agg (GCron.t .far x0), .one (tI x1), .one (tI (400 : Int))] = some [(false, [tI ((nextFireS x0 x1 (400 : Int)).1)]), (false, [tB ((nextFireS x0 x1 (400 : Int)).2)])], fun k => LoopK E 95 (lpAt Try.f95 0) (stL 55 [(2, .one (tI x2)), (3, .one (tI x3)), (4, .one (.s .own () 2 (x4.map GSpan.t))), (5, .box () [.s .far () 1 (x0.f0.map etI), .s .far () 1 (x0.f1.map etI), .s .far () 1 (x0.f2.map etI), .s .far () 1 (x0.f3.map etI), .s .far () 1 (x0.f4.map etI)]), (11, .one (tI ((nextFireS x0 x1 (400 : Int)).1))), (12, .one (tB ((nextFireS x0 x1 (400 : Int)).2)))]) (.exit 0) (stL 55 [(4, .one (.s .own () 2 (w0_4.map GSpan.t)))]) k k] rfl rfl (fun k => by kernel_rfl) ⟨T_s_NextFire x0 x1 (400 : Int) h0 h1, Loops.ev h2, trivial⟩
noncomputable def s_l11Spans_F (x0 : GCron) (x1 : Int) (x2 : Int) (x3 : Int) (x4 : List GSpan) : Option ((List GSpan)) :=
    if Small.sm x0 then if (400 : Int) = 400 then (s_l11Spans_l0 x2 x3 x0.f0 x0.f1 x0.f2 x0.f3 x0.f4 9223372036854775808 x4 ((nextFireS x0 x1 (400 : Int)).1) ((nextFireS x0 x1 (400 : Int)).2)).bind fun y => match y with
      | .ret w0_10 => (some (w0_10))
      | .x0 w0_4 => (some (w0_4)) else none else none
theorem s_l11Spans_D (x0 : GCron) (x1 : Int) (x2 : Int) (x3 : Int) (x4 : List GSpan) : Ans (s_l11Spans_F x0 x1 x2 x3 x4) (fun r => Does E 95 [.agg (GCron.t .far x0), .one (tI x1), .one (tI x2), .one (tI x3), .one (.s .own () 2 (x4.map GSpan.t))] [(false, [.any]), (false, [.s .own () 2 (r.map GSpan.t)])]) := by
  unfold s_l11Spans_F
  refine Ans.pre (fun h0 => ?_)
  refine Ans.pre (fun h1 => ?_)
  refine Ans.bind (fun y hy => ?_)
  replace hy := s_l11Spans_L0 x2 x3 x0.f0 x0.f1 x0.f2 x0.f3 x0.f4 9223372036854775808 x4 ((nextFireS x0 x1 (400 : Int)).1) ((nextFireS x0 x1 (400 : Int)).2) y hy
  cases y with
  | ret w0_10 =>
    have h2 := hy
    exact Ans.some (s_l11Spans_P0 x0 x1 x2 x3 x4 w0_10 h0 h1 h2)
  | x0 w0_4 =>
    have h2 := hy
    exact Ans.some (s_l11Spans_P1 x0 x1 x2 x3 x4 w0_4 h0 h1 h2)
noncomputable def spansL (c : GCron) (upto most : Int) : Nat → List GSpan → Int → Bool → List GSpan
  | 0, out, _, _ => out
  | n + 1, out, at_, ok =>
    if ok = true ∧ (out.length : Int) < most then
      if (nextFire c (inc at_) 400).2 = true ∧ ¬ (nextFire c (inc at_) 400).1 > upto then spansL c upto most n (out ++ [⟨at_, (nextFire c (inc at_) 400).1⟩]) (nextFire c (inc at_) 400).1 true else out
    else out
noncomputable def spansOf (c : GCron) (from_ upto most : Int) : List GSpan := spansL c upto most 201 [] (nextFire c from_ 400).1 (nextFire c from_ 400).2
noncomputable def l11Spans (c : GCron) (from_ upto most : Int) (out : List GSpan) : List GSpan := if cronOk c = true then spansOf c from_ upto most else []
theorem firstM_spec {d f h m : Int} : ∀ {mins : List Int}, firstM d f h mins = some m → ∃ x ∈ mins, m = d * 1440 + h * 60 + x ∧ f ≤ m
  | mins, e => by
    unfold firstM at e
    have h1 := List.mem_of_find?_eq_some e
    have h2 := List.find?_some e
    obtain ⟨x, hx, rfl⟩ := List.mem_map.1 h1
    exact ⟨x, hx, rfl, of_decide_eq_true h2⟩
theorem firstH_spec {d f m : Int} {hours mins : List Int} (e : firstH d f hours mins = some m) : ∃ h ∈ hours, ∃ x ∈ mins, m = d * 1440 + h * 60 + x ∧ f ≤ m := by
  unfold firstH at e
  obtain ⟨h, h1, h2⟩ := List.exists_of_findSome?_eq_some e
  obtain ⟨x, h3, h4⟩ := firstM_spec h2
  exact ⟨h, h1, x, h3, h4⟩
theorem fireD_spec {c : GCron} {f m : Int} : ∀ (n : Nat) (d : Int), fireD c f n d = some m → ∃ d', d ≤ d' ∧ d' * 1440 ≤ 68374079 ∧ dayOk c (d' * 1440) = true ∧ ∃ h ∈ c.f1, ∃ x ∈ c.f0, m = d' * 1440 + h * 60 + x ∧ f ≤ m
  | 0, d, e => by cases e
  | n + 1, d, e => by
    unfold fireD at e
    split at e
    case isFalse => cases e
    rename_i hd
    split at e
    · rename_i hk
      split at e
      · rename_i m' hm
        cases e
        obtain ⟨h, h1, x, h2, h3, h4⟩ := firstH_spec hm
        exact ⟨d, Int.le_refl _, hd, hk, h, h1, x, h2, h3, by omega⟩
      · obtain ⟨d', h1, h2⟩ := fireD_spec n (d + 1) e
        exact ⟨d', by omega, h2⟩
    · obtain ⟨d', h1, h2⟩ := fireD_spec n (d + 1) e
      exact ⟨d', by omega, h2⟩
theorem nextFire_spec {c : GCron} (hc : cronOk c = true) {f : Int} (e : (nextFire c f 400).2 = true) : f ≤ (nextFire c f 400).1 ∧ (nextFire c f 400).1 ≤ 68374079 ∧ 0 ≤ f := by
  unfold nextFire at e ⊢
  split at e
  · rename_i hm
    rw [if_pos hm]
    split at e
    · rename_i m hk
      obtain ⟨d', h1, h2, h3, h, h4, x, h5, h6, h7⟩ := fireD_spec _ _ hk
      obtain ⟨q1, q2⟩ := cron_hours hc
      have q3 := q1 x h5
      have q4 := q2 h h4
      have q5 := (inRange_iff.1 hm).1
      exact ⟨h7, by simp only; omega, q5⟩
    · cases e
  · cases e
theorem next_big {c : GCron} {a : Int} (h : ¬ a < 68374079) (h2 : a ≤ 68374079) : (nextFire c (inc a) 400).2 = false := by
  have : a = 68374079 := by omega
  subst this
  rfl
theorem spans_i (c : GCron) (upto most : Int) (h : Small.sm c) (hc : cronOk c = true) (hm : most ≤ 200) : ∀ (m n : Nat) (out : List GSpan) (a : Int) (ok : Bool), 201 ≤ m + out.length → m < n →
    i_spansOf_l0 upto most c.f0 c.f1 c.f2 c.f3 c.f4 n out a ok = some (.x0 (spansL c upto most m out a ok))
  | m, 0, out, a, ok, _, hn => by omega
  | 0, n + 1, out, a, ok, ho, _ => by
    unfold i_spansOf_l0 spansL
    cases ok with
    | false => rfl
    | true => simp only; rw [decide_eq_false (by omega)]; rfl
  | m + 1, n + 1, out, a, ok, ho, hn => by
    have sm : Small.sm (GCron.mk c.f0 c.f1 c.f2 c.f3 c.f4) := h
    have hc' : cronOk (GCron.mk c.f0 c.f1 c.f2 c.f3 c.f4) = true := hc
    have ih := fun out a => spans_i c upto most h hc hm m n out a true
    have ec : GCron.mk c.f0 c.f1 c.f2 c.f3 c.f4 = c := rfl
    unfold i_spansOf_l0 spansL
    cases ok with
    | false => simp
    | true =>
      simp only [if_pos sm, if_pos hc', true_and, if_true]
      rw [ec]
      by_cases q : (out.length : Int) < most
      · rw [decide_eq_true q, if_pos q, cond_true]
        cases (nextFire c (inc a) 400).2 with
        | false => simp
        | true =>
          by_cases r : (nextFire c (inc a) 400).1 > upto
          · rw [decide_eq_true r]; simp [r]
          · have hl : (out.length + ([(GSpan.mk a (nextFire c (inc a) 400).1)]).length) * 16 ≤ 140737488355328 ∧ out.length + ([(GSpan.mk a (nextFire c (inc a) 400).1)]).length ≤ 4611686018427387904 := by simp; omega
            rw [decide_eq_false r, cond_true, cond_false, if_pos hl, if_pos (⟨rfl, r⟩ : true = true ∧ ¬ (nextFire c (inc a) 400).1 > upto)]
            exact ih _ _ (by simp; omega) (by omega)
      · rw [decide_eq_false q, if_neg q]; rfl
theorem spans_s (c : GCron) (upto most : Int) (h : Small.sm c) (hc : cronOk c = true) (hm : most ≤ 200) : ∀ (m n : Nat) (out : List GSpan) (a : Int) (ok : Bool), 201 ≤ m + out.length → m < n → (ok = true → a ≤ 68374079) →
    ∃ r, s_l11Spans_l0 upto most c.f0 c.f1 c.f2 c.f3 c.f4 n out a ok = some r ∧ (r = .ret (spansL c upto most m out a ok) ∨ r = .x0 (spansL c upto most m out a ok))
  | m, 0, out, a, ok, _, hn, _ => by omega
  | 0, n + 1, out, a, ok, ho, _, _ => by
    unfold s_l11Spans_l0 spansL
    cases ok with
    | false => exact ⟨_, rfl, .inr rfl⟩
    | true => simp only; rw [decide_eq_false (by omega)]; exact ⟨_, rfl, .inr rfl⟩
  | m + 1, n + 1, out, a, ok, ho, hn, ha => by
    have sm : Small.sm (GCron.mk c.f0 c.f1 c.f2 c.f3 c.f4) := h
    have ih := fun out a => spans_s c upto most h hc hm m n out a true
    have hS : nextFireS c (inc a) 400 = nextFire c (inc a) 400 := by unfold nextFireS; rw [if_pos hc]
    have ec : GCron.mk c.f0 c.f1 c.f2 c.f3 c.f4 = c := rfl
    unfold s_l11Spans_l0 spansL
    cases ok with
    | false => exact ⟨_, rfl, .inr (by simp)⟩
    | true =>
      simp only [if_pos sm, true_and, if_true]
      rw [ec, hS]
      by_cases q : (out.length : Int) < most
      · rw [decide_eq_true q, if_pos q, cond_true]
        by_cases z : a < 68374079
        · rw [decide_eq_true z, cond_true]
          cases hk : (nextFire c (inc a) 400).2 with
          | false => exact ⟨_, rfl, .inl (by simp)⟩
          | true =>
            by_cases r : (nextFire c (inc a) 400).1 > upto
            · rw [decide_eq_true r]; exact ⟨_, rfl, .inl (by simp [r])⟩
            · have hl : (out.length + ([(GSpan.mk a (nextFire c (inc a) 400).1)]).length) * 16 ≤ 140737488355328 ∧ out.length + ([(GSpan.mk a (nextFire c (inc a) 400).1)]).length ≤ 4611686018427387904 := by simp; omega
              rw [decide_eq_false r, cond_true, cond_false, if_pos hl, if_pos (⟨rfl, r⟩ : true = true ∧ ¬ (nextFire c (inc a) 400).1 > upto)]
              exact ih _ _ (by simp; omega) (by omega) fun _ => (nextFire_spec hc hk).2.1
        · rw [decide_eq_false z, cond_false, next_big z (ha rfl)]
          exact ⟨_, rfl, .inr (by simp)⟩
      · rw [decide_eq_false q, if_neg q]; exact ⟨_, rfl, .inr rfl⟩
theorem l11_ok (c : GCron) (from_ upto most : Int) (h : Small.sm c) (hm : most ≤ 200) : s_l11Spans_F c from_ upto most [] = some (l11Spans c from_ upto most []) := by
  unfold s_l11Spans_F
  simp only [if_pos h, if_true]
  have key : ∃ r, s_l11Spans_l0 upto most c.f0 c.f1 c.f2 c.f3 c.f4 9223372036854775808 [] (nextFireS c from_ 400).1 (nextFireS c from_ 400).2 = some r ∧ (r = .ret (l11Spans c from_ upto most []) ∨ r = .x0 (l11Spans c from_ upto most [])) := by
    unfold l11Spans nextFireS
    cases hc : cronOk c with
    | false =>
      simp only [Bool.false_eq_true, if_false]
      unfold s_l11Spans_l0
      exact ⟨_, rfl, .inr rfl⟩
    | true =>
      simp only [if_true]
      exact spans_s c upto most h hc hm 201 9223372036854775808 [] (nextFire c from_ 400).1 (nextFire c from_ 400).2 (by simp) (by omega) fun hk => (nextFire_spec hc hk).2.1
  obtain ⟨r, h1, h2⟩ := key
  rw [h1, Option.bind_some]
  rcases h2 with rfl | rfl <;> rfl
theorem spans_len (c : GCron) (upto most : Int) (hm : most ≤ 200) : ∀ (n : Nat) (out : List GSpan) (a : Int) (ok : Bool), (out.length : Int) ≤ 200 → ((spansL c upto most n out a ok).length : Int) ≤ 200
  | 0, out, a, ok, h => h
  | n + 1, out, a, ok, h => by
    unfold spansL
    split
    · split
      · exact spans_len c upto most hm n _ _ _ (by simp; omega)
      · exact h
    · exact h
theorem T_i_spansOf (x0 : GCron) (x1 : Int) (x2 : Int) (x3 : Int) (h : Small.sm x0) (hc : cronOk x0 = true) (hm : x3 ≤ 200) : Does E 97 [.agg (GCron.t .far x0), .one (tI x1), .one (tI x2), .one (tI x3)] [(false, [.s .own () 2 ((spansOf x0 x1 x2 x3).map GSpan.t)])] := by
  exact i_spansOf_D x0 x1 x2 x3 _ (by
    unfold i_spansOf_F
    simp only [if_pos h, if_pos hc, if_true]
    rw [spans_i x0 x2 x3 h hc hm 201 9223372036854775808 [] _ _ (by simp) (by omega)]
    rfl)

theorem T_s_l11Spans (x0 : GCron) (x1 : Int) (x2 : Int) (x3 : Int) (x4 : List GSpan) (h : Small.sm x0) (hm : x3 ≤ 200) (ho : x4 = []) : Does E 95 [.agg (GCron.t .far x0), .one (tI x1), .one (tI x2), .one (tI x3), .one (.s .own () 2 (x4.map GSpan.t))] [(false, [.any]), (false, [.s .own () 2 ((l11Spans x0 x1 x2 x3 x4).map GSpan.t)])] := by
  subst ho
  exact s_l11Spans_D x0 x1 x2 x3 [] _ (l11_ok x0 x1 x2 x3 h hm)
theorem i_Spans_P0 (x0 : GCron) (x1 : Int) (x2 : Int) (x3 : Int) (h0 : Small.sm x0) (h1 : (cronOk x0) = true) (h2 : cronOk x0 = true) (h3 : (minI x3 (20 : Int)) ≤ 200) : Does E 33 [.agg (GCron.t .far x0), .one (tI x1), .one (tI x2), .one (tI x3)] [(false, [.s .own () 2 ((spansOf x0 x1 x2 (minI x3 (20 : Int))).map GSpan.t)])] :=
  Does.path (fn := Try.f33) [.ret [(false, [tB true])], .val (.int .i64 (minI x3 (20 : Int))), .ret [(false, [.s .own () 2 ((spansOf x0 x1 x2 (minI x3 (20 : Int))).map GSpan.t)])]] [fun k => E.C k 96 [.agg (GCron.t .far x0)] = some [(false, [tB true])], fun _ => (if (20 : Int) < x3 then (20 : Int) else x3) = minI x3 (20 : Int), fun k => E.C k 97 [.agg (GCron.t .far x0), .one (tI x1), .one (tI x2), .one (tI (minI x3 (20 : Int)))] = some [(false, [.s .own () 2 ((spansOf x0 x1 x2 (minI x3 (20 : Int))).map GSpan.t)])]] rfl rfl (fun k => by kernel_rfl) ⟨Does.to (T_i_CronOk x0 h0) (by rw [h1]), Ev.c rfl, T_i_spansOf x0 x1 x2 (minI x3 (20 : Int)) h0 h2 h3, trivial⟩
theorem i_Spans_P1 (x0 : GCron) (x1 : Int) (x2 : Int) (x3 : Int) (h0 : Small.sm x0) (h1 : (cronOk x0) = false) : Does E 33 [.agg (GCron.t .far x0), .one (tI x1), .one (tI x2), .one (tI x3)] [(false, [.s .own () 2 (([] : List GSpan).map GSpan.t)])] :=
  Does.path (fn := Try.f33) [.ret [(false, [tB false])]] [fun k => E.C k 96 [.agg (GCron.t .far x0)] = some [(false, [tB false])]] rfl rfl (fun k => by kernel_rfl) ⟨Does.to (T_i_CronOk x0 h0) (by rw [h1]), trivial⟩
noncomputable def i_Spans_F (x0 : GCron) (x1 : Int) (x2 : Int) (x3 : Int) : Option ((List GSpan)) :=
    if Small.sm x0 then cond (cronOk x0)
      (if cronOk x0 = true then if (minI x3 (20 : Int)) ≤ 200 then some (spansOf x0 x1 x2 (minI x3 (20 : Int))) else none else none)
      (some (([] : List GSpan))) else none
theorem i_Spans_D (x0 : GCron) (x1 : Int) (x2 : Int) (x3 : Int) : Ans (i_Spans_F x0 x1 x2 x3) (fun r => Does E 33 [.agg (GCron.t .far x0), .one (tI x1), .one (tI x2), .one (tI x3)] [(false, [.s .own () 2 (r.map GSpan.t)])]) := by
  unfold i_Spans_F
  refine Ans.pre (fun h0 => ?_)
  refine Ans.ite (fun h1 => ?_) (fun h1 => ?_)
  · refine Ans.pre (fun h2 => ?_)
    refine Ans.pre (fun h3 => ?_)
    exact Ans.some (i_Spans_P0 x0 x1 x2 x3 h0 h1 h2 h3)
  · exact Ans.some (i_Spans_P1 x0 x1 x2 x3 h0 h1)
theorem s_Spans_P0 (x0 : GCron) (x1 : Int) (x2 : Int) (x3 : Int) (h0 : (decide (x3 > (20 : Int))) = true) (h1 : Small.sm x0) (h2 : (20 : Int) ≤ 200) (h3 : ([] : List GSpan) = []) : Does E 31 [.agg (GCron.t .far x0), .one (tI x1), .one (tI x2), .one (tI x3)] [(false, [.s .own () 2 ((l11Spans x0 x1 x2 (20 : Int) ([] : List GSpan)).map GSpan.t)])] :=
  Does.path (fn := Try.f31) [.b true, .ret [(false, [.any]), (false, [.s .own () 2 ((l11Spans x0 x1 x2 (20 : Int) ([] : List GSpan)).map GSpan.t)])]] [fun _ => (decide (x3 > (20 : Int))) = true, fun k => E.C k 95 [.agg (GCron.t .far x0), .one (tI x1), .one (tI x2), .one (tI (20 : Int)), .one (.s .own () 2 (([] : List GSpan).map GSpan.t))] = some [(false, [.any]), (false, [.s .own () 2 ((l11Spans x0 x1 x2 (20 : Int) ([] : List GSpan)).map GSpan.t)])]] rfl rfl (fun k => by kernel_rfl) ⟨Ev.c h0, T_s_l11Spans x0 x1 x2 (20 : Int) ([] : List GSpan) h1 h2 h3, trivial⟩
theorem s_Spans_P1 (x0 : GCron) (x1 : Int) (x2 : Int) (x3 : Int) (h0 : (decide (x3 > (20 : Int))) = false) (h1 : Small.sm x0) (h2 : x3 ≤ 200) (h3 : ([] : List GSpan) = []) : Does E 31 [.agg (GCron.t .far x0), .one (tI x1), .one (tI x2), .one (tI x3)] [(false, [.s .own () 2 ((l11Spans x0 x1 x2 x3 ([] : List GSpan)).map GSpan.t)])] :=
  Does.path (fn := Try.f31) [.b false, .ret [(false, [.any]), (false, [.s .own () 2 ((l11Spans x0 x1 x2 x3 ([] : List GSpan)).map GSpan.t)])]] [fun _ => (decide (x3 > (20 : Int))) = false, fun k => E.C k 95 [.agg (GCron.t .far x0), .one (tI x1), .one (tI x2), .one (tI x3), .one (.s .own () 2 (([] : List GSpan).map GSpan.t))] = some [(false, [.any]), (false, [.s .own () 2 ((l11Spans x0 x1 x2 x3 ([] : List GSpan)).map GSpan.t)])]] rfl rfl (fun k => by kernel_rfl) ⟨Ev.c h0, T_s_l11Spans x0 x1 x2 x3 ([] : List GSpan) h1 h2 h3, trivial⟩
noncomputable def s_Spans_F (x0 : GCron) (x1 : Int) (x2 : Int) (x3 : Int) : Option ((List GSpan)) :=
    cond (decide (x3 > (20 : Int)))
      (if Small.sm x0 then if (20 : Int) ≤ 200 then if ([] : List GSpan) = [] then some (l11Spans x0 x1 x2 (20 : Int) ([] : List GSpan)) else none else none else none)
      (if Small.sm x0 then if x3 ≤ 200 then if ([] : List GSpan) = [] then some (l11Spans x0 x1 x2 x3 ([] : List GSpan)) else none else none else none)
theorem s_Spans_D (x0 : GCron) (x1 : Int) (x2 : Int) (x3 : Int) : Ans (s_Spans_F x0 x1 x2 x3) (fun r => Does E 31 [.agg (GCron.t .far x0), .one (tI x1), .one (tI x2), .one (tI x3)] [(false, [.s .own () 2 (r.map GSpan.t)])]) := by
  unfold s_Spans_F
  refine Ans.ite (fun h0 => ?_) (fun h0 => ?_)
  · refine Ans.pre (fun h1 => ?_)
    refine Ans.pre (fun h2 => ?_)
    refine Ans.pre (fun h3 => ?_)
    exact Ans.some (s_Spans_P0 x0 x1 x2 x3 h0 h1 h2 h3)
  · refine Ans.pre (fun h1 => ?_)
    refine Ans.pre (fun h2 => ?_)
    refine Ans.pre (fun h3 => ?_)
    exact Ans.some (s_Spans_P1 x0 x1 x2 x3 h0 h1 h2 h3)
noncomputable def spans (c : GCron) (from_ upto most : Int) : List GSpan := if cronOk c = true then spansOf c from_ upto (minI most 20) else []
theorem sm_spans {c : GCron} (h : Small.sm c) (a b m : Int) : Small.sm (spans c a b m) := by
  unfold spans
  split
  · refine ⟨?_, fun y _ => trivial⟩
    have := spans_len c b (minI m 20) (by unfold minI; split <;> omega) 201 [] (nextFire c a 400).1 (nextFire c a 400).2 (by simp)
    unfold spansOf
    omega
  · exact ⟨Nat.zero_le _, fun y hy => by cases hy⟩
theorem T_i_Spans (x0 : GCron) (x1 : Int) (x2 : Int) (x3 : Int) (h : Small.sm x0) : Does E 33 [.agg (GCron.t .far x0), .one (tI x1), .one (tI x2), .one (tI x3)] [(false, [.s .own () 2 ((spans x0 x1 x2 x3).map GSpan.t)])] := by
  exact i_Spans_D x0 x1 x2 x3 _ (by
    unfold i_Spans_F spans
    have hm : minI x3 20 ≤ 200 := by unfold minI; split <;> omega
    simp only [if_pos h, if_pos hm]
    cases q : cronOk x0 <;> simp)
theorem T_s_Spans (x0 : GCron) (x1 : Int) (x2 : Int) (x3 : Int) (h : Small.sm x0) : Does E 31 [.agg (GCron.t .far x0), .one (tI x1), .one (tI x2), .one (tI x3)] [(false, [.s .own () 2 ((spans x0 x1 x2 x3).map GSpan.t)])] := by
  exact s_Spans_D x0 x1 x2 x3 _ (by
    unfold s_Spans_F spans l11Spans minI
    have e20 : (20 : Int) ≤ 200 := by omega
    simp only [if_pos h, e20, if_true]
    by_cases q : x3 > 20
    · rw [decide_eq_true q, cond_true, if_pos (show 20 < x3 from q)]
      try rfl
    · rw [decide_eq_false q, cond_false, if_pos (show x3 ≤ 200 by omega), if_neg (show ¬ 20 < x3 from q)]
      try rfl)
end Go.Proofs.Ytgpllfmogdpapaa.Am
namespace Go.Proofs.Ytgpllfmogdpapaa.Am
set_option linter.unusedVariables false
set_option linter.unusedSimpArgs false
open Go Go.Proofs Classical
set_option maxRecDepth 100000
set_option linter.unusedVariables false
set_option linter.unusedSimpArgs false
theorem l_FnExactSpans_P0 (x0 : GCron) (x1 : Int) (x2 : Int) (x3 : Int) (h0 : Wf.wf x0) (h1 : (decide ((p_l_szCron x0 (1048576 : Int)) < (0 : Int))) = true) : Does E 7 [.agg (GCron.t .far x0), .one (tI x1), .one (tI x2), .one (tI x3)] [(false, [tB true])] :=
  Does.path (fn := Try.f7) [.ret [(false, [tI (p_l_szCron x0 (1048576 : Int))])], .b true] [fun k => E.C k 30 [.agg (GCron.t .far x0), .one (tI (1048576 : Int))] = some [(false, [tI (p_l_szCron x0 (1048576 : Int))])], fun _ => (decide ((p_l_szCron x0 (1048576 : Int)) < (0 : Int))) = true] rfl rfl (fun k => by kernel_rfl) ⟨T_l_szCron x0 (1048576 : Int) h0, Ev.c h1, trivial⟩
theorem l_FnExactSpans_P1 (x0 : GCron) (x1 : Int) (x2 : Int) (x3 : Int) (h0 : Wf.wf x0) (h1 : (decide ((p_l_szCron x0 (1048576 : Int)) < (0 : Int))) = false) (h2 : Small.sm x0) (h3 : Small.sm (p_l_toCron x0)) (h4 : (spans (p_l_toCron x0) x1 x2 x3) = (spans (p_l_toCron x0) x1 x2 x3)) (h5 : Small.sm (spans (p_l_toCron x0) x1 x2 x3)) (h6 : (yes (spans (p_l_toCron x0) x1 x2 x3) (spans (p_l_toCron x0) x1 x2 x3)) = true) (h7 : (p_l_toCron x0) = (p_l_toCron x0)) (h8 : (yes (p_l_toCron x0) (p_l_toCron x0)) = true) (h9 : l_markCron_F (p_l_toCron x0) (1 : Int) = some (p_l_markCron (p_l_toCron x0) (1 : Int))) (h10 : (decide (((p_l_markCron (p_l_toCron x0) (1 : Int)).2) < (0 : Int))) = true) : Does E 7 [.agg (GCron.t .far x0), .one (tI x1), .one (tI x2), .one (tI x3)] [(false, [tB false])] :=
  Does.path (fn := Try.f7) [.ret [(false, [tI (p_l_szCron x0 (1048576 : Int))])], .b false, .ret [(true, GCron.t .own (p_l_toCron x0))], .ret [(false, [.s .own () 2 ((spans (p_l_toCron x0) x1 x2 x3).map GSpan.t)])], .ret [(true, GCron.t .own (p_l_toCron x0))], .ret [(false, [.s .own () 2 ((spans (p_l_toCron x0) x1 x2 x3).map GSpan.t)])], .ret [(false, [tB true])], .ret [(true, GCron.t .own (p_l_toCron x0))], .ret [(false, [tB true])], .ret [(true, GCron.t .own ((p_l_markCron (p_l_toCron x0) (1 : Int)).1)), (false, [tI ((p_l_markCron (p_l_toCron x0) (1 : Int)).2)])], .b true] [fun k => E.C k 30 [.agg (GCron.t .far x0), .one (tI (1048576 : Int))] = some [(false, [tI (p_l_szCron x0 (1048576 : Int))])], fun _ => (decide ((p_l_szCron x0 (1048576 : Int)) < (0 : Int))) = false, fun k => E.C k 32 [.agg (GCron.t .far x0)] = some [(true, GCron.t .own (p_l_toCron x0))], fun k => E.C k 31 [.agg (GCron.t .far (p_l_toCron x0)), .one (tI x1), .one (tI x2), .one (tI x3)] = some [(false, [.s .own () 2 ((spans (p_l_toCron x0) x1 x2 x3).map GSpan.t)])], fun k => E.C k 32 [.agg (GCron.t .far x0)] = some [(true, GCron.t .own (p_l_toCron x0))], fun k => E.C k 33 [.agg (GCron.t .far (p_l_toCron x0)), .one (tI x1), .one (tI x2), .one (tI x3)] = some [(false, [.s .own () 2 ((spans (p_l_toCron x0) x1 x2 x3).map GSpan.t)])], fun k => E.C k 34 [.one (.s .far () 2 ((((spans (p_l_toCron x0) x1 x2 x3).map GSpan.t).drop 0).take ((spans (p_l_toCron x0) x1 x2 x3).map GSpan.t).length)), .one (.s .far () 2 ((((spans (p_l_toCron x0) x1 x2 x3).map GSpan.t).drop 0).take ((spans (p_l_toCron x0) x1 x2 x3).map GSpan.t).length))] = some [(false, [tB true])], fun k => E.C k 32 [.agg (GCron.t .far x0)] = some [(true, GCron.t .own (p_l_toCron x0))], fun k => E.C k 35 [.agg (GCron.t .far (p_l_toCron x0)), .agg (GCron.t .far (p_l_toCron x0))] = some [(false, [tB true])], fun k => E.C k 36 [.agg (GCron.t .own (p_l_toCron x0)), .one (tI (1 : Int))] = some [(true, GCron.t .own ((p_l_markCron (p_l_toCron x0) (1 : Int)).1)), (false, [tI ((p_l_markCron (p_l_toCron x0) (1 : Int)).2)])], fun _ => (decide (((p_l_markCron (p_l_toCron x0) (1 : Int)).2) < (0 : Int))) = true] rfl rfl (fun k => by kernel_rfl) ⟨T_l_szCron x0 (1048576 : Int) h0, Ev.c h1, T_l_toCron x0 h2, T_s_Spans (p_l_toCron x0) x1 x2 x3 h3, T_l_toCron x0 h2, T_i_Spans (p_l_toCron x0) x1 x2 x3 h3, Does.args (by simp only [List.take_length, List.drop_zero]) (Does.to (T_l_eqSpanS (spans (p_l_toCron x0) x1 x2 x3) (spans (p_l_toCron x0) x1 x2 x3) h4 h5) (by rw [h6])), T_l_toCron x0 h2, Does.to (T_l_eqCron (p_l_toCron x0) (p_l_toCron x0) h7 h3) (by rw [h8]), T_l_markCron (p_l_toCron x0) (1 : Int) h9, Ev.c h10, trivial⟩
theorem l_FnExactSpans_P2 (x0 : GCron) (x1 : Int) (x2 : Int) (x3 : Int) (h0 : Wf.wf x0) (h1 : (decide ((p_l_szCron x0 (1048576 : Int)) < (0 : Int))) = false) (h2 : Small.sm x0) (h3 : Small.sm (p_l_toCron x0)) (h4 : (spans (p_l_toCron x0) x1 x2 x3) = (spans (p_l_toCron x0) x1 x2 x3)) (h5 : Small.sm (spans (p_l_toCron x0) x1 x2 x3)) (h6 : (yes (spans (p_l_toCron x0) x1 x2 x3) (spans (p_l_toCron x0) x1 x2 x3)) = true) (h7 : (p_l_toCron x0) = (p_l_toCron x0)) (h8 : (yes (p_l_toCron x0) (p_l_toCron x0)) = true) (h9 : l_markCron_F (p_l_toCron x0) (1 : Int) = some (p_l_markCron (p_l_toCron x0) (1 : Int))) (h10 : (decide (((p_l_markCron (p_l_toCron x0) (1 : Int)).2) < (0 : Int))) = false) (h11 : l_markSpanS_F (spans (p_l_toCron x0) x1 x2 x3) (1 : Int) = some (p_l_markSpanS (spans (p_l_toCron x0) x1 x2 x3) (1 : Int))) (h12 : l_heldSpanS_F ((p_l_markSpanS (spans (p_l_toCron x0) x1 x2 x3) (1 : Int)).1) (1 : Int) = some (p_l_heldSpanS ((p_l_markSpanS (spans (p_l_toCron x0) x1 x2 x3) (1 : Int)).1) (1 : Int))) (h13 : (decide ((p_l_heldSpanS ((p_l_markSpanS (spans (p_l_toCron x0) x1 x2 x3) (1 : Int)).1) (1 : Int)) < (0 : Int))) = true) : Does E 7 [.agg (GCron.t .far x0), .one (tI x1), .one (tI x2), .one (tI x3)] [(false, [tB false])] :=
  Does.path (fn := Try.f7) [.ret [(false, [tI (p_l_szCron x0 (1048576 : Int))])], .b false, .ret [(true, GCron.t .own (p_l_toCron x0))], .ret [(false, [.s .own () 2 ((spans (p_l_toCron x0) x1 x2 x3).map GSpan.t)])], .ret [(true, GCron.t .own (p_l_toCron x0))], .ret [(false, [.s .own () 2 ((spans (p_l_toCron x0) x1 x2 x3).map GSpan.t)])], .ret [(false, [tB true])], .ret [(true, GCron.t .own (p_l_toCron x0))], .ret [(false, [tB true])], .ret [(true, GCron.t .own ((p_l_markCron (p_l_toCron x0) (1 : Int)).1)), (false, [tI ((p_l_markCron (p_l_toCron x0) (1 : Int)).2)])], .b false, .ret [(false, [tB true])], .ret [(false, [.s .own () 2 (((p_l_markSpanS (spans (p_l_toCron x0) x1 x2 x3) (1 : Int)).1).map GSpan.t)]), (false, [tI ((p_l_markSpanS (spans (p_l_toCron x0) x1 x2 x3) (1 : Int)).2)])], .ret [(false, [tI (p_l_heldSpanS ((p_l_markSpanS (spans (p_l_toCron x0) x1 x2 x3) (1 : Int)).1) (1 : Int))])], .b true] [fun k => E.C k 30 [.agg (GCron.t .far x0), .one (tI (1048576 : Int))] = some [(false, [tI (p_l_szCron x0 (1048576 : Int))])], fun _ => (decide ((p_l_szCron x0 (1048576 : Int)) < (0 : Int))) = false, fun k => E.C k 32 [.agg (GCron.t .far x0)] = some [(true, GCron.t .own (p_l_toCron x0))], fun k => E.C k 31 [.agg (GCron.t .far (p_l_toCron x0)), .one (tI x1), .one (tI x2), .one (tI x3)] = some [(false, [.s .own () 2 ((spans (p_l_toCron x0) x1 x2 x3).map GSpan.t)])], fun k => E.C k 32 [.agg (GCron.t .far x0)] = some [(true, GCron.t .own (p_l_toCron x0))], fun k => E.C k 33 [.agg (GCron.t .far (p_l_toCron x0)), .one (tI x1), .one (tI x2), .one (tI x3)] = some [(false, [.s .own () 2 ((spans (p_l_toCron x0) x1 x2 x3).map GSpan.t)])], fun k => E.C k 34 [.one (.s .far () 2 ((((spans (p_l_toCron x0) x1 x2 x3).map GSpan.t).drop 0).take ((spans (p_l_toCron x0) x1 x2 x3).map GSpan.t).length)), .one (.s .far () 2 ((((spans (p_l_toCron x0) x1 x2 x3).map GSpan.t).drop 0).take ((spans (p_l_toCron x0) x1 x2 x3).map GSpan.t).length))] = some [(false, [tB true])], fun k => E.C k 32 [.agg (GCron.t .far x0)] = some [(true, GCron.t .own (p_l_toCron x0))], fun k => E.C k 35 [.agg (GCron.t .far (p_l_toCron x0)), .agg (GCron.t .far (p_l_toCron x0))] = some [(false, [tB true])], fun k => E.C k 36 [.agg (GCron.t .own (p_l_toCron x0)), .one (tI (1 : Int))] = some [(true, GCron.t .own ((p_l_markCron (p_l_toCron x0) (1 : Int)).1)), (false, [tI ((p_l_markCron (p_l_toCron x0) (1 : Int)).2)])], fun _ => (decide (((p_l_markCron (p_l_toCron x0) (1 : Int)).2) < (0 : Int))) = false, fun k => E.C k 34 [.one (.s .far () 2 ((((spans (p_l_toCron x0) x1 x2 x3).map GSpan.t).drop 0).take ((spans (p_l_toCron x0) x1 x2 x3).map GSpan.t).length)), .one (.s .far () 2 ((((spans (p_l_toCron x0) x1 x2 x3).map GSpan.t).drop 0).take ((spans (p_l_toCron x0) x1 x2 x3).map GSpan.t).length))] = some [(false, [tB true])], fun _ => ((spans (p_l_toCron x0) x1 x2 x3).map GSpan.t).length = ((spans (p_l_toCron x0) x1 x2 x3).map GSpan.t).length, fun k => E.C k 37 [.one (.s .own () 2 ((spans (p_l_toCron x0) x1 x2 x3).map GSpan.t)), .one (tI (1 : Int))] = some [(false, [.s .own () 2 (((p_l_markSpanS (spans (p_l_toCron x0) x1 x2 x3) (1 : Int)).1).map GSpan.t)]), (false, [tI ((p_l_markSpanS (spans (p_l_toCron x0) x1 x2 x3) (1 : Int)).2)])], fun k => E.C k 38 [.one (.s .far () 2 (((((p_l_markSpanS (spans (p_l_toCron x0) x1 x2 x3) (1 : Int)).1).map GSpan.t).drop 0).take (((p_l_markSpanS (spans (p_l_toCron x0) x1 x2 x3) (1 : Int)).1).map GSpan.t).length)), .one (tI (1 : Int))] = some [(false, [tI (p_l_heldSpanS ((p_l_markSpanS (spans (p_l_toCron x0) x1 x2 x3) (1 : Int)).1) (1 : Int))])], fun _ => (decide ((p_l_heldSpanS ((p_l_markSpanS (spans (p_l_toCron x0) x1 x2 x3) (1 : Int)).1) (1 : Int)) < (0 : Int))) = true] rfl rfl (fun k => by kernel_rfl) ⟨T_l_szCron x0 (1048576 : Int) h0, Ev.c h1, T_l_toCron x0 h2, T_s_Spans (p_l_toCron x0) x1 x2 x3 h3, T_l_toCron x0 h2, T_i_Spans (p_l_toCron x0) x1 x2 x3 h3, Does.args (by simp only [List.take_length, List.drop_zero]) (Does.to (T_l_eqSpanS (spans (p_l_toCron x0) x1 x2 x3) (spans (p_l_toCron x0) x1 x2 x3) h4 h5) (by rw [h6])), T_l_toCron x0 h2, Does.to (T_l_eqCron (p_l_toCron x0) (p_l_toCron x0) h7 h3) (by rw [h8]), T_l_markCron (p_l_toCron x0) (1 : Int) h9, Ev.c h10, Does.args (by simp only [List.take_length, List.drop_zero]) (Does.to (T_l_eqSpanS (spans (p_l_toCron x0) x1 x2 x3) (spans (p_l_toCron x0) x1 x2 x3) h4 h5) (by rw [h6])), Ev.c rfl, T_l_markSpanS (spans (p_l_toCron x0) x1 x2 x3) (1 : Int) h11, Does.args (by simp only [List.take_length, List.drop_zero]) (T_l_heldSpanS ((p_l_markSpanS (spans (p_l_toCron x0) x1 x2 x3) (1 : Int)).1) (1 : Int) h12), Ev.c h13, trivial⟩
theorem l_FnExactSpans_P3 (x0 : GCron) (x1 : Int) (x2 : Int) (x3 : Int) (h0 : Wf.wf x0) (h1 : (decide ((p_l_szCron x0 (1048576 : Int)) < (0 : Int))) = false) (h2 : Small.sm x0) (h3 : Small.sm (p_l_toCron x0)) (h4 : (spans (p_l_toCron x0) x1 x2 x3) = (spans (p_l_toCron x0) x1 x2 x3)) (h5 : Small.sm (spans (p_l_toCron x0) x1 x2 x3)) (h6 : (yes (spans (p_l_toCron x0) x1 x2 x3) (spans (p_l_toCron x0) x1 x2 x3)) = true) (h7 : (p_l_toCron x0) = (p_l_toCron x0)) (h8 : (yes (p_l_toCron x0) (p_l_toCron x0)) = true) (h9 : l_markCron_F (p_l_toCron x0) (1 : Int) = some (p_l_markCron (p_l_toCron x0) (1 : Int))) (h10 : (decide (((p_l_markCron (p_l_toCron x0) (1 : Int)).2) < (0 : Int))) = false) (h11 : l_markSpanS_F (spans (p_l_toCron x0) x1 x2 x3) (1 : Int) = some (p_l_markSpanS (spans (p_l_toCron x0) x1 x2 x3) (1 : Int))) (h12 : l_heldSpanS_F ((p_l_markSpanS (spans (p_l_toCron x0) x1 x2 x3) (1 : Int)).1) (1 : Int) = some (p_l_heldSpanS ((p_l_markSpanS (spans (p_l_toCron x0) x1 x2 x3) (1 : Int)).1) (1 : Int))) (h13 : (decide ((p_l_heldSpanS ((p_l_markSpanS (spans (p_l_toCron x0) x1 x2 x3) (1 : Int)).1) (1 : Int)) < (0 : Int))) = false) (h14 : ((p_l_heldSpanS ((p_l_markSpanS (spans (p_l_toCron x0) x1 x2 x3) (1 : Int)).1) (1 : Int)) != ((p_l_markSpanS (spans (p_l_toCron x0) x1 x2 x3) (1 : Int)).2)) = true) : Does E 7 [.agg (GCron.t .far x0), .one (tI x1), .one (tI x2), .one (tI x3)] [(false, [tB false])] :=
  Does.path (fn := Try.f7) [.ret [(false, [tI (p_l_szCron x0 (1048576 : Int))])], .b false, .ret [(true, GCron.t .own (p_l_toCron x0))], .ret [(false, [.s .own () 2 ((spans (p_l_toCron x0) x1 x2 x3).map GSpan.t)])], .ret [(true, GCron.t .own (p_l_toCron x0))], .ret [(false, [.s .own () 2 ((spans (p_l_toCron x0) x1 x2 x3).map GSpan.t)])], .ret [(false, [tB true])], .ret [(true, GCron.t .own (p_l_toCron x0))], .ret [(false, [tB true])], .ret [(true, GCron.t .own ((p_l_markCron (p_l_toCron x0) (1 : Int)).1)), (false, [tI ((p_l_markCron (p_l_toCron x0) (1 : Int)).2)])], .b false, .ret [(false, [tB true])], .ret [(false, [.s .own () 2 (((p_l_markSpanS (spans (p_l_toCron x0) x1 x2 x3) (1 : Int)).1).map GSpan.t)]), (false, [tI ((p_l_markSpanS (spans (p_l_toCron x0) x1 x2 x3) (1 : Int)).2)])], .ret [(false, [tI (p_l_heldSpanS ((p_l_markSpanS (spans (p_l_toCron x0) x1 x2 x3) (1 : Int)).1) (1 : Int))])], .b false, .b true] [fun k => E.C k 30 [.agg (GCron.t .far x0), .one (tI (1048576 : Int))] = some [(false, [tI (p_l_szCron x0 (1048576 : Int))])], fun _ => (decide ((p_l_szCron x0 (1048576 : Int)) < (0 : Int))) = false, fun k => E.C k 32 [.agg (GCron.t .far x0)] = some [(true, GCron.t .own (p_l_toCron x0))], fun k => E.C k 31 [.agg (GCron.t .far (p_l_toCron x0)), .one (tI x1), .one (tI x2), .one (tI x3)] = some [(false, [.s .own () 2 ((spans (p_l_toCron x0) x1 x2 x3).map GSpan.t)])], fun k => E.C k 32 [.agg (GCron.t .far x0)] = some [(true, GCron.t .own (p_l_toCron x0))], fun k => E.C k 33 [.agg (GCron.t .far (p_l_toCron x0)), .one (tI x1), .one (tI x2), .one (tI x3)] = some [(false, [.s .own () 2 ((spans (p_l_toCron x0) x1 x2 x3).map GSpan.t)])], fun k => E.C k 34 [.one (.s .far () 2 ((((spans (p_l_toCron x0) x1 x2 x3).map GSpan.t).drop 0).take ((spans (p_l_toCron x0) x1 x2 x3).map GSpan.t).length)), .one (.s .far () 2 ((((spans (p_l_toCron x0) x1 x2 x3).map GSpan.t).drop 0).take ((spans (p_l_toCron x0) x1 x2 x3).map GSpan.t).length))] = some [(false, [tB true])], fun k => E.C k 32 [.agg (GCron.t .far x0)] = some [(true, GCron.t .own (p_l_toCron x0))], fun k => E.C k 35 [.agg (GCron.t .far (p_l_toCron x0)), .agg (GCron.t .far (p_l_toCron x0))] = some [(false, [tB true])], fun k => E.C k 36 [.agg (GCron.t .own (p_l_toCron x0)), .one (tI (1 : Int))] = some [(true, GCron.t .own ((p_l_markCron (p_l_toCron x0) (1 : Int)).1)), (false, [tI ((p_l_markCron (p_l_toCron x0) (1 : Int)).2)])], fun _ => (decide (((p_l_markCron (p_l_toCron x0) (1 : Int)).2) < (0 : Int))) = false, fun k => E.C k 34 [.one (.s .far () 2 ((((spans (p_l_toCron x0) x1 x2 x3).map GSpan.t).drop 0).take ((spans (p_l_toCron x0) x1 x2 x3).map GSpan.t).length)), .one (.s .far () 2 ((((spans (p_l_toCron x0) x1 x2 x3).map GSpan.t).drop 0).take ((spans (p_l_toCron x0) x1 x2 x3).map GSpan.t).length))] = some [(false, [tB true])], fun _ => ((spans (p_l_toCron x0) x1 x2 x3).map GSpan.t).length = ((spans (p_l_toCron x0) x1 x2 x3).map GSpan.t).length, fun k => E.C k 37 [.one (.s .own () 2 ((spans (p_l_toCron x0) x1 x2 x3).map GSpan.t)), .one (tI (1 : Int))] = some [(false, [.s .own () 2 (((p_l_markSpanS (spans (p_l_toCron x0) x1 x2 x3) (1 : Int)).1).map GSpan.t)]), (false, [tI ((p_l_markSpanS (spans (p_l_toCron x0) x1 x2 x3) (1 : Int)).2)])], fun k => E.C k 38 [.one (.s .far () 2 (((((p_l_markSpanS (spans (p_l_toCron x0) x1 x2 x3) (1 : Int)).1).map GSpan.t).drop 0).take (((p_l_markSpanS (spans (p_l_toCron x0) x1 x2 x3) (1 : Int)).1).map GSpan.t).length)), .one (tI (1 : Int))] = some [(false, [tI (p_l_heldSpanS ((p_l_markSpanS (spans (p_l_toCron x0) x1 x2 x3) (1 : Int)).1) (1 : Int))])], fun _ => (decide ((p_l_heldSpanS ((p_l_markSpanS (spans (p_l_toCron x0) x1 x2 x3) (1 : Int)).1) (1 : Int)) < (0 : Int))) = false, fun _ => ((p_l_heldSpanS ((p_l_markSpanS (spans (p_l_toCron x0) x1 x2 x3) (1 : Int)).1) (1 : Int)) != ((p_l_markSpanS (spans (p_l_toCron x0) x1 x2 x3) (1 : Int)).2)) = true] rfl rfl (fun k => by kernel_rfl) ⟨T_l_szCron x0 (1048576 : Int) h0, Ev.c h1, T_l_toCron x0 h2, T_s_Spans (p_l_toCron x0) x1 x2 x3 h3, T_l_toCron x0 h2, T_i_Spans (p_l_toCron x0) x1 x2 x3 h3, Does.args (by simp only [List.take_length, List.drop_zero]) (Does.to (T_l_eqSpanS (spans (p_l_toCron x0) x1 x2 x3) (spans (p_l_toCron x0) x1 x2 x3) h4 h5) (by rw [h6])), T_l_toCron x0 h2, Does.to (T_l_eqCron (p_l_toCron x0) (p_l_toCron x0) h7 h3) (by rw [h8]), T_l_markCron (p_l_toCron x0) (1 : Int) h9, Ev.c h10, Does.args (by simp only [List.take_length, List.drop_zero]) (Does.to (T_l_eqSpanS (spans (p_l_toCron x0) x1 x2 x3) (spans (p_l_toCron x0) x1 x2 x3) h4 h5) (by rw [h6])), Ev.c rfl, T_l_markSpanS (spans (p_l_toCron x0) x1 x2 x3) (1 : Int) h11, Does.args (by simp only [List.take_length, List.drop_zero]) (T_l_heldSpanS ((p_l_markSpanS (spans (p_l_toCron x0) x1 x2 x3) (1 : Int)).1) (1 : Int) h12), Ev.c h13, Ev.c h14, trivial⟩
theorem l_FnExactSpans_P4 (x0 : GCron) (x1 : Int) (x2 : Int) (x3 : Int) (h0 : Wf.wf x0) (h1 : (decide ((p_l_szCron x0 (1048576 : Int)) < (0 : Int))) = false) (h2 : Small.sm x0) (h3 : Small.sm (p_l_toCron x0)) (h4 : (spans (p_l_toCron x0) x1 x2 x3) = (spans (p_l_toCron x0) x1 x2 x3)) (h5 : Small.sm (spans (p_l_toCron x0) x1 x2 x3)) (h6 : (yes (spans (p_l_toCron x0) x1 x2 x3) (spans (p_l_toCron x0) x1 x2 x3)) = true) (h7 : (p_l_toCron x0) = (p_l_toCron x0)) (h8 : (yes (p_l_toCron x0) (p_l_toCron x0)) = true) (h9 : l_markCron_F (p_l_toCron x0) (1 : Int) = some (p_l_markCron (p_l_toCron x0) (1 : Int))) (h10 : (decide (((p_l_markCron (p_l_toCron x0) (1 : Int)).2) < (0 : Int))) = false) (h11 : l_markSpanS_F (spans (p_l_toCron x0) x1 x2 x3) (1 : Int) = some (p_l_markSpanS (spans (p_l_toCron x0) x1 x2 x3) (1 : Int))) (h12 : l_heldSpanS_F ((p_l_markSpanS (spans (p_l_toCron x0) x1 x2 x3) (1 : Int)).1) (1 : Int) = some (p_l_heldSpanS ((p_l_markSpanS (spans (p_l_toCron x0) x1 x2 x3) (1 : Int)).1) (1 : Int))) (h13 : (decide ((p_l_heldSpanS ((p_l_markSpanS (spans (p_l_toCron x0) x1 x2 x3) (1 : Int)).1) (1 : Int)) < (0 : Int))) = false) (h14 : ((p_l_heldSpanS ((p_l_markSpanS (spans (p_l_toCron x0) x1 x2 x3) (1 : Int)).1) (1 : Int)) != ((p_l_markSpanS (spans (p_l_toCron x0) x1 x2 x3) (1 : Int)).2)) = false) : Does E 7 [.agg (GCron.t .far x0), .one (tI x1), .one (tI x2), .one (tI x3)] [(false, [tB true])] :=
  Does.path (fn := Try.f7) [.ret [(false, [tI (p_l_szCron x0 (1048576 : Int))])], .b false, .ret [(true, GCron.t .own (p_l_toCron x0))], .ret [(false, [.s .own () 2 ((spans (p_l_toCron x0) x1 x2 x3).map GSpan.t)])], .ret [(true, GCron.t .own (p_l_toCron x0))], .ret [(false, [.s .own () 2 ((spans (p_l_toCron x0) x1 x2 x3).map GSpan.t)])], .ret [(false, [tB true])], .ret [(true, GCron.t .own (p_l_toCron x0))], .ret [(false, [tB true])], .ret [(true, GCron.t .own ((p_l_markCron (p_l_toCron x0) (1 : Int)).1)), (false, [tI ((p_l_markCron (p_l_toCron x0) (1 : Int)).2)])], .b false, .ret [(false, [tB true])], .ret [(false, [.s .own () 2 (((p_l_markSpanS (spans (p_l_toCron x0) x1 x2 x3) (1 : Int)).1).map GSpan.t)]), (false, [tI ((p_l_markSpanS (spans (p_l_toCron x0) x1 x2 x3) (1 : Int)).2)])], .ret [(false, [tI (p_l_heldSpanS ((p_l_markSpanS (spans (p_l_toCron x0) x1 x2 x3) (1 : Int)).1) (1 : Int))])], .b false, .b false, .ret [(true, GCron.t .own (p_l_toCron x0))], .ret [(false, [.s .own () 2 ((spans (p_l_toCron x0) x1 x2 x3).map GSpan.t)])], .ret [(false, [tB true])], .ret [(false, [tI (p_l_heldSpanS ((p_l_markSpanS (spans (p_l_toCron x0) x1 x2 x3) (1 : Int)).1) (1 : Int))])], .b false, .b false] [fun k => E.C k 30 [.agg (GCron.t .far x0), .one (tI (1048576 : Int))] = some [(false, [tI (p_l_szCron x0 (1048576 : Int))])], fun _ => (decide ((p_l_szCron x0 (1048576 : Int)) < (0 : Int))) = false, fun k => E.C k 32 [.agg (GCron.t .far x0)] = some [(true, GCron.t .own (p_l_toCron x0))], fun k => E.C k 31 [.agg (GCron.t .far (p_l_toCron x0)), .one (tI x1), .one (tI x2), .one (tI x3)] = some [(false, [.s .own () 2 ((spans (p_l_toCron x0) x1 x2 x3).map GSpan.t)])], fun k => E.C k 32 [.agg (GCron.t .far x0)] = some [(true, GCron.t .own (p_l_toCron x0))], fun k => E.C k 33 [.agg (GCron.t .far (p_l_toCron x0)), .one (tI x1), .one (tI x2), .one (tI x3)] = some [(false, [.s .own () 2 ((spans (p_l_toCron x0) x1 x2 x3).map GSpan.t)])], fun k => E.C k 34 [.one (.s .far () 2 ((((spans (p_l_toCron x0) x1 x2 x3).map GSpan.t).drop 0).take ((spans (p_l_toCron x0) x1 x2 x3).map GSpan.t).length)), .one (.s .far () 2 ((((spans (p_l_toCron x0) x1 x2 x3).map GSpan.t).drop 0).take ((spans (p_l_toCron x0) x1 x2 x3).map GSpan.t).length))] = some [(false, [tB true])], fun k => E.C k 32 [.agg (GCron.t .far x0)] = some [(true, GCron.t .own (p_l_toCron x0))], fun k => E.C k 35 [.agg (GCron.t .far (p_l_toCron x0)), .agg (GCron.t .far (p_l_toCron x0))] = some [(false, [tB true])], fun k => E.C k 36 [.agg (GCron.t .own (p_l_toCron x0)), .one (tI (1 : Int))] = some [(true, GCron.t .own ((p_l_markCron (p_l_toCron x0) (1 : Int)).1)), (false, [tI ((p_l_markCron (p_l_toCron x0) (1 : Int)).2)])], fun _ => (decide (((p_l_markCron (p_l_toCron x0) (1 : Int)).2) < (0 : Int))) = false, fun k => E.C k 34 [.one (.s .far () 2 ((((spans (p_l_toCron x0) x1 x2 x3).map GSpan.t).drop 0).take ((spans (p_l_toCron x0) x1 x2 x3).map GSpan.t).length)), .one (.s .far () 2 ((((spans (p_l_toCron x0) x1 x2 x3).map GSpan.t).drop 0).take ((spans (p_l_toCron x0) x1 x2 x3).map GSpan.t).length))] = some [(false, [tB true])], fun _ => ((spans (p_l_toCron x0) x1 x2 x3).map GSpan.t).length = ((spans (p_l_toCron x0) x1 x2 x3).map GSpan.t).length, fun k => E.C k 37 [.one (.s .own () 2 ((spans (p_l_toCron x0) x1 x2 x3).map GSpan.t)), .one (tI (1 : Int))] = some [(false, [.s .own () 2 (((p_l_markSpanS (spans (p_l_toCron x0) x1 x2 x3) (1 : Int)).1).map GSpan.t)]), (false, [tI ((p_l_markSpanS (spans (p_l_toCron x0) x1 x2 x3) (1 : Int)).2)])], fun k => E.C k 38 [.one (.s .far () 2 (((((p_l_markSpanS (spans (p_l_toCron x0) x1 x2 x3) (1 : Int)).1).map GSpan.t).drop 0).take (((p_l_markSpanS (spans (p_l_toCron x0) x1 x2 x3) (1 : Int)).1).map GSpan.t).length)), .one (tI (1 : Int))] = some [(false, [tI (p_l_heldSpanS ((p_l_markSpanS (spans (p_l_toCron x0) x1 x2 x3) (1 : Int)).1) (1 : Int))])], fun _ => (decide ((p_l_heldSpanS ((p_l_markSpanS (spans (p_l_toCron x0) x1 x2 x3) (1 : Int)).1) (1 : Int)) < (0 : Int))) = false, fun _ => ((p_l_heldSpanS ((p_l_markSpanS (spans (p_l_toCron x0) x1 x2 x3) (1 : Int)).1) (1 : Int)) != ((p_l_markSpanS (spans (p_l_toCron x0) x1 x2 x3) (1 : Int)).2)) = false, fun k => E.C k 32 [.agg (GCron.t .far x0)] = some [(true, GCron.t .own (p_l_toCron x0))], fun k => E.C k 33 [.agg (GCron.t .far (p_l_toCron x0)), .one (tI x1), .one (tI x2), .one (tI x3)] = some [(false, [.s .own () 2 ((spans (p_l_toCron x0) x1 x2 x3).map GSpan.t)])], fun k => E.C k 34 [.one (.s .far () 2 ((((spans (p_l_toCron x0) x1 x2 x3).map GSpan.t).drop 0).take ((spans (p_l_toCron x0) x1 x2 x3).map GSpan.t).length)), .one (.s .far () 2 ((((spans (p_l_toCron x0) x1 x2 x3).map GSpan.t).drop 0).take ((spans (p_l_toCron x0) x1 x2 x3).map GSpan.t).length))] = some [(false, [tB true])], fun k => E.C k 38 [.one (.s .far () 2 (((((p_l_markSpanS (spans (p_l_toCron x0) x1 x2 x3) (1 : Int)).1).map GSpan.t).drop 0).take (((p_l_markSpanS (spans (p_l_toCron x0) x1 x2 x3) (1 : Int)).1).map GSpan.t).length)), .one (tI (1 : Int))] = some [(false, [tI (p_l_heldSpanS ((p_l_markSpanS (spans (p_l_toCron x0) x1 x2 x3) (1 : Int)).1) (1 : Int))])], fun _ => (decide ((p_l_heldSpanS ((p_l_markSpanS (spans (p_l_toCron x0) x1 x2 x3) (1 : Int)).1) (1 : Int)) < (0 : Int))) = false, fun _ => ((p_l_heldSpanS ((p_l_markSpanS (spans (p_l_toCron x0) x1 x2 x3) (1 : Int)).1) (1 : Int)) != ((p_l_markSpanS (spans (p_l_toCron x0) x1 x2 x3) (1 : Int)).2)) = false] rfl rfl (fun k => by kernel_rfl) ⟨T_l_szCron x0 (1048576 : Int) h0, Ev.c h1, T_l_toCron x0 h2, T_s_Spans (p_l_toCron x0) x1 x2 x3 h3, T_l_toCron x0 h2, T_i_Spans (p_l_toCron x0) x1 x2 x3 h3, Does.args (by simp only [List.take_length, List.drop_zero]) (Does.to (T_l_eqSpanS (spans (p_l_toCron x0) x1 x2 x3) (spans (p_l_toCron x0) x1 x2 x3) h4 h5) (by rw [h6])), T_l_toCron x0 h2, Does.to (T_l_eqCron (p_l_toCron x0) (p_l_toCron x0) h7 h3) (by rw [h8]), T_l_markCron (p_l_toCron x0) (1 : Int) h9, Ev.c h10, Does.args (by simp only [List.take_length, List.drop_zero]) (Does.to (T_l_eqSpanS (spans (p_l_toCron x0) x1 x2 x3) (spans (p_l_toCron x0) x1 x2 x3) h4 h5) (by rw [h6])), Ev.c rfl, T_l_markSpanS (spans (p_l_toCron x0) x1 x2 x3) (1 : Int) h11, Does.args (by simp only [List.take_length, List.drop_zero]) (T_l_heldSpanS ((p_l_markSpanS (spans (p_l_toCron x0) x1 x2 x3) (1 : Int)).1) (1 : Int) h12), Ev.c h13, Ev.c h14, T_l_toCron x0 h2, T_i_Spans (p_l_toCron x0) x1 x2 x3 h3, Does.args (by simp only [List.take_length, List.drop_zero]) (Does.to (T_l_eqSpanS (spans (p_l_toCron x0) x1 x2 x3) (spans (p_l_toCron x0) x1 x2 x3) h4 h5) (by rw [h6])), Does.args (by simp only [List.take_length, List.drop_zero]) (T_l_heldSpanS ((p_l_markSpanS (spans (p_l_toCron x0) x1 x2 x3) (1 : Int)).1) (1 : Int) h12), Ev.c h13, Ev.c h14, trivial⟩
theorem l_FnExactSpans_P5 (x0 : GCron) (x1 : Int) (x2 : Int) (x3 : Int) (h0 : Wf.wf x0) (h1 : (decide ((p_l_szCron x0 (1048576 : Int)) < (0 : Int))) = false) (h2 : Small.sm x0) (h3 : Small.sm (p_l_toCron x0)) (h4 : (spans (p_l_toCron x0) x1 x2 x3) = (spans (p_l_toCron x0) x1 x2 x3)) (h5 : Small.sm (spans (p_l_toCron x0) x1 x2 x3)) (h6 : (yes (spans (p_l_toCron x0) x1 x2 x3) (spans (p_l_toCron x0) x1 x2 x3)) = true) (h7 : (p_l_toCron x0) = (p_l_toCron x0)) (h8 : (yes (p_l_toCron x0) (p_l_toCron x0)) = false) : Does E 7 [.agg (GCron.t .far x0), .one (tI x1), .one (tI x2), .one (tI x3)] [(false, [tB false])] :=
  Does.path (fn := Try.f7) [.ret [(false, [tI (p_l_szCron x0 (1048576 : Int))])], .b false, .ret [(true, GCron.t .own (p_l_toCron x0))], .ret [(false, [.s .own () 2 ((spans (p_l_toCron x0) x1 x2 x3).map GSpan.t)])], .ret [(true, GCron.t .own (p_l_toCron x0))], .ret [(false, [.s .own () 2 ((spans (p_l_toCron x0) x1 x2 x3).map GSpan.t)])], .ret [(false, [tB true])], .ret [(true, GCron.t .own (p_l_toCron x0))], .ret [(false, [tB false])]] [fun k => E.C k 30 [.agg (GCron.t .far x0), .one (tI (1048576 : Int))] = some [(false, [tI (p_l_szCron x0 (1048576 : Int))])], fun _ => (decide ((p_l_szCron x0 (1048576 : Int)) < (0 : Int))) = false, fun k => E.C k 32 [.agg (GCron.t .far x0)] = some [(true, GCron.t .own (p_l_toCron x0))], fun k => E.C k 31 [.agg (GCron.t .far (p_l_toCron x0)), .one (tI x1), .one (tI x2), .one (tI x3)] = some [(false, [.s .own () 2 ((spans (p_l_toCron x0) x1 x2 x3).map GSpan.t)])], fun k => E.C k 32 [.agg (GCron.t .far x0)] = some [(true, GCron.t .own (p_l_toCron x0))], fun k => E.C k 33 [.agg (GCron.t .far (p_l_toCron x0)), .one (tI x1), .one (tI x2), .one (tI x3)] = some [(false, [.s .own () 2 ((spans (p_l_toCron x0) x1 x2 x3).map GSpan.t)])], fun k => E.C k 34 [.one (.s .far () 2 ((((spans (p_l_toCron x0) x1 x2 x3).map GSpan.t).drop 0).take ((spans (p_l_toCron x0) x1 x2 x3).map GSpan.t).length)), .one (.s .far () 2 ((((spans (p_l_toCron x0) x1 x2 x3).map GSpan.t).drop 0).take ((spans (p_l_toCron x0) x1 x2 x3).map GSpan.t).length))] = some [(false, [tB true])], fun k => E.C k 32 [.agg (GCron.t .far x0)] = some [(true, GCron.t .own (p_l_toCron x0))], fun k => E.C k 35 [.agg (GCron.t .far (p_l_toCron x0)), .agg (GCron.t .far (p_l_toCron x0))] = some [(false, [tB false])]] rfl rfl (fun k => by kernel_rfl) ⟨T_l_szCron x0 (1048576 : Int) h0, Ev.c h1, T_l_toCron x0 h2, T_s_Spans (p_l_toCron x0) x1 x2 x3 h3, T_l_toCron x0 h2, T_i_Spans (p_l_toCron x0) x1 x2 x3 h3, Does.args (by simp only [List.take_length, List.drop_zero]) (Does.to (T_l_eqSpanS (spans (p_l_toCron x0) x1 x2 x3) (spans (p_l_toCron x0) x1 x2 x3) h4 h5) (by rw [h6])), T_l_toCron x0 h2, Does.to (T_l_eqCron (p_l_toCron x0) (p_l_toCron x0) h7 h3) (by rw [h8]), trivial⟩
theorem l_FnExactSpans_P6 (x0 : GCron) (x1 : Int) (x2 : Int) (x3 : Int) (h0 : Wf.wf x0) (h1 : (decide ((p_l_szCron x0 (1048576 : Int)) < (0 : Int))) = false) (h2 : Small.sm x0) (h3 : Small.sm (p_l_toCron x0)) (h4 : (spans (p_l_toCron x0) x1 x2 x3) = (spans (p_l_toCron x0) x1 x2 x3)) (h5 : Small.sm (spans (p_l_toCron x0) x1 x2 x3)) (h6 : (yes (spans (p_l_toCron x0) x1 x2 x3) (spans (p_l_toCron x0) x1 x2 x3)) = false) : Does E 7 [.agg (GCron.t .far x0), .one (tI x1), .one (tI x2), .one (tI x3)] [(false, [tB false])] :=
  Does.path (fn := Try.f7) [.ret [(false, [tI (p_l_szCron x0 (1048576 : Int))])], .b false, .ret [(true, GCron.t .own (p_l_toCron x0))], .ret [(false, [.s .own () 2 ((spans (p_l_toCron x0) x1 x2 x3).map GSpan.t)])], .ret [(true, GCron.t .own (p_l_toCron x0))], .ret [(false, [.s .own () 2 ((spans (p_l_toCron x0) x1 x2 x3).map GSpan.t)])], .ret [(false, [tB false])]] [fun k => E.C k 30 [.agg (GCron.t .far x0), .one (tI (1048576 : Int))] = some [(false, [tI (p_l_szCron x0 (1048576 : Int))])], fun _ => (decide ((p_l_szCron x0 (1048576 : Int)) < (0 : Int))) = false, fun k => E.C k 32 [.agg (GCron.t .far x0)] = some [(true, GCron.t .own (p_l_toCron x0))], fun k => E.C k 31 [.agg (GCron.t .far (p_l_toCron x0)), .one (tI x1), .one (tI x2), .one (tI x3)] = some [(false, [.s .own () 2 ((spans (p_l_toCron x0) x1 x2 x3).map GSpan.t)])], fun k => E.C k 32 [.agg (GCron.t .far x0)] = some [(true, GCron.t .own (p_l_toCron x0))], fun k => E.C k 33 [.agg (GCron.t .far (p_l_toCron x0)), .one (tI x1), .one (tI x2), .one (tI x3)] = some [(false, [.s .own () 2 ((spans (p_l_toCron x0) x1 x2 x3).map GSpan.t)])], fun k => E.C k 34 [.one (.s .far () 2 ((((spans (p_l_toCron x0) x1 x2 x3).map GSpan.t).drop 0).take ((spans (p_l_toCron x0) x1 x2 x3).map GSpan.t).length)), .one (.s .far () 2 ((((spans (p_l_toCron x0) x1 x2 x3).map GSpan.t).drop 0).take ((spans (p_l_toCron x0) x1 x2 x3).map GSpan.t).length))] = some [(false, [tB false])]] rfl rfl (fun k => by kernel_rfl) ⟨T_l_szCron x0 (1048576 : Int) h0, Ev.c h1, T_l_toCron x0 h2, T_s_Spans (p_l_toCron x0) x1 x2 x3 h3, T_l_toCron x0 h2, T_i_Spans (p_l_toCron x0) x1 x2 x3 h3, Does.args (by simp only [List.take_length, List.drop_zero]) (Does.to (T_l_eqSpanS (spans (p_l_toCron x0) x1 x2 x3) (spans (p_l_toCron x0) x1 x2 x3) h4 h5) (by rw [h6])), trivial⟩
noncomputable def l_FnExactSpans_F (x0 : GCron) (x1 : Int) (x2 : Int) (x3 : Int) : Option (Bool) :=
    if Wf.wf x0 then cond (decide ((p_l_szCron x0 (1048576 : Int)) < (0 : Int)))
      (some (true))
      (if Small.sm x0 then if Small.sm (p_l_toCron x0) then if (spans (p_l_toCron x0) x1 x2 x3) = (spans (p_l_toCron x0) x1 x2 x3) then if Small.sm (spans (p_l_toCron x0) x1 x2 x3) then cond (yes (spans (p_l_toCron x0) x1 x2 x3) (spans (p_l_toCron x0) x1 x2 x3))
        (if (p_l_toCron x0) = (p_l_toCron x0) then cond (yes (p_l_toCron x0) (p_l_toCron x0))
          (if l_markCron_F (p_l_toCron x0) (1 : Int) = some (p_l_markCron (p_l_toCron x0) (1 : Int)) then cond (decide (((p_l_markCron (p_l_toCron x0) (1 : Int)).2) < (0 : Int)))
            (some (false))
            (if l_markSpanS_F (spans (p_l_toCron x0) x1 x2 x3) (1 : Int) = some (p_l_markSpanS (spans (p_l_toCron x0) x1 x2 x3) (1 : Int)) then if l_heldSpanS_F ((p_l_markSpanS (spans (p_l_toCron x0) x1 x2 x3) (1 : Int)).1) (1 : Int) = some (p_l_heldSpanS ((p_l_markSpanS (spans (p_l_toCron x0) x1 x2 x3) (1 : Int)).1) (1 : Int)) then cond (decide ((p_l_heldSpanS ((p_l_markSpanS (spans (p_l_toCron x0) x1 x2 x3) (1 : Int)).1) (1 : Int)) < (0 : Int)))
              (some (false))
              (cond ((p_l_heldSpanS ((p_l_markSpanS (spans (p_l_toCron x0) x1 x2 x3) (1 : Int)).1) (1 : Int)) != ((p_l_markSpanS (spans (p_l_toCron x0) x1 x2 x3) (1 : Int)).2))
                (some (false))
                (some (true))) else none else none) else none)
          (some (false)) else none)
        (some (false)) else none else none else none else none) else none
theorem l_FnExactSpans_D (x0 : GCron) (x1 : Int) (x2 : Int) (x3 : Int) : Ans (l_FnExactSpans_F x0 x1 x2 x3) (fun r => Does E 7 [.agg (GCron.t .far x0), .one (tI x1), .one (tI x2), .one (tI x3)] [(false, [tB r])]) := by
  unfold l_FnExactSpans_F
  refine Ans.pre (fun h0 => ?_)
  refine Ans.ite (fun h1 => ?_) (fun h1 => ?_)
  · exact Ans.some (l_FnExactSpans_P0 x0 x1 x2 x3 h0 h1)
  · refine Ans.pre (fun h2 => ?_)
    refine Ans.pre (fun h3 => ?_)
    refine Ans.pre (fun h4 => ?_)
    refine Ans.pre (fun h5 => ?_)
    refine Ans.ite (fun h6 => ?_) (fun h6 => ?_)
    · refine Ans.pre (fun h7 => ?_)
      refine Ans.ite (fun h8 => ?_) (fun h8 => ?_)
      · refine Ans.pre (fun h9 => ?_)
        refine Ans.ite (fun h10 => ?_) (fun h10 => ?_)
        · exact Ans.some (l_FnExactSpans_P1 x0 x1 x2 x3 h0 h1 h2 h3 h4 h5 h6 h7 h8 h9 h10)
        · refine Ans.pre (fun h11 => ?_)
          refine Ans.pre (fun h12 => ?_)
          refine Ans.ite (fun h13 => ?_) (fun h13 => ?_)
          · exact Ans.some (l_FnExactSpans_P2 x0 x1 x2 x3 h0 h1 h2 h3 h4 h5 h6 h7 h8 h9 h10 h11 h12 h13)
          · refine Ans.ite (fun h14 => ?_) (fun h14 => ?_)
            · exact Ans.some (l_FnExactSpans_P3 x0 x1 x2 x3 h0 h1 h2 h3 h4 h5 h6 h7 h8 h9 h10 h11 h12 h13 h14)
            · exact Ans.some (l_FnExactSpans_P4 x0 x1 x2 x3 h0 h1 h2 h3 h4 h5 h6 h7 h8 h9 h10 h11 h12 h13 h14)
      · exact Ans.some (l_FnExactSpans_P5 x0 x1 x2 x3 h0 h1 h2 h3 h4 h5 h6 h7 h8)
    · exact Ans.some (l_FnExactSpans_P6 x0 x1 x2 x3 h0 h1 h2 h3 h4 h5 h6)
theorem T_law_Spans (x0 : GCron) (x1 : Int) (x2 : Int) (x3 : Int) (h : Wf.wf x0) : Does E 7 [.agg (GCron.t .far x0), .one (tI x1), .one (tI x2), .one (tI x3)] [(false, [tB true])] := by
  have hs := le_l_szCron x0 1048576 h (by omega) (by omega)
  exact l_FnExactSpans_D x0 x1 x2 x3 _ (by
    unfold l_FnExactSpans_F
    refine lawPre h (lawSz fun q => ?_)
    have ht : Small.sm (p_l_toCron x0) := (hs q).2
    have hr : Small.sm (spans (p_l_toCron x0) x1 x2 x3) := sm_spans ht x1 x2 x3
    obtain ⟨a1, a2, a3, a4, a5, a6, a7⟩ := ok_l_markCron (p_l_toCron x0) 1 ht (by omega) (by omega)
    obtain ⟨b1, b2, b3, b4, b5, b6⟩ := ok_l_markSpanS (spans (p_l_toCron x0) x1 x2 x3) 1 hr (by omega) (by omega)
    have ha : decide ((p_l_markCron (p_l_toCron x0) 1).2 < (0 : Int)) = false := decide_eq_false (by omega)
    have hb : decide ((p_l_markSpanS (spans (p_l_toCron x0) x1 x2 x3) 1).2 < (0 : Int)) = false := decide_eq_false (by omega)
    simp [(hs q).2, ht, hr, yes, a1, b1, b2, b3, ha, hb])
end Go.Proofs.Ytgpllfmogdpapaa.Am
