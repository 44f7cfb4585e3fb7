/- 'laws.FnExactLatest' returns true for every rule and numbers, and leaves the rule as it was. Conditions: none. -/
import Derived.Test.YtalapefcbodhaaaAct
import Derived.Test.YtalapefcbodhaaaRows
import Derived.WalkKit
import Derived.ProofKit
import Derived.OpenShut
import Derived.ShutString
import Derived.ChangeOld
import Derived.Below
import Derived.SizedLaws
namespace Go.Proofs.Ytalapefcbodhaaa.Am
set_option linter.unusedVariables false
set_option linter.unusedSimpArgs false
open Go Go.Proofs Classical
set_option maxRecDepth 100000
set_option linter.unusedVariables false
set_option linter.unusedSimpArgs false
inductive i_spansOf_X0 where
  | x0 (v9 : List GSpan)
def i_spansOf_Q0 (v2 : Int) (v3 : Int) (v4_0 : List Int) (v4_1 : List Int) (v4_2 : List Int) (v4_3 : List Int) (v4_4 : List Int) (v9 : List GSpan) (v10 : Int) (v11 : Bool) : i_spansOf_X0 → Prop
  | .x0 zv9 => Loops E 26 (lpAt Try.f26 0) (stL 49 [(2, .one (tI v2)), (3, .one (tI v3)), (4, .box () [.s .far () 1 (v4_0.map etI), .s .far () 1 (v4_1.map etI), .s .far () 1 (v4_2.map etI), .s .far () 1 (v4_3.map etI), .s .far () 1 (v4_4.map etI)]), (9, .one (.s .own () 2 (v9.map GSpan.t))), (10, .one (tI v10)), (11, .one (tB v11))]) (.exit 0) (stL 49 [(9, .one (.s .own () 2 (zv9.map GSpan.t)))])
theorem i_spansOf_R0_0 (v2 : Int) (v3 : Int) (v4_0 : List Int) (v4_1 : List Int) (v4_2 : List Int) (v4_3 : List Int) (v4_4 : List Int) (v9 : List GSpan) (v10 : Int) (h0 : (decide ((v9.length : Int) < v3)) = true) (h1 : Small.sm (GCron.mk v4_0 v4_1 v4_2 v4_3 v4_4)) (h2 : cronOk (GCron.mk v4_0 v4_1 v4_2 v4_3 v4_4) = true) (h3 : (400 : Int) = 400) (h4 : ((nextFire (GCron.mk v4_0 v4_1 v4_2 v4_3 v4_4) (inc v10) (400 : Int)).2) = true) (h5 : (decide (((nextFire (GCron.mk v4_0 v4_1 v4_2 v4_3 v4_4) (inc v10) (400 : Int)).1) > v2)) = true) : Round E 26 (lpAt Try.f26 0) (stL 49 [(2, .one (tI v2)), (3, .one (tI v3)), (4, .box () [.s .far () 1 (v4_0.map etI), .s .far () 1 (v4_1.map etI), .s .far () 1 (v4_2.map etI), .s .far () 1 (v4_3.map etI), .s .far () 1 (v4_4.map etI)]), (9, .one (.s .own () 2 (v9.map GSpan.t))), (10, .one (tI v10)), (11, .one (tB true))]) (.exit 0) (stL 49 [(9, .one (.s .own () 2 (v9.map GSpan.t)))]) :=
  Round.path [.val (.int .i64 (v9.length : Int)), .b true, .ret [(false, [tI ((nextFire (GCron.mk v4_0 v4_1 v4_2 v4_3 v4_4) (inc v10) (400 : Int)).1)]), (false, [tB true])], .b true] _ (fun k => by kernel_rfl) (AV (ψ := fun _ => ((v9.map GSpan.t).length : Int) = (v9.length : Int)) (Ev.c lenMap) <| AC h0 <| AV (ψ := fun k => E.C k 40 [.agg (GCron.t .far (GCron.mk v4_0 v4_1 v4_2 v4_3 v4_4)), .one (tI (inc v10)), .one (tI (400 : Int))] = some [(false, [tI ((nextFire (GCron.mk v4_0 v4_1 v4_2 v4_3 v4_4) (inc v10) (400 : Int)).1)]), (false, [tB true])]) (Does.to (T_i_nextFire (GCron.mk v4_0 v4_1 v4_2 v4_3 v4_4) (inc v10) (400 : Int) h1 h2 h3) (by rw [h4])) <| AC h5 <| AN)
theorem i_spansOf_R0_1 (v2 : Int) (v3 : Int) (v4_0 : List Int) (v4_1 : List Int) (v4_2 : List Int) (v4_3 : List Int) (v4_4 : List Int) (v9 : List GSpan) (v10 : Int) (h0 : (decide ((v9.length : Int) < v3)) = true) (h1 : Small.sm (GCron.mk v4_0 v4_1 v4_2 v4_3 v4_4)) (h2 : cronOk (GCron.mk v4_0 v4_1 v4_2 v4_3 v4_4) = true) (h3 : (400 : Int) = 400) (h4 : ((nextFire (GCron.mk v4_0 v4_1 v4_2 v4_3 v4_4) (inc v10) (400 : Int)).2) = true) (h5 : (decide (((nextFire (GCron.mk v4_0 v4_1 v4_2 v4_3 v4_4) (inc v10) (400 : Int)).1) > v2)) = false) (h6 : (v9.length + ([(GSpan.mk v10 ((nextFire (GCron.mk v4_0 v4_1 v4_2 v4_3 v4_4) (inc v10) (400 : Int)).1))]).length) * 16 ≤ 140737488355328 ∧ v9.length + ([(GSpan.mk v10 ((nextFire (GCron.mk v4_0 v4_1 v4_2 v4_3 v4_4) (inc v10) (400 : Int)).1))]).length ≤ 4611686018427387904) : Round E 26 (lpAt Try.f26 0) (stL 49 [(2, .one (tI v2)), (3, .one (tI v3)), (4, .box () [.s .far () 1 (v4_0.map etI), .s .far () 1 (v4_1.map etI), .s .far () 1 (v4_2.map etI), .s .far () 1 (v4_3.map etI), .s .far () 1 (v4_4.map etI)]), (9, .one (.s .own () 2 (v9.map GSpan.t))), (10, .one (tI v10)), (11, .one (tB true))]) .normal (stL 49 [(2, .one (tI v2)), (3, .one (tI v3)), (4, .box () [.s .far () 1 (v4_0.map etI), .s .far () 1 (v4_1.map etI), .s .far () 1 (v4_2.map etI), .s .far () 1 (v4_3.map etI), .s .far () 1 (v4_4.map etI)]), (9, .one (.s .own () 2 ((v9 ++ ([(GSpan.mk v10 ((nextFire (GCron.mk v4_0 v4_1 v4_2 v4_3 v4_4) (inc v10) (400 : Int)).1))])).map GSpan.t))), (10, .one (tI ((nextFire (GCron.mk v4_0 v4_1 v4_2 v4_3 v4_4) (inc v10) (400 : Int)).1))), (11, .one (tB true))]) :=
  Round.path [.val (.int .i64 (v9.length : Int)), .b true, .ret [(false, [tI ((nextFire (GCron.mk v4_0 v4_1 v4_2 v4_3 v4_4) (inc v10) (400 : Int)).1)]), (false, [tB true])], .b false, .rows ((v9 ++ ([(GSpan.mk v10 ((nextFire (GCron.mk v4_0 v4_1 v4_2 v4_3 v4_4) (inc v10) (400 : Int)).1))])).map GSpan.t)] _ (fun k => by kernel_rfl) (AV (ψ := fun _ => ((v9.map GSpan.t).length : Int) = (v9.length : Int)) (Ev.c lenMap) <| AC h0 <| AV (ψ := fun k => E.C k 40 [.agg (GCron.t .far (GCron.mk v4_0 v4_1 v4_2 v4_3 v4_4)), .one (tI (inc v10)), .one (tI (400 : Int))] = some [(false, [tI ((nextFire (GCron.mk v4_0 v4_1 v4_2 v4_3 v4_4) (inc v10) (400 : Int)).1)]), (false, [tB true])]) (Does.to (T_i_nextFire (GCron.mk v4_0 v4_1 v4_2 v4_3 v4_4) (inc v10) (400 : Int) h1 h2 h3) (by rw [h4])) <| AC h5 <| AV (ψ := fun _ => (((([(GSpan.mk v10 ((nextFire (GCron.mk v4_0 v4_1 v4_2 v4_3 v4_4) (inc v10) (400 : Int)).1))]).map GSpan.t).drop 0).take (([(GSpan.mk v10 ((nextFire (GCron.mk v4_0 v4_1 v4_2 v4_3 v4_4) (inc v10) (400 : Int)).1))]).map GSpan.t).length).all (fun r => r.all T.flat) = true ∧ ((v9.map GSpan.t).length + (((([(GSpan.mk v10 ((nextFire (GCron.mk v4_0 v4_1 v4_2 v4_3 v4_4) (inc v10) (400 : Int)).1))]).map GSpan.t).drop 0).take (([(GSpan.mk v10 ((nextFire (GCron.mk v4_0 v4_1 v4_2 v4_3 v4_4) (inc v10) (400 : Int)).1))]).map GSpan.t).length).length) * 16 ≤ 140737488355328 ∧ (v9.map GSpan.t).length + (((([(GSpan.mk v10 ((nextFire (GCron.mk v4_0 v4_1 v4_2 v4_3 v4_4) (inc v10) (400 : Int)).1))]).map GSpan.t).drop 0).take (([(GSpan.mk v10 ((nextFire (GCron.mk v4_0 v4_1 v4_2 v4_3 v4_4) (inc v10) (400 : Int)).1))]).map GSpan.t).length).length ≤ 4611686018427387904) (Ev.c (by simp only [List.take_length, List.drop_zero]; exact appOk (fun x => rfl) h6)) <| AV (ψ := fun _ => (v9.map GSpan.t) ++ (((([(GSpan.mk v10 ((nextFire (GCron.mk v4_0 v4_1 v4_2 v4_3 v4_4) (inc v10) (400 : Int)).1))]).map GSpan.t).drop 0).take (([(GSpan.mk v10 ((nextFire (GCron.mk v4_0 v4_1 v4_2 v4_3 v4_4) (inc v10) (400 : Int)).1))]).map GSpan.t).length) = (v9 ++ ([(GSpan.mk v10 ((nextFire (GCron.mk v4_0 v4_1 v4_2 v4_3 v4_4) (inc v10) (400 : Int)).1))])).map GSpan.t) (Ev.c (by simp only [List.take_length, List.drop_zero]; exact appMap)) <| AN)
theorem i_spansOf_R0_2 (v2 : Int) (v3 : Int) (v4_0 : List Int) (v4_1 : List Int) (v4_2 : List Int) (v4_3 : List Int) (v4_4 : List Int) (v9 : List GSpan) (v10 : Int) (h0 : (decide ((v9.length : Int) < v3)) = true) (h1 : Small.sm (GCron.mk v4_0 v4_1 v4_2 v4_3 v4_4)) (h2 : cronOk (GCron.mk v4_0 v4_1 v4_2 v4_3 v4_4) = true) (h3 : (400 : Int) = 400) (h4 : ((nextFire (GCron.mk v4_0 v4_1 v4_2 v4_3 v4_4) (inc v10) (400 : Int)).2) = false) : Round E 26 (lpAt Try.f26 0) (stL 49 [(2, .one (tI v2)), (3, .one (tI v3)), (4, .box () [.s .far () 1 (v4_0.map etI), .s .far () 1 (v4_1.map etI), .s .far () 1 (v4_2.map etI), .s .far () 1 (v4_3.map etI), .s .far () 1 (v4_4.map etI)]), (9, .one (.s .own () 2 (v9.map GSpan.t))), (10, .one (tI v10)), (11, .one (tB true))]) (.exit 0) (stL 49 [(9, .one (.s .own () 2 (v9.map GSpan.t)))]) :=
  Round.path [.val (.int .i64 (v9.length : Int)), .b true, .ret [(false, [tI ((nextFire (GCron.mk v4_0 v4_1 v4_2 v4_3 v4_4) (inc v10) (400 : Int)).1)]), (false, [tB false])]] _ (fun k => by kernel_rfl) (AV (ψ := fun _ => ((v9.map GSpan.t).length : Int) = (v9.length : Int)) (Ev.c lenMap) <| AC h0 <| AV (ψ := fun k => E.C k 40 [.agg (GCron.t .far (GCron.mk v4_0 v4_1 v4_2 v4_3 v4_4)), .one (tI (inc v10)), .one (tI (400 : Int))] = some [(false, [tI ((nextFire (GCron.mk v4_0 v4_1 v4_2 v4_3 v4_4) (inc v10) (400 : Int)).1)]), (false, [tB false])]) (Does.to (T_i_nextFire (GCron.mk v4_0 v4_1 v4_2 v4_3 v4_4) (inc v10) (400 : Int) h1 h2 h3) (by rw [h4])) <| AN)
theorem i_spansOf_R0_3 (v2 : Int) (v3 : Int) (v4_0 : List Int) (v4_1 : List Int) (v4_2 : List Int) (v4_3 : List Int) (v4_4 : List Int) (v9 : List GSpan) (v10 : Int) (h0 : (decide ((v9.length : Int) < v3)) = false) : Round E 26 (lpAt Try.f26 0) (stL 49 [(2, .one (tI v2)), (3, .one (tI v3)), (4, .box () [.s .far () 1 (v4_0.map etI), .s .far () 1 (v4_1.map etI), .s .far () 1 (v4_2.map etI), .s .far () 1 (v4_3.map etI), .s .far () 1 (v4_4.map etI)]), (9, .one (.s .own () 2 (v9.map GSpan.t))), (10, .one (tI v10)), (11, .one (tB true))]) (.exit 0) (stL 49 [(9, .one (.s .own () 2 (v9.map GSpan.t)))]) :=
  Round.path [.val (.int .i64 (v9.length : Int)), .b false] _ (fun k => by kernel_rfl) (AV (ψ := fun _ => ((v9.map GSpan.t).length : Int) = (v9.length : Int)) (Ev.c lenMap) <| AC h0 <| AN)
theorem i_spansOf_R0_4 (v2 : Int) (v3 : Int) (v4_0 : List Int) (v4_1 : List Int) (v4_2 : List Int) (v4_3 : List Int) (v4_4 : List Int) (v9 : List GSpan) (v10 : Int)  : Round E 26 (lpAt Try.f26 0) (stL 49 [(2, .one (tI v2)), (3, .one (tI v3)), (4, .box () [.s .far () 1 (v4_0.map etI), .s .far () 1 (v4_1.map etI), .s .far () 1 (v4_2.map etI), .s .far () 1 (v4_3.map etI), .s .far () 1 (v4_4.map etI)]), (9, .one (.s .own () 2 (v9.map GSpan.t))), (10, .one (tI v10)), (11, .one (tB false))]) (.exit 0) (stL 49 [(9, .one (.s .own () 2 (v9.map GSpan.t)))]) :=
  Round.path [] _ (fun k => by kernel_rfl) AN
noncomputable def i_spansOf_l0 (v2 : Int) (v3 : Int) (v4_0 : List Int) (v4_1 : List Int) (v4_2 : List Int) (v4_3 : List Int) (v4_4 : List Int) : Nat → (List GSpan) → Int → Bool → Option i_spansOf_X0
  | 0, _, _, _ => none
  | n + 1, v9, v10, v11 => match v11 with
    | true => cond (decide ((v9.length : Int) < v3))
      (if Small.sm (GCron.mk v4_0 v4_1 v4_2 v4_3 v4_4) then if cronOk (GCron.mk v4_0 v4_1 v4_2 v4_3 v4_4) = true then if (400 : Int) = 400 then cond ((nextFire (GCron.mk v4_0 v4_1 v4_2 v4_3 v4_4) (inc v10) (400 : Int)).2)
        (cond (decide (((nextFire (GCron.mk v4_0 v4_1 v4_2 v4_3 v4_4) (inc v10) (400 : Int)).1) > v2))
          (some (.x0 v9))
          (if (v9.length + ([(GSpan.mk v10 ((nextFire (GCron.mk v4_0 v4_1 v4_2 v4_3 v4_4) (inc v10) (400 : Int)).1))]).length) * 16 ≤ 140737488355328 ∧ v9.length + ([(GSpan.mk v10 ((nextFire (GCron.mk v4_0 v4_1 v4_2 v4_3 v4_4) (inc v10) (400 : Int)).1))]).length ≤ 4611686018427387904 then i_spansOf_l0 v2 v3 v4_0 v4_1 v4_2 v4_3 v4_4 n (v9 ++ ([(GSpan.mk v10 ((nextFire (GCron.mk v4_0 v4_1 v4_2 v4_3 v4_4) (inc v10) (400 : Int)).1))])) ((nextFire (GCron.mk v4_0 v4_1 v4_2 v4_3 v4_4) (inc v10) (400 : Int)).1) true else none))
        (some (.x0 v9)) else none else none else none)
      (some (.x0 v9))
    | false => some (.x0 v9)
theorem i_spansOf_L0 (v2 : Int) (v3 : Int) (v4_0 : List Int) (v4_1 : List Int) (v4_2 : List Int) (v4_3 : List Int) (v4_4 : List Int) (n : Nat) : ∀ (v9 : List GSpan) (v10 : Int) (v11 : Bool), Ans (i_spansOf_l0 v2 v3 v4_0 v4_1 v4_2 v4_3 v4_4 n v9 v10 v11) (i_spansOf_Q0 v2 v3 v4_0 v4_1 v4_2 v4_3 v4_4 v9 v10 v11) := by
  induction n with
  | zero => intros; exact Ans.none
  | succ n ih =>
    intro v9 v10 v11
    unfold i_spansOf_l0
    cases v11 with
    | true =>
      refine Ans.ite (fun h0 => ?_) (fun h0 => ?_)
      · refine Ans.pre (fun h1 => ?_)
        refine Ans.pre (fun h2 => ?_)
        refine Ans.pre (fun h3 => ?_)
        refine Ans.ite (fun h4 => ?_) (fun h4 => ?_)
        · refine Ans.ite (fun h5 => ?_) (fun h5 => ?_)
          · exact Ans.some (Loops.stop (i_spansOf_R0_0 v2 v3 v4_0 v4_1 v4_2 v4_3 v4_4 v9 v10 h0 h1 h2 h3 h4 h5) (by intro h; cases h))
          · refine Ans.pre (fun h6 => ?_)
            exact (ih (v9 ++ ([(GSpan.mk v10 ((nextFire (GCron.mk v4_0 v4_1 v4_2 v4_3 v4_4) (inc v10) (400 : Int)).1))])) ((nextFire (GCron.mk v4_0 v4_1 v4_2 v4_3 v4_4) (inc v10) (400 : Int)).1) true).mono fun y hy => by cases y <;> exact Loops.next (i_spansOf_R0_1 v2 v3 v4_0 v4_1 v4_2 v4_3 v4_4 v9 v10 h0 h1 h2 h3 h4 h5 h6) hy
        · exact Ans.some (Loops.stop (i_spansOf_R0_2 v2 v3 v4_0 v4_1 v4_2 v4_3 v4_4 v9 v10 h0 h1 h2 h3 h4) (by intro h; cases h))
      · exact Ans.some (Loops.stop (i_spansOf_R0_3 v2 v3 v4_0 v4_1 v4_2 v4_3 v4_4 v9 v10 h0) (by intro h; cases h))
    | false =>
      exact Ans.some (Loops.stop (i_spansOf_R0_4 v2 v3 v4_0 v4_1 v4_2 v4_3 v4_4 v9 v10) (by intro h; cases h))
theorem i_spansOf_P0 (x0 : GCron) (x1 : Int) (x2 : Int) (x3 : Int) (w0_9 : List GSpan) (h0 : Small.sm x0) (h1 : cronOk x0 = true) (h2 : (400 : Int) = 400) (h3 : Loops E 26 (lpAt Try.f26 0) (stL 49 [(2, .one (tI x2)), (3, .one (tI x3)), (4, .box () [.s .far () 1 (x0.f0.map etI), .s .far () 1 (x0.f1.map etI), .s .far () 1 (x0.f2.map etI), .s .far () 1 (x0.f3.map etI), .s .far () 1 (x0.f4.map etI)]), (9, .one (.s .own () 2 (([] : List GSpan).map GSpan.t))), (10, .one (tI ((nextFire x0 x1 (400 : Int)).1))), (11, .one (tB ((nextFire x0 x1 (400 : Int)).2)))]) (.exit 0) (stL 49 [(9, .one (.s .own () 2 (w0_9.map GSpan.t)))])) : Does E 26 [.agg (GCron.t .far x0), .one (tI x1), .one (tI x2), .one (tI x3)] [(false, [.s .own () 2 (w0_9.map GSpan.t)])] :=
  Does.path (fn := Try.f26) [.ret [(false, [tI ((nextFire x0 x1 (400 : Int)).1)]), (false, [tB ((nextFire x0 x1 (400 : Int)).2)])], .lp (.exit 0) (stL 49 [(9, .one (.s .own () 2 (w0_9.map GSpan.t)))])] _ rfl (fun _ => rfl) (fun k => by kernel_rfl) (AD (T_i_nextFire x0 x1 (400 : Int) h0 h1 h2) <| AV (ψ := fun k => LoopK E 26 (lpAt Try.f26 0) (stL 49 [(2, .one (tI x2)), (3, .one (tI x3)), (4, .box () [.s .far () 1 (x0.f0.map etI), .s .far () 1 (x0.f1.map etI), .s .far () 1 (x0.f2.map etI), .s .far () 1 (x0.f3.map etI), .s .far () 1 (x0.f4.map etI)]), (9, .one (.s .own () 2 (([] : List GSpan).map GSpan.t))), (10, .one (tI ((nextFire x0 x1 (400 : Int)).1))), (11, .one (tB ((nextFire x0 x1 (400 : Int)).2)))]) (.exit 0) (stL 49 [(9, .one (.s .own () 2 (w0_9.map GSpan.t)))]) k k) (Loops.ev h3) <| AN)
noncomputable def i_spansOf_F (x0 : GCron) (x1 : Int) (x2 : Int) (x3 : Int) : Option ((List GSpan)) :=
    if Small.sm x0 then if cronOk x0 = true then if (400 : Int) = 400 then (i_spansOf_l0 x2 x3 x0.f0 x0.f1 x0.f2 x0.f3 x0.f4 9223372036854775808 ([]) ((nextFire x0 x1 (400 : Int)).1) ((nextFire x0 x1 (400 : Int)).2)).bind fun y => match y with
      | .x0 w0_9 => (some (w0_9)) else none else none else none
theorem i_spansOf_D (x0 : GCron) (x1 : Int) (x2 : Int) (x3 : Int) : Ans (i_spansOf_F x0 x1 x2 x3) (fun r => Does E 26 [.agg (GCron.t .far x0), .one (tI x1), .one (tI x2), .one (tI x3)] [(false, [.s .own () 2 (r.map GSpan.t)])]) := by
  unfold i_spansOf_F
  refine Ans.pre (fun h0 => ?_)
  refine Ans.pre (fun h1 => ?_)
  refine Ans.pre (fun h2 => ?_)
  refine Ans.bind (fun y hy => ?_)
  replace hy := i_spansOf_L0 x2 x3 x0.f0 x0.f1 x0.f2 x0.f3 x0.f4 9223372036854775808 ([]) ((nextFire x0 x1 (400 : Int)).1) ((nextFire x0 x1 (400 : Int)).2) y hy
  cases y with
  | x0 w0_9 =>
    have h3 := hy
    exact Ans.some (i_spansOf_P0 x0 x1 x2 x3 w0_9 h0 h1 h2 h3)
inductive s_l11Spans_X0 where
  | ret (v10 : List GSpan)
  | x0 (v4 : List GSpan)
def s_l11Spans_Q0 (v2 : Int) (v3 : Int) (v4 : List GSpan) (v5_0 : List Int) (v5_1 : List Int) (v5_2 : List Int) (v5_3 : List Int) (v5_4 : List Int) (v11 : Int) (v12 : Bool) : s_l11Spans_X0 → Prop
  | .ret zv10 => Loops E 27 (lpAt Try.f27 0) (stL 55 [(2, .one (tI v2)), (3, .one (tI v3)), (4, .one (.s .own () 2 (v4.map GSpan.t))), (5, .box () [.s .far () 1 (v5_0.map etI), .s .far () 1 (v5_1.map etI), .s .far () 1 (v5_2.map etI), .s .far () 1 (v5_3.map etI), .s .far () 1 (v5_4.map etI)]), (11, .one (tI v11)), (12, .one (tB v12))]) .ret (stL 55 [(10, .one (.s .own () 2 (zv10.map GSpan.t)))])
  | .x0 zv4 => Loops E 27 (lpAt Try.f27 0) (stL 55 [(2, .one (tI v2)), (3, .one (tI v3)), (4, .one (.s .own () 2 (v4.map GSpan.t))), (5, .box () [.s .far () 1 (v5_0.map etI), .s .far () 1 (v5_1.map etI), .s .far () 1 (v5_2.map etI), .s .far () 1 (v5_3.map etI), .s .far () 1 (v5_4.map etI)]), (11, .one (tI v11)), (12, .one (tB v12))]) (.exit 0) (stL 55 [(4, .one (.s .own () 2 (zv4.map GSpan.t)))])
theorem s_l11Spans_R0_0 (v2 : Int) (v3 : Int) (v4 : List GSpan) (v5_0 : List Int) (v5_1 : List Int) (v5_2 : List Int) (v5_3 : List Int) (v5_4 : List Int) (v11 : Int) (h0 : (decide ((v4.length : Int) < v3)) = true) (h1 : (decide (v11 < (68374079 : Int))) = true) (h2 : Small.sm (GCron.mk v5_0 v5_1 v5_2 v5_3 v5_4)) (h3 : (400 : Int) = 400) (h4 : ((nextFireS (GCron.mk v5_0 v5_1 v5_2 v5_3 v5_4) (inc v11) (400 : Int)).2) = true) (h5 : (decide (((nextFireS (GCron.mk v5_0 v5_1 v5_2 v5_3 v5_4) (inc v11) (400 : Int)).1) > v2)) = true) : Round E 27 (lpAt Try.f27 0) (stL 55 [(2, .one (tI v2)), (3, .one (tI v3)), (4, .one (.s .own () 2 (v4.map GSpan.t))), (5, .box () [.s .far () 1 (v5_0.map etI), .s .far () 1 (v5_1.map etI), .s .far () 1 (v5_2.map etI), .s .far () 1 (v5_3.map etI), .s .far () 1 (v5_4.map etI)]), (11, .one (tI v11)), (12, .one (tB true))]) .ret (stL 55 [(10, .one (.s .own () 2 (v4.map GSpan.t)))]) :=
  Round.path [.val (.int .i64 (v4.length : Int)), .b true, .b true, .ret [(false, [tI ((nextFireS (GCron.mk v5_0 v5_1 v5_2 v5_3 v5_4) (inc v11) (400 : Int)).1)]), (false, [tB true])], .b true] _ (fun k => by kernel_rfl) (AV (ψ := fun _ => ((v4.map GSpan.t).length : Int) = (v4.length : Int)) (Ev.c lenMap) <| AC h0 <| AC h1 <| AV (ψ := fun k => E.C k 11 [.agg (GCron.t .far (GCron.mk v5_0 v5_1 v5_2 v5_3 v5_4)), .one (tI (inc v11)), .one (tI (400 : Int))] = some [(false, [tI ((nextFireS (GCron.mk v5_0 v5_1 v5_2 v5_3 v5_4) (inc v11) (400 : Int)).1)]), (false, [tB true])]) (Does.to (T_s_NextFire (GCron.mk v5_0 v5_1 v5_2 v5_3 v5_4) (inc v11) (400 : Int) h2 h3) (by rw [h4])) <| AC h5 <| AN)
theorem s_l11Spans_R0_1 (v2 : Int) (v3 : Int) (v4 : List GSpan) (v5_0 : List Int) (v5_1 : List Int) (v5_2 : List Int) (v5_3 : List Int) (v5_4 : List Int) (v11 : Int) (h0 : (decide ((v4.length : Int) < v3)) = true) (h1 : (decide (v11 < (68374079 : Int))) = true) (h2 : Small.sm (GCron.mk v5_0 v5_1 v5_2 v5_3 v5_4)) (h3 : (400 : Int) = 400) (h4 : ((nextFireS (GCron.mk v5_0 v5_1 v5_2 v5_3 v5_4) (inc v11) (400 : Int)).2) = true) (h5 : (decide (((nextFireS (GCron.mk v5_0 v5_1 v5_2 v5_3 v5_4) (inc v11) (400 : Int)).1) > v2)) = false) (h6 : (v4.length + ([(GSpan.mk v11 ((nextFireS (GCron.mk v5_0 v5_1 v5_2 v5_3 v5_4) (inc v11) (400 : Int)).1))]).length) * 16 ≤ 140737488355328 ∧ v4.length + ([(GSpan.mk v11 ((nextFireS (GCron.mk v5_0 v5_1 v5_2 v5_3 v5_4) (inc v11) (400 : Int)).1))]).length ≤ 4611686018427387904) : Round E 27 (lpAt Try.f27 0) (stL 55 [(2, .one (tI v2)), (3, .one (tI v3)), (4, .one (.s .own () 2 (v4.map GSpan.t))), (5, .box () [.s .far () 1 (v5_0.map etI), .s .far () 1 (v5_1.map etI), .s .far () 1 (v5_2.map etI), .s .far () 1 (v5_3.map etI), .s .far () 1 (v5_4.map etI)]), (11, .one (tI v11)), (12, .one (tB true))]) .normal (stL 55 [(2, .one (tI v2)), (3, .one (tI v3)), (4, .one (.s .own () 2 ((v4 ++ ([(GSpan.mk v11 ((nextFireS (GCron.mk v5_0 v5_1 v5_2 v5_3 v5_4) (inc v11) (400 : Int)).1))])).map GSpan.t))), (5, .box () [.s .far () 1 (v5_0.map etI), .s .far () 1 (v5_1.map etI), .s .far () 1 (v5_2.map etI), .s .far () 1 (v5_3.map etI), .s .far () 1 (v5_4.map etI)]), (11, .one (tI ((nextFireS (GCron.mk v5_0 v5_1 v5_2 v5_3 v5_4) (inc v11) (400 : Int)).1))), (12, .one (tB true))]) :=
  Round.path [.val (.int .i64 (v4.length : Int)), .b true, .b true, .ret [(false, [tI ((nextFireS (GCron.mk v5_0 v5_1 v5_2 v5_3 v5_4) (inc v11) (400 : Int)).1)]), (false, [tB true])], .b false, .rows ((v4 ++ ([(GSpan.mk v11 ((nextFireS (GCron.mk v5_0 v5_1 v5_2 v5_3 v5_4) (inc v11) (400 : Int)).1))])).map GSpan.t)] _ (fun k => by kernel_rfl) (AV (ψ := fun _ => ((v4.map GSpan.t).length : Int) = (v4.length : Int)) (Ev.c lenMap) <| AC h0 <| AC h1 <| AV (ψ := fun k => E.C k 11 [.agg (GCron.t .far (GCron.mk v5_0 v5_1 v5_2 v5_3 v5_4)), .one (tI (inc v11)), .one (tI (400 : Int))] = some [(false, [tI ((nextFireS (GCron.mk v5_0 v5_1 v5_2 v5_3 v5_4) (inc v11) (400 : Int)).1)]), (false, [tB true])]) (Does.to (T_s_NextFire (GCron.mk v5_0 v5_1 v5_2 v5_3 v5_4) (inc v11) (400 : Int) h2 h3) (by rw [h4])) <| AC h5 <| AV (ψ := fun _ => (((([(GSpan.mk v11 ((nextFireS (GCron.mk v5_0 v5_1 v5_2 v5_3 v5_4) (inc v11) (400 : Int)).1))]).map GSpan.t).drop 0).take (([(GSpan.mk v11 ((nextFireS (GCron.mk v5_0 v5_1 v5_2 v5_3 v5_4) (inc v11) (400 : Int)).1))]).map GSpan.t).length).all (fun r => r.all T.flat) = true ∧ ((v4.map GSpan.t).length + (((([(GSpan.mk v11 ((nextFireS (GCron.mk v5_0 v5_1 v5_2 v5_3 v5_4) (inc v11) (400 : Int)).1))]).map GSpan.t).drop 0).take (([(GSpan.mk v11 ((nextFireS (GCron.mk v5_0 v5_1 v5_2 v5_3 v5_4) (inc v11) (400 : Int)).1))]).map GSpan.t).length).length) * 16 ≤ 140737488355328 ∧ (v4.map GSpan.t).length + (((([(GSpan.mk v11 ((nextFireS (GCron.mk v5_0 v5_1 v5_2 v5_3 v5_4) (inc v11) (400 : Int)).1))]).map GSpan.t).drop 0).take (([(GSpan.mk v11 ((nextFireS (GCron.mk v5_0 v5_1 v5_2 v5_3 v5_4) (inc v11) (400 : Int)).1))]).map GSpan.t).length).length ≤ 4611686018427387904) (Ev.c (by simp only [List.take_length, List.drop_zero]; exact appOk (fun x => rfl) h6)) <| AV (ψ := fun _ => (v4.map GSpan.t) ++ (((([(GSpan.mk v11 ((nextFireS (GCron.mk v5_0 v5_1 v5_2 v5_3 v5_4) (inc v11) (400 : Int)).1))]).map GSpan.t).drop 0).take (([(GSpan.mk v11 ((nextFireS (GCron.mk v5_0 v5_1 v5_2 v5_3 v5_4) (inc v11) (400 : Int)).1))]).map GSpan.t).length) = (v4 ++ ([(GSpan.mk v11 ((nextFireS (GCron.mk v5_0 v5_1 v5_2 v5_3 v5_4) (inc v11) (400 : Int)).1))])).map GSpan.t) (Ev.c (by simp only [List.take_length, List.drop_zero]; exact appMap)) <| AN)
theorem s_l11Spans_R0_2 (v2 : Int) (v3 : Int) (v4 : List GSpan) (v5_0 : List Int) (v5_1 : List Int) (v5_2 : List Int) (v5_3 : List Int) (v5_4 : List Int) (v11 : Int) (h0 : (decide ((v4.length : Int) < v3)) = true) (h1 : (decide (v11 < (68374079 : Int))) = true) (h2 : Small.sm (GCron.mk v5_0 v5_1 v5_2 v5_3 v5_4)) (h3 : (400 : Int) = 400) (h4 : ((nextFireS (GCron.mk v5_0 v5_1 v5_2 v5_3 v5_4) (inc v11) (400 : Int)).2) = false) : Round E 27 (lpAt Try.f27 0) (stL 55 [(2, .one (tI v2)), (3, .one (tI v3)), (4, .one (.s .own () 2 (v4.map GSpan.t))), (5, .box () [.s .far () 1 (v5_0.map etI), .s .far () 1 (v5_1.map etI), .s .far () 1 (v5_2.map etI), .s .far () 1 (v5_3.map etI), .s .far () 1 (v5_4.map etI)]), (11, .one (tI v11)), (12, .one (tB true))]) .ret (stL 55 [(10, .one (.s .own () 2 (v4.map GSpan.t)))]) :=
  Round.path [.val (.int .i64 (v4.length : Int)), .b true, .b true, .ret [(false, [tI ((nextFireS (GCron.mk v5_0 v5_1 v5_2 v5_3 v5_4) (inc v11) (400 : Int)).1)]), (false, [tB false])]] _ (fun k => by kernel_rfl) (AV (ψ := fun _ => ((v4.map GSpan.t).length : Int) = (v4.length : Int)) (Ev.c lenMap) <| AC h0 <| AC h1 <| AV (ψ := fun k => E.C k 11 [.agg (GCron.t .far (GCron.mk v5_0 v5_1 v5_2 v5_3 v5_4)), .one (tI (inc v11)), .one (tI (400 : Int))] = some [(false, [tI ((nextFireS (GCron.mk v5_0 v5_1 v5_2 v5_3 v5_4) (inc v11) (400 : Int)).1)]), (false, [tB false])]) (Does.to (T_s_NextFire (GCron.mk v5_0 v5_1 v5_2 v5_3 v5_4) (inc v11) (400 : Int) h2 h3) (by rw [h4])) <| AN)
theorem s_l11Spans_R0_3 (v2 : Int) (v3 : Int) (v4 : List GSpan) (v5_0 : List Int) (v5_1 : List Int) (v5_2 : List Int) (v5_3 : List Int) (v5_4 : List Int) (v11 : Int) (h0 : (decide ((v4.length : Int) < v3)) = true) (h1 : (decide (v11 < (68374079 : Int))) = false) : Round E 27 (lpAt Try.f27 0) (stL 55 [(2, .one (tI v2)), (3, .one (tI v3)), (4, .one (.s .own () 2 (v4.map GSpan.t))), (5, .box () [.s .far () 1 (v5_0.map etI), .s .far () 1 (v5_1.map etI), .s .far () 1 (v5_2.map etI), .s .far () 1 (v5_3.map etI), .s .far () 1 (v5_4.map etI)]), (11, .one (tI v11)), (12, .one (tB true))]) (.exit 0) (stL 55 [(4, .one (.s .own () 2 (v4.map GSpan.t)))]) :=
  Round.path [.val (.int .i64 (v4.length : Int)), .b true, .b false] _ (fun k => by kernel_rfl) (AV (ψ := fun _ => ((v4.map GSpan.t).length : Int) = (v4.length : Int)) (Ev.c lenMap) <| AC h0 <| AC h1 <| AN)
theorem s_l11Spans_R0_4 (v2 : Int) (v3 : Int) (v4 : List GSpan) (v5_0 : List Int) (v5_1 : List Int) (v5_2 : List Int) (v5_3 : List Int) (v5_4 : List Int) (v11 : Int) (h0 : (decide ((v4.length : Int) < v3)) = false) : Round E 27 (lpAt Try.f27 0) (stL 55 [(2, .one (tI v2)), (3, .one (tI v3)), (4, .one (.s .own () 2 (v4.map GSpan.t))), (5, .box () [.s .far () 1 (v5_0.map etI), .s .far () 1 (v5_1.map etI), .s .far () 1 (v5_2.map etI), .s .far () 1 (v5_3.map etI), .s .far () 1 (v5_4.map etI)]), (11, .one (tI v11)), (12, .one (tB true))]) (.exit 0) (stL 55 [(4, .one (.s .own () 2 (v4.map GSpan.t)))]) :=
  Round.path [.val (.int .i64 (v4.length : Int)), .b false] _ (fun k => by kernel_rfl) (AV (ψ := fun _ => ((v4.map GSpan.t).length : Int) = (v4.length : Int)) (Ev.c lenMap) <| AC h0 <| AN)
theorem s_l11Spans_R0_5 (v2 : Int) (v3 : Int) (v4 : List GSpan) (v5_0 : List Int) (v5_1 : List Int) (v5_2 : List Int) (v5_3 : List Int) (v5_4 : List Int) (v11 : Int)  : Round E 27 (lpAt Try.f27 0) (stL 55 [(2, .one (tI v2)), (3, .one (tI v3)), (4, .one (.s .own () 2 (v4.map GSpan.t))), (5, .box () [.s .far () 1 (v5_0.map etI), .s .far () 1 (v5_1.map etI), .s .far () 1 (v5_2.map etI), .s .far () 1 (v5_3.map etI), .s .far () 1 (v5_4.map etI)]), (11, .one (tI v11)), (12, .one (tB false))]) (.exit 0) (stL 55 [(4, .one (.s .own () 2 (v4.map GSpan.t)))]) :=
  Round.path [] _ (fun k => by kernel_rfl) AN
noncomputable def s_l11Spans_l0 (v2 : Int) (v3 : Int) (v5_0 : List Int) (v5_1 : List Int) (v5_2 : List Int) (v5_3 : List Int) (v5_4 : List Int) : Nat → (List GSpan) → Int → Bool → Option s_l11Spans_X0
  | 0, _, _, _ => none
  | n + 1, v4, v11, v12 => match v12 with
    | true => cond (decide ((v4.length : Int) < v3))
      (cond (decide (v11 < (68374079 : Int)))
        (if Small.sm (GCron.mk v5_0 v5_1 v5_2 v5_3 v5_4) then if (400 : Int) = 400 then cond ((nextFireS (GCron.mk v5_0 v5_1 v5_2 v5_3 v5_4) (inc v11) (400 : Int)).2)
          (cond (decide (((nextFireS (GCron.mk v5_0 v5_1 v5_2 v5_3 v5_4) (inc v11) (400 : Int)).1) > v2))
            (some (.ret v4))
            (if (v4.length + ([(GSpan.mk v11 ((nextFireS (GCron.mk v5_0 v5_1 v5_2 v5_3 v5_4) (inc v11) (400 : Int)).1))]).length) * 16 ≤ 140737488355328 ∧ v4.length + ([(GSpan.mk v11 ((nextFireS (GCron.mk v5_0 v5_1 v5_2 v5_3 v5_4) (inc v11) (400 : Int)).1))]).length ≤ 4611686018427387904 then s_l11Spans_l0 v2 v3 v5_0 v5_1 v5_2 v5_3 v5_4 n (v4 ++ ([(GSpan.mk v11 ((nextFireS (GCron.mk v5_0 v5_1 v5_2 v5_3 v5_4) (inc v11) (400 : Int)).1))])) ((nextFireS (GCron.mk v5_0 v5_1 v5_2 v5_3 v5_4) (inc v11) (400 : Int)).1) true else none))
          (some (.ret v4)) else none else none)
        (some (.x0 v4)))
      (some (.x0 v4))
    | false => some (.x0 v4)
theorem s_l11Spans_L0 (v2 : Int) (v3 : Int) (v5_0 : List Int) (v5_1 : List Int) (v5_2 : List Int) (v5_3 : List Int) (v5_4 : List Int) (n : Nat) : ∀ (v4 : List GSpan) (v11 : Int) (v12 : Bool), Ans (s_l11Spans_l0 v2 v3 v5_0 v5_1 v5_2 v5_3 v5_4 n v4 v11 v12) (s_l11Spans_Q0 v2 v3 v4 v5_0 v5_1 v5_2 v5_3 v5_4 v11 v12) := by
  induction n with
  | zero => intros; exact Ans.none
  | succ n ih =>
    intro v4 v11 v12
    unfold s_l11Spans_l0
    cases v12 with
    | true =>
      refine Ans.ite (fun h0 => ?_) (fun h0 => ?_)
      · refine Ans.ite (fun h1 => ?_) (fun h1 => ?_)
        · refine Ans.pre (fun h2 => ?_)
          refine Ans.pre (fun h3 => ?_)
          refine Ans.ite (fun h4 => ?_) (fun h4 => ?_)
          · refine Ans.ite (fun h5 => ?_) (fun h5 => ?_)
            · exact Ans.some (Loops.stop (s_l11Spans_R0_0 v2 v3 v4 v5_0 v5_1 v5_2 v5_3 v5_4 v11 h0 h1 h2 h3 h4 h5) (by intro h; cases h))
            · refine Ans.pre (fun h6 => ?_)
              exact (ih (v4 ++ ([(GSpan.mk v11 ((nextFireS (GCron.mk v5_0 v5_1 v5_2 v5_3 v5_4) (inc v11) (400 : Int)).1))])) ((nextFireS (GCron.mk v5_0 v5_1 v5_2 v5_3 v5_4) (inc v11) (400 : Int)).1) true).mono fun y hy => by cases y <;> exact Loops.next (s_l11Spans_R0_1 v2 v3 v4 v5_0 v5_1 v5_2 v5_3 v5_4 v11 h0 h1 h2 h3 h4 h5 h6) hy
          · exact Ans.some (Loops.stop (s_l11Spans_R0_2 v2 v3 v4 v5_0 v5_1 v5_2 v5_3 v5_4 v11 h0 h1 h2 h3 h4) (by intro h; cases h))
        · exact Ans.some (Loops.stop (s_l11Spans_R0_3 v2 v3 v4 v5_0 v5_1 v5_2 v5_3 v5_4 v11 h0 h1) (by intro h; cases h))
      · exact Ans.some (Loops.stop (s_l11Spans_R0_4 v2 v3 v4 v5_0 v5_1 v5_2 v5_3 v5_4 v11 h0) (by intro h; cases h))
    | false =>
      exact Ans.some (Loops.stop (s_l11Spans_R0_5 v2 v3 v4 v5_0 v5_1 v5_2 v5_3 v5_4 v11) (by intro h; cases h))
theorem s_l11Spans_P0 (x0 : GCron) (x1 : Int) (x2 : Int) (x3 : Int) (x4 : List GSpan) (w0_10 : List GSpan) (h0 : Small.sm x0) (h1 : (400 : Int) = 400) (h2 : Loops E 27 (lpAt Try.f27 0) (stL 55 [(2, .one (tI x2)), (3, .one (tI x3)), (4, .one (.s .own () 2 (x4.map GSpan.t))), (5, .box () [.s .far () 1 (x0.f0.map etI), .s .far () 1 (x0.f1.map etI), .s .far () 1 (x0.f2.map etI), .s .far () 1 (x0.f3.map etI), .s .far () 1 (x0.f4.map etI)]), (11, .one (tI ((nextFireS x0 x1 (400 : Int)).1))), (12, .one (tB ((nextFireS x0 x1 (400 : Int)).2)))]) .ret (stL 55 [(10, .one (.s .own () 2 (w0_10.map GSpan.t)))])) : Does E 27 [.agg (GCron.t .far x0), .one (tI x1), .one (tI x2), .one (tI x3), .one (.s .own () 2 (x4.map GSpan.t))] [(false, [.any]), (false, [.s .own () 2 (w0_10.map GSpan.t)])] :=
  Does.path (fn := Try.f27) [.ret [(false, [tI ((nextFireS x0 x1 (400 : Int)).1)]), (false, [tB ((nextFireS x0 x1 (400 : Int)).2)])], .lp .ret (stL 55 [(10, .one (.s .own () 2 (w0_10.map GSpan.t)))])] _ rfl (fun _ => rfl) (fun k => by kernel_rfl) (AD (T_s_NextFire x0 x1 (400 : Int) h0 h1) <| AV (ψ := fun k => LoopK E 27 (lpAt Try.f27 0) (stL 55 [(2, .one (tI x2)), (3, .one (tI x3)), (4, .one (.s .own () 2 (x4.map GSpan.t))), (5, .box () [.s .far () 1 (x0.f0.map etI), .s .far () 1 (x0.f1.map etI), .s .far () 1 (x0.f2.map etI), .s .far () 1 (x0.f3.map etI), .s .far () 1 (x0.f4.map etI)]), (11, .one (tI ((nextFireS x0 x1 (400 : Int)).1))), (12, .one (tB ((nextFireS x0 x1 (400 : Int)).2)))]) .ret (stL 55 [(10, .one (.s .own () 2 (w0_10.map GSpan.t)))]) k k) (Loops.ev h2) <| AN)
theorem s_l11Spans_P1 (x0 : GCron) (x1 : Int) (x2 : Int) (x3 : Int) (x4 : List GSpan) (w0_4 : List GSpan) (h0 : Small.sm x0) (h1 : (400 : Int) = 400) (h2 : Loops E 27 (lpAt Try.f27 0) (stL 55 [(2, .one (tI x2)), (3, .one (tI x3)), (4, .one (.s .own () 2 (x4.map GSpan.t))), (5, .box () [.s .far () 1 (x0.f0.map etI), .s .far () 1 (x0.f1.map etI), .s .far () 1 (x0.f2.map etI), .s .far () 1 (x0.f3.map etI), .s .far () 1 (x0.f4.map etI)]), (11, .one (tI ((nextFireS x0 x1 (400 : Int)).1))), (12, .one (tB ((nextFireS x0 x1 (400 : Int)).2)))]) (.exit 0) (stL 55 [(4, .one (.s .own () 2 (w0_4.map GSpan.t)))])) : Does E 27 [.agg (GCron.t .far x0), .one (tI x1), .one (tI x2), .one (tI x3), .one (.s .own () 2 (x4.map GSpan.t))] [(false, [.any]), (false, [.s .own () 2 (w0_4.map GSpan.t)])] :=
  Does.path (fn := Try.f27) [.ret [(false, [tI ((nextFireS x0 x1 (400 : Int)).1)]), (false, [tB ((nextFireS x0 x1 (400 : Int)).2)])], .lp (.exit 0) (stL 55 [(4, .one (.s .own () 2 (w0_4.map GSpan.t)))])] _ rfl (fun _ => rfl) (fun k => by kernel_rfl) (AD (T_s_NextFire x0 x1 (400 : Int) h0 h1) <| AV (ψ := fun k => LoopK E 27 (lpAt Try.f27 0) (stL 55 [(2, .one (tI x2)), (3, .one (tI x3)), (4, .one (.s .own () 2 (x4.map GSpan.t))), (5, .box () [.s .far () 1 (x0.f0.map etI), .s .far () 1 (x0.f1.map etI), .s .far () 1 (x0.f2.map etI), .s .far () 1 (x0.f3.map etI), .s .far () 1 (x0.f4.map etI)]), (11, .one (tI ((nextFireS x0 x1 (400 : Int)).1))), (12, .one (tB ((nextFireS x0 x1 (400 : Int)).2)))]) (.exit 0) (stL 55 [(4, .one (.s .own () 2 (w0_4.map GSpan.t)))]) k k) (Loops.ev h2) <| AN)
noncomputable def s_l11Spans_F (x0 : GCron) (x1 : Int) (x2 : Int) (x3 : Int) (x4 : List GSpan) : Option ((List GSpan)) :=
    if Small.sm x0 then if (400 : Int) = 400 then (s_l11Spans_l0 x2 x3 x0.f0 x0.f1 x0.f2 x0.f3 x0.f4 9223372036854775808 x4 ((nextFireS x0 x1 (400 : Int)).1) ((nextFireS x0 x1 (400 : Int)).2)).bind fun y => match y with
      | .ret w0_10 => (some (w0_10))
      | .x0 w0_4 => (some (w0_4)) else none else none
theorem s_l11Spans_D (x0 : GCron) (x1 : Int) (x2 : Int) (x3 : Int) (x4 : List GSpan) : Ans (s_l11Spans_F x0 x1 x2 x3 x4) (fun r => Does E 27 [.agg (GCron.t .far x0), .one (tI x1), .one (tI x2), .one (tI x3), .one (.s .own () 2 (x4.map GSpan.t))] [(false, [.any]), (false, [.s .own () 2 (r.map GSpan.t)])]) := by
  unfold s_l11Spans_F
  refine Ans.pre (fun h0 => ?_)
  refine Ans.pre (fun h1 => ?_)
  refine Ans.bind (fun y hy => ?_)
  replace hy := s_l11Spans_L0 x2 x3 x0.f0 x0.f1 x0.f2 x0.f3 x0.f4 9223372036854775808 x4 ((nextFireS x0 x1 (400 : Int)).1) ((nextFireS x0 x1 (400 : Int)).2) y hy
  cases y with
  | ret w0_10 =>
    have h2 := hy
    exact Ans.some (s_l11Spans_P0 x0 x1 x2 x3 x4 w0_10 h0 h1 h2)
  | x0 w0_4 =>
    have h2 := hy
    exact Ans.some (s_l11Spans_P1 x0 x1 x2 x3 x4 w0_4 h0 h1 h2)
noncomputable def spansL (c : GCron) (upto most : Int) : Nat → List GSpan → Int → Bool → List GSpan
  | 0, out, _, _ => out
  | n + 1, out, at_, ok =>
    if ok = true ∧ (out.length : Int) < most then
      if (nextFire c (inc at_) 400).2 = true ∧ ¬ (nextFire c (inc at_) 400).1 > upto then spansL c upto most n (out ++ [⟨at_, (nextFire c (inc at_) 400).1⟩]) (nextFire c (inc at_) 400).1 true else out
    else out
noncomputable def spansOf (c : GCron) (from_ upto most : Int) : List GSpan := spansL c upto most 201 [] (nextFire c from_ 400).1 (nextFire c from_ 400).2
noncomputable def l11Spans (c : GCron) (from_ upto most : Int) (out : List GSpan) : List GSpan := if cronOk c = true then spansOf c from_ upto most else []
theorem firstM_spec {d f h m : Int} : ∀ {mins : List Int}, firstM d f h mins = some m → ∃ x ∈ mins, m = d * 1440 + h * 60 + x ∧ f ≤ m
  | mins, e => by
    unfold firstM at e
    have h1 := List.mem_of_find?_eq_some e
    have h2 := List.find?_some e
    obtain ⟨x, hx, rfl⟩ := List.mem_map.1 h1
    exact ⟨x, hx, rfl, of_decide_eq_true h2⟩
theorem firstH_spec {d f m : Int} {hours mins : List Int} (e : firstH d f hours mins = some m) : ∃ h ∈ hours, ∃ x ∈ mins, m = d * 1440 + h * 60 + x ∧ f ≤ m := by
  unfold firstH at e
  obtain ⟨h, h1, h2⟩ := List.exists_of_findSome?_eq_some e
  obtain ⟨x, h3, h4⟩ := firstM_spec h2
  exact ⟨h, h1, x, h3, h4⟩
theorem fireD_spec {c : GCron} {f m : Int} : ∀ (n : Nat) (d : Int), fireD c f n d = some m → ∃ d', d ≤ d' ∧ d' * 1440 ≤ 68374079 ∧ dayOk c (d' * 1440) = true ∧ ∃ h ∈ c.f1, ∃ x ∈ c.f0, m = d' * 1440 + h * 60 + x ∧ f ≤ m
  | 0, d, e => by cases e
  | n + 1, d, e => by
    unfold fireD at e
    split at e
    case isFalse => cases e
    rename_i hd
    split at e
    · rename_i hk
      split at e
      · rename_i m' hm
        cases e
        obtain ⟨h, h1, x, h2, h3, h4⟩ := firstH_spec hm
        exact ⟨d, Int.le_refl _, hd, hk, h, h1, x, h2, h3, by omega⟩
      · obtain ⟨d', h1, h2⟩ := fireD_spec n (d + 1) e
        exact ⟨d', by omega, h2⟩
    · obtain ⟨d', h1, h2⟩ := fireD_spec n (d + 1) e
      exact ⟨d', by omega, h2⟩
theorem nextFire_spec {c : GCron} (hc : cronOk c = true) {f : Int} (e : (nextFire c f 400).2 = true) : f ≤ (nextFire c f 400).1 ∧ (nextFire c f 400).1 ≤ 68374079 ∧ 0 ≤ f := by
  unfold nextFire at e ⊢
  split at e
  · rename_i hm
    rw [if_pos hm]
    split at e
    · rename_i m hk
      obtain ⟨d', h1, h2, h3, h, h4, x, h5, h6, h7⟩ := fireD_spec _ _ hk
      obtain ⟨q1, q2⟩ := cron_hours hc
      have q3 := q1 x h5
      have q4 := q2 h h4
      have q5 := (inRange_iff.1 hm).1
      exact ⟨h7, by simp only; omega, q5⟩
    · cases e
  · cases e
theorem next_big {c : GCron} {a : Int} (h : ¬ a < 68374079) (h2 : a ≤ 68374079) : (nextFire c (inc a) 400).2 = false := by
  have : a = 68374079 := by omega
  subst this
  rfl
theorem spans_i (c : GCron) (upto most : Int) (h : Small.sm c) (hc : cronOk c = true) (hm : most ≤ 200) : ∀ (m n : Nat) (out : List GSpan) (a : Int) (ok : Bool), 201 ≤ m + out.length → m < n →
    i_spansOf_l0 upto most c.f0 c.f1 c.f2 c.f3 c.f4 n out a ok = some (.x0 (spansL c upto most m out a ok))
  | m, 0, out, a, ok, _, hn => by omega
  | 0, n + 1, out, a, ok, ho, _ => by
    unfold i_spansOf_l0 spansL
    cases ok with
    | false => rfl
    | true => simp only; rw [decide_eq_false (by omega)]; rfl
  | m + 1, n + 1, out, a, ok, ho, hn => by
    have sm : Small.sm (GCron.mk c.f0 c.f1 c.f2 c.f3 c.f4) := h
    have hc' : cronOk (GCron.mk c.f0 c.f1 c.f2 c.f3 c.f4) = true := hc
    have ih := fun out a => spans_i c upto most h hc hm m n out a true
    have ec : GCron.mk c.f0 c.f1 c.f2 c.f3 c.f4 = c := rfl
    unfold i_spansOf_l0 spansL
    cases ok with
    | false => simp
    | true =>
      simp only [if_pos sm, if_pos hc', true_and, if_true]
      rw [ec]
      by_cases q : (out.length : Int) < most
      · rw [decide_eq_true q, if_pos q, cond_true]
        cases (nextFire c (inc a) 400).2 with
        | false => simp
        | true =>
          by_cases r : (nextFire c (inc a) 400).1 > upto
          · rw [decide_eq_true r]; simp [r]
          · have hl : (out.length + ([(GSpan.mk a (nextFire c (inc a) 400).1)]).length) * 16 ≤ 140737488355328 ∧ out.length + ([(GSpan.mk a (nextFire c (inc a) 400).1)]).length ≤ 4611686018427387904 := by simp; omega
            rw [decide_eq_false r, cond_true, cond_false, if_pos hl, if_pos (⟨rfl, r⟩ : true = true ∧ ¬ (nextFire c (inc a) 400).1 > upto)]
            exact ih _ _ (by simp; omega) (by omega)
      · rw [decide_eq_false q, if_neg q]; rfl
theorem spans_s (c : GCron) (upto most : Int) (h : Small.sm c) (hc : cronOk c = true) (hm : most ≤ 200) : ∀ (m n : Nat) (out : List GSpan) (a : Int) (ok : Bool), 201 ≤ m + out.length → m < n → (ok = true → a ≤ 68374079) →
    ∃ r, s_l11Spans_l0 upto most c.f0 c.f1 c.f2 c.f3 c.f4 n out a ok = some r ∧ (r = .ret (spansL c upto most m out a ok) ∨ r = .x0 (spansL c upto most m out a ok))
  | m, 0, out, a, ok, _, hn, _ => by omega
  | 0, n + 1, out, a, ok, ho, _, _ => by
    unfold s_l11Spans_l0 spansL
    cases ok with
    | false => exact ⟨_, rfl, .inr rfl⟩
    | true => simp only; rw [decide_eq_false (by omega)]; exact ⟨_, rfl, .inr rfl⟩
  | m + 1, n + 1, out, a, ok, ho, hn, ha => by
    have sm : Small.sm (GCron.mk c.f0 c.f1 c.f2 c.f3 c.f4) := h
    have ih := fun out a => spans_s c upto most h hc hm m n out a true
    have hS : nextFireS c (inc a) 400 = nextFire c (inc a) 400 := by unfold nextFireS; rw [if_pos hc]
    have ec : GCron.mk c.f0 c.f1 c.f2 c.f3 c.f4 = c := rfl
    unfold s_l11Spans_l0 spansL
    cases ok with
    | false => exact ⟨_, rfl, .inr (by simp)⟩
    | true =>
      simp only [if_pos sm, true_and, if_true]
      rw [ec, hS]
      by_cases q : (out.length : Int) < most
      · rw [decide_eq_true q, if_pos q, cond_true]
        by_cases z : a < 68374079
        · rw [decide_eq_true z, cond_true]
          cases hk : (nextFire c (inc a) 400).2 with
          | false => exact ⟨_, rfl, .inl (by simp)⟩
          | true =>
            by_cases r : (nextFire c (inc a) 400).1 > upto
            · rw [decide_eq_true r]; exact ⟨_, rfl, .inl (by simp [r])⟩
            · have hl : (out.length + ([(GSpan.mk a (nextFire c (inc a) 400).1)]).length) * 16 ≤ 140737488355328 ∧ out.length + ([(GSpan.mk a (nextFire c (inc a) 400).1)]).length ≤ 4611686018427387904 := by simp; omega
              rw [decide_eq_false r, cond_true, cond_false, if_pos hl, if_pos (⟨rfl, r⟩ : true = true ∧ ¬ (nextFire c (inc a) 400).1 > upto)]
              exact ih _ _ (by simp; omega) (by omega) fun _ => (nextFire_spec hc hk).2.1
        · rw [decide_eq_false z, cond_false, next_big z (ha rfl)]
          exact ⟨_, rfl, .inr (by simp)⟩
      · rw [decide_eq_false q, if_neg q]; exact ⟨_, rfl, .inr rfl⟩
theorem l11_ok (c : GCron) (from_ upto most : Int) (h : Small.sm c) (hm : most ≤ 200) : s_l11Spans_F c from_ upto most [] = some (l11Spans c from_ upto most []) := by
  unfold s_l11Spans_F
  simp only [if_pos h, if_true]
  have key : ∃ r, s_l11Spans_l0 upto most c.f0 c.f1 c.f2 c.f3 c.f4 9223372036854775808 [] (nextFireS c from_ 400).1 (nextFireS c from_ 400).2 = some r ∧ (r = .ret (l11Spans c from_ upto most []) ∨ r = .x0 (l11Spans c from_ upto most [])) := by
    unfold l11Spans nextFireS
    cases hc : cronOk c with
    | false =>
      simp only [Bool.false_eq_true, if_false]
      unfold s_l11Spans_l0
      exact ⟨_, rfl, .inr rfl⟩
    | true =>
      simp only [if_true]
      exact spans_s c upto most h hc hm 201 9223372036854775808 [] (nextFire c from_ 400).1 (nextFire c from_ 400).2 (by simp) (by omega) fun hk => (nextFire_spec hc hk).2.1
  obtain ⟨r, h1, h2⟩ := key
  rw [h1, Option.bind_some]
  rcases h2 with rfl | rfl <;> rfl
theorem spans_len (c : GCron) (upto most : Int) (hm : most ≤ 200) : ∀ (n : Nat) (out : List GSpan) (a : Int) (ok : Bool), (out.length : Int) ≤ 200 → ((spansL c upto most n out a ok).length : Int) ≤ 200
  | 0, out, a, ok, h => h
  | n + 1, out, a, ok, h => by
    unfold spansL
    split
    · split
      · exact spans_len c upto most hm n _ _ _ (by simp; omega)
      · exact h
    · exact h
theorem T_i_spansOf (x0 : GCron) (x1 : Int) (x2 : Int) (x3 : Int) (h : Small.sm x0) (hc : cronOk x0 = true) (hm : x3 ≤ 200) : Does E 26 [.agg (GCron.t .far x0), .one (tI x1), .one (tI x2), .one (tI x3)] [(false, [.s .own () 2 ((spansOf x0 x1 x2 x3).map GSpan.t)])] := by
  exact i_spansOf_D x0 x1 x2 x3 _ (by
    unfold i_spansOf_F
    simp only [if_pos h, if_pos hc, if_true]
    rw [spans_i x0 x2 x3 h hc hm 201 9223372036854775808 [] _ _ (by simp) (by omega)]
    rfl)

theorem T_s_l11Spans (x0 : GCron) (x1 : Int) (x2 : Int) (x3 : Int) (x4 : List GSpan) (h : Small.sm x0) (hm : x3 ≤ 200) (ho : x4 = []) : Does E 27 [.agg (GCron.t .far x0), .one (tI x1), .one (tI x2), .one (tI x3), .one (.s .own () 2 (x4.map GSpan.t))] [(false, [.any]), (false, [.s .own () 2 ((l11Spans x0 x1 x2 x3 x4).map GSpan.t)])] := by
  subst ho
  exact s_l11Spans_D x0 x1 x2 x3 [] _ (l11_ok x0 x1 x2 x3 h hm)
theorem i_Latest_P0 (x0 : GCron) (x1 : Int) (x2 : Int) (h0 : Small.sm x0) (h1 : (cronOk x0) = true) (h2 : cronOk x0 = true) (h3 : (200 : Int) ≤ 200) (h4 : (((spansOf x0 x1 x2 (200 : Int)).length : Int) == (0 : Int)) = true) : Does E 18 [.agg (GCron.t .far x0), .one (tI x1), .one (tI x2)] [(true, GSpan.t (GSpan.mk (0 : Int) (0 : Int))), (false, [tB false])] :=
  Does.path (fn := Try.f18) [rT, .ret [(false, [.s .own () 2 ((spansOf x0 x1 x2 (200 : Int)).map GSpan.t)])], .val (.int .i64 ((spansOf x0 x1 x2 (200 : Int)).length : Int)), .b true] _ rfl (fun _ => rfl) (fun k => by kernel_rfl) (AD (Does.tB (T_i_CronOk x0 h0) h1) <| AD (T_i_spansOf x0 x1 x2 (200 : Int) h0 h2 h3) <| AV (ψ := fun _ => (((spansOf x0 x1 x2 (200 : Int)).map GSpan.t).length : Int) = ((spansOf x0 x1 x2 (200 : Int)).length : Int)) (Ev.c lenMap) <| AC h4 <| AN)
theorem i_Latest_P1 (x0 : GCron) (x1 : Int) (x2 : Int) (g0 : GSpan) (h0 : Small.sm x0) (h1 : (cronOk x0) = true) (h2 : cronOk x0 = true) (h3 : (200 : Int) ≤ 200) (h4 : (((spansOf x0 x1 x2 (200 : Int)).length : Int) == (0 : Int)) = false) (h5 : getI (spansOf x0 x1 x2 (200 : Int)) (IntKind.wrap .i64 (((spansOf x0 x1 x2 (200 : Int)).length : Int) - (1 : Int))) = some g0) : Does E 18 [.agg (GCron.t .far x0), .one (tI x1), .one (tI x2)] [(true, GSpan.t g0), (false, [tB true])] :=
  Does.path (fn := Try.f18) [rT, .ret [(false, [.s .own () 2 ((spansOf x0 x1 x2 (200 : Int)).map GSpan.t)])], .val (.int .i64 ((spansOf x0 x1 x2 (200 : Int)).length : Int)), .b false, .val (.int .i64 ((spansOf x0 x1 x2 (200 : Int)).length : Int)), .row (GSpan.t g0)] _ rfl (fun _ => rfl) (fun k => by kernel_rfl) (AD (Does.tB (T_i_CronOk x0 h0) h1) <| AD (T_i_spansOf x0 x1 x2 (200 : Int) h0 h2 h3) <| AV (ψ := fun _ => (((spansOf x0 x1 x2 (200 : Int)).map GSpan.t).length : Int) = ((spansOf x0 x1 x2 (200 : Int)).length : Int)) (Ev.c lenMap) <| AC h4 <| AV (ψ := fun _ => (((spansOf x0 x1 x2 (200 : Int)).map GSpan.t).length : Int) = ((spansOf x0 x1 x2 (200 : Int)).length : Int)) (Ev.c lenMap) <| AV (ψ := fun _ => 0 ≤ (IntKind.wrap .i64 (((spansOf x0 x1 x2 (200 : Int)).length : Int) - (1 : Int))) ∧ (IntKind.wrap .i64 (((spansOf x0 x1 x2 (200 : Int)).length : Int) - (1 : Int))) < (((spansOf x0 x1 x2 (200 : Int)).map GSpan.t).length : Int)) (Ev.c (getLt h5)) <| AV (ψ := fun _ => ((spansOf x0 x1 x2 (200 : Int)).map GSpan.t)[0 + (IntKind.wrap .i64 (((spansOf x0 x1 x2 (200 : Int)).length : Int) - (1 : Int))).toNat]? = some (GSpan.t g0)) (Ev.c (getRow0 h5)) <| AN)
theorem i_Latest_P2 (x0 : GCron) (x1 : Int) (x2 : Int) (h0 : Small.sm x0) (h1 : (cronOk x0) = false) : Does E 18 [.agg (GCron.t .far x0), .one (tI x1), .one (tI x2)] [(true, GSpan.t (GSpan.mk (0 : Int) (0 : Int))), (false, [tB false])] :=
  Does.path (fn := Try.f18) [rF] _ rfl (fun _ => rfl) (fun k => by kernel_rfl) (AD (Does.tB (T_i_CronOk x0 h0) h1) <| AN)
noncomputable def i_Latest_F (x0 : GCron) (x1 : Int) (x2 : Int) : Option (GSpan × Bool) :=
    if Small.sm x0 then cond (cronOk x0)
      (if cronOk x0 = true then if (200 : Int) ≤ 200 then cond (((spansOf x0 x1 x2 (200 : Int)).length : Int) == (0 : Int))
        (some ((GSpan.mk (0 : Int) (0 : Int)), false))
        ((getI (spansOf x0 x1 x2 (200 : Int)) (IntKind.wrap .i64 (((spansOf x0 x1 x2 (200 : Int)).length : Int) - (1 : Int)))).bind fun g0 => some (g0, true)) else none else none)
      (some ((GSpan.mk (0 : Int) (0 : Int)), false)) else none
theorem i_Latest_D (x0 : GCron) (x1 : Int) (x2 : Int) : Ans (i_Latest_F x0 x1 x2) (fun r => Does E 18 [.agg (GCron.t .far x0), .one (tI x1), .one (tI x2)] [(true, GSpan.t r.1), (false, [tB r.2])]) := by
  unfold i_Latest_F
  refine Ans.pre (fun h0 => ?_)
  refine Ans.ite (fun h1 => ?_) (fun h1 => ?_)
  · refine Ans.pre (fun h2 => ?_)
    refine Ans.pre (fun h3 => ?_)
    refine Ans.ite (fun h4 => ?_) (fun h4 => ?_)
    · exact Ans.some (i_Latest_P0 x0 x1 x2 h0 h1 h2 h3 h4)
    · refine Ans.bind (fun g0 h5 => ?_)
      exact Ans.some (i_Latest_P1 x0 x1 x2 g0 h0 h1 h2 h3 h4 h5)
  · exact Ans.some (i_Latest_P2 x0 x1 x2 h0 h1)
theorem s_Latest_P0 (x0 : GCron) (x1 : Int) (x2 : Int) (h0 : Small.sm x0) (h1 : (200 : Int) ≤ 200) (h2 : ([] : List GSpan) = []) (h3 : (((l11Spans x0 x1 x2 (200 : Int) ([] : List GSpan)).length : Int) == (0 : Int)) = true) : Does E 16 [.agg (GCron.t .far x0), .one (tI x1), .one (tI x2)] [(true, GSpan.t (GSpan.mk (0 : Int) (0 : Int))), (false, [tB false])] :=
  Does.path (fn := Try.f16) [.ret [(false, [.any]), (false, [.s .own () 2 ((l11Spans x0 x1 x2 (200 : Int) ([] : List GSpan)).map GSpan.t)])], .val (.int .i64 ((l11Spans x0 x1 x2 (200 : Int) ([] : List GSpan)).length : Int)), .b true] _ rfl (fun _ => rfl) (fun k => by kernel_rfl) (AV (ψ := fun k => E.C k 27 [.agg (GCron.t .far x0), .one (tI x1), .one (tI x2), .one (tI (200 : Int)), .one (.s .own () 2 (([] : List GSpan).map GSpan.t))] = some [(false, [.any]), (false, [.s .own () 2 ((l11Spans x0 x1 x2 (200 : Int) ([] : List GSpan)).map GSpan.t)])]) (T_s_l11Spans x0 x1 x2 (200 : Int) ([] : List GSpan) h0 h1 h2) <| AV (ψ := fun _ => (((l11Spans x0 x1 x2 (200 : Int) ([] : List GSpan)).map GSpan.t).length : Int) = ((l11Spans x0 x1 x2 (200 : Int) ([] : List GSpan)).length : Int)) (Ev.c lenMap) <| AC h3 <| AN)
theorem s_Latest_P1 (x0 : GCron) (x1 : Int) (x2 : Int) (g0 : GSpan) (h0 : Small.sm x0) (h1 : (200 : Int) ≤ 200) (h2 : ([] : List GSpan) = []) (h3 : (((l11Spans x0 x1 x2 (200 : Int) ([] : List GSpan)).length : Int) == (0 : Int)) = false) (h4 : getI (l11Spans x0 x1 x2 (200 : Int) ([] : List GSpan)) (IntKind.wrap .i64 (((l11Spans x0 x1 x2 (200 : Int) ([] : List GSpan)).length : Int) - (1 : Int))) = some g0) : Does E 16 [.agg (GCron.t .far x0), .one (tI x1), .one (tI x2)] [(true, GSpan.t g0), (false, [tB true])] :=
  Does.path (fn := Try.f16) [.ret [(false, [.any]), (false, [.s .own () 2 ((l11Spans x0 x1 x2 (200 : Int) ([] : List GSpan)).map GSpan.t)])], .val (.int .i64 ((l11Spans x0 x1 x2 (200 : Int) ([] : List GSpan)).length : Int)), .b false, .val (.int .i64 ((l11Spans x0 x1 x2 (200 : Int) ([] : List GSpan)).length : Int)), .row (GSpan.t g0)] _ rfl (fun _ => rfl) (fun k => by kernel_rfl) (AV (ψ := fun k => E.C k 27 [.agg (GCron.t .far x0), .one (tI x1), .one (tI x2), .one (tI (200 : Int)), .one (.s .own () 2 (([] : List GSpan).map GSpan.t))] = some [(false, [.any]), (false, [.s .own () 2 ((l11Spans x0 x1 x2 (200 : Int) ([] : List GSpan)).map GSpan.t)])]) (T_s_l11Spans x0 x1 x2 (200 : Int) ([] : List GSpan) h0 h1 h2) <| AV (ψ := fun _ => (((l11Spans x0 x1 x2 (200 : Int) ([] : List GSpan)).map GSpan.t).length : Int) = ((l11Spans x0 x1 x2 (200 : Int) ([] : List GSpan)).length : Int)) (Ev.c lenMap) <| AC h3 <| AV (ψ := fun _ => (((l11Spans x0 x1 x2 (200 : Int) ([] : List GSpan)).map GSpan.t).length : Int) = ((l11Spans x0 x1 x2 (200 : Int) ([] : List GSpan)).length : Int)) (Ev.c lenMap) <| AV (ψ := fun _ => 0 ≤ (IntKind.wrap .i64 (((l11Spans x0 x1 x2 (200 : Int) ([] : List GSpan)).length : Int) - (1 : Int))) ∧ (IntKind.wrap .i64 (((l11Spans x0 x1 x2 (200 : Int) ([] : List GSpan)).length : Int) - (1 : Int))) < (((l11Spans x0 x1 x2 (200 : Int) ([] : List GSpan)).map GSpan.t).length : Int)) (Ev.c (getLt h4)) <| AV (ψ := fun _ => ((l11Spans x0 x1 x2 (200 : Int) ([] : List GSpan)).map GSpan.t)[0 + (IntKind.wrap .i64 (((l11Spans x0 x1 x2 (200 : Int) ([] : List GSpan)).length : Int) - (1 : Int))).toNat]? = some (GSpan.t g0)) (Ev.c (getRow0 h4)) <| AN)
noncomputable def s_Latest_F (x0 : GCron) (x1 : Int) (x2 : Int) : Option (GSpan × Bool) :=
    if Small.sm x0 then if (200 : Int) ≤ 200 then if ([] : List GSpan) = [] then cond (((l11Spans x0 x1 x2 (200 : Int) ([] : List GSpan)).length : Int) == (0 : Int))
      (some ((GSpan.mk (0 : Int) (0 : Int)), false))
      ((getI (l11Spans x0 x1 x2 (200 : Int) ([] : List GSpan)) (IntKind.wrap .i64 (((l11Spans x0 x1 x2 (200 : Int) ([] : List GSpan)).length : Int) - (1 : Int)))).bind fun g0 => some (g0, true)) else none else none else none
theorem s_Latest_D (x0 : GCron) (x1 : Int) (x2 : Int) : Ans (s_Latest_F x0 x1 x2) (fun r => Does E 16 [.agg (GCron.t .far x0), .one (tI x1), .one (tI x2)] [(true, GSpan.t r.1), (false, [tB r.2])]) := by
  unfold s_Latest_F
  refine Ans.pre (fun h0 => ?_)
  refine Ans.pre (fun h1 => ?_)
  refine Ans.pre (fun h2 => ?_)
  refine Ans.ite (fun h3 => ?_) (fun h3 => ?_)
  · exact Ans.some (s_Latest_P0 x0 x1 x2 h0 h1 h2 h3)
  · refine Ans.bind (fun g0 h4 => ?_)
    exact Ans.some (s_Latest_P1 x0 x1 x2 g0 h0 h1 h2 h3 h4)
noncomputable def latest (c : GCron) (a b : Int) : GSpan × Bool := match (l11Spans c a b 200 []).getLast? with | none => (⟨0, 0⟩, false) | some s => (s, true)
theorem last_get {α : Type} (l : List α) (h : l.length ≤ 1050000) (n : (l.length : Int) ≠ 0) : getI l (IntKind.wrap .i64 ((l.length : Int) - 1)) = l.getLast? := by
  rw [wrap_id _ (by omega) (by omega)]
  have e : ((l.length : Int) - 1) = ((l.length - 1 : Nat) : Int) := by omega
  rw [e, getI_nat, List.getLast?_eq_getElem?]
theorem last_cond (l : List GSpan) (h : l.length ≤ 1050000) : (cond ((l.length : Int) == (0 : Int)) (some ((GSpan.mk (0 : Int) (0 : Int)), false)) ((getI l (IntKind.wrap .i64 ((l.length : Int) - (1 : Int)))).bind fun g0 => some (g0, true))) = some (match l.getLast? with | none => ((⟨0, 0⟩ : GSpan), false) | some s => (s, true)) := by
  by_cases q : (l.length : Int) = 0
  · have e : l = [] := List.length_eq_zero_iff.1 (by omega)
    rw [e]; rfl
  · rw [show ((l.length : Int) == 0) = false from beq_eq_false_iff_ne.2 q, cond_false, last_get _ h q]
    cases g : l.getLast? with
    | none => exact absurd (List.getLast?_eq_none_iff.1 g) (fun e => q (by rw [e]; rfl))
    | some e => rfl
theorem l11_len (c : GCron) (a b : Int) : (l11Spans c a b 200 []).length ≤ 1050000 := by
  unfold l11Spans
  split
  · have := spans_len c b 200 (by omega) 201 [] (nextFire c a 400).1 (nextFire c a 400).2 (by simp)
    unfold spansOf
    omega
  · simp
theorem T_s_Latest (x0 : GCron) (x1 : Int) (x2 : Int) (h : Small.sm x0) : Does E 16 [.agg (GCron.t .far x0), .one (tI x1), .one (tI x2)] [(true, GSpan.t ((latest x0 x1 x2).1)), (false, [tB ((latest x0 x1 x2).2)])] := by
  exact s_Latest_D x0 x1 x2 _ (by
    have e20 : (200 : Int) ≤ 200 := by omega
    unfold s_Latest_F latest
    simp only [if_pos h, e20, if_true]
    exact last_cond _ (l11_len x0 x1 x2))
theorem T_i_Latest (x0 : GCron) (x1 : Int) (x2 : Int) (h : Small.sm x0) : Does E 18 [.agg (GCron.t .far x0), .one (tI x1), .one (tI x2)] [(true, GSpan.t ((latest x0 x1 x2).1)), (false, [tB ((latest x0 x1 x2).2)])] := by
  exact i_Latest_D x0 x1 x2 _ (by
    have e20 : (200 : Int) ≤ 200 := by omega
    have hl := l11_len x0 x1 x2
    unfold i_Latest_F latest
    cases hc : cronOk x0 with
    | false =>
      have e : l11Spans x0 x1 x2 200 [] = [] := by unfold l11Spans; rw [hc]; rfl
      rw [e, if_pos h]; rfl
    | true =>
      have e : l11Spans x0 x1 x2 200 [] = spansOf x0 x1 x2 200 := by unfold l11Spans; rw [if_pos hc]
      rw [e] at hl
      rw [e]
      generalize spansOf x0 x1 x2 200 = l at hl
      simp only [if_pos h, e20, if_true, cond_true]
      exact last_cond l hl)
theorem l_FnExactLatest_P0 (x0 : GCron) (x1 : Int) (x2 : Int) (h0 : Wf.wf x0) (h1 : (decide ((p_l_szCron x0 (1048576 : Int)) < (0 : Int))) = true) : Does E 4 [.agg (GCron.t .far x0), .one (tI x1), .one (tI x2)] [(false, [tB true])] :=
  Does.path (fn := Try.f4) [.ret [(false, [tI (p_l_szCron x0 (1048576 : Int))])], .b true] _ rfl (fun _ => rfl) (fun k => by kernel_rfl) (AD (T_l_szCron x0 (1048576 : Int) h0) <| AC h1 <| AN)
theorem l_FnExactLatest_P1 (x0 : GCron) (x1 : Int) (x2 : Int) (h0 : Wf.wf x0) (h1 : (decide ((p_l_szCron x0 (1048576 : Int)) < (0 : Int))) = false) (h2 : Small.sm x0) (h3 : Small.sm (p_l_toCron x0)) (h4 : ((latest (p_l_toCron x0) x1 x2).1) = ((latest (p_l_toCron x0) x1 x2).1)) (h5 : Small.sm ((latest (p_l_toCron x0) x1 x2).1)) (h6 : (yes ((latest (p_l_toCron x0) x1 x2).1) ((latest (p_l_toCron x0) x1 x2).1)) = true) (h7 : (!(((latest (p_l_toCron x0) x1 x2).2) == ((latest (p_l_toCron x0) x1 x2).2))) = true) : Does E 4 [.agg (GCron.t .far x0), .one (tI x1), .one (tI x2)] [(false, [tB false])] :=
  Does.path (fn := Try.f4) [.ret [(false, [tI (p_l_szCron x0 (1048576 : Int))])], .b false, .ret [(true, GCron.t .own (p_l_toCron x0))], .ret [(true, GSpan.t ((latest (p_l_toCron x0) x1 x2).1)), (false, [tB ((latest (p_l_toCron x0) x1 x2).2)])], .ret [(true, GCron.t .own (p_l_toCron x0))], .ret [(true, GSpan.t ((latest (p_l_toCron x0) x1 x2).1)), (false, [tB ((latest (p_l_toCron x0) x1 x2).2)])], rT, .b true] _ rfl (fun _ => rfl) (fun k => by kernel_rfl) (AD (T_l_szCron x0 (1048576 : Int) h0) <| AC h1 <| AD (T_l_toCron x0 h2) <| AD (T_s_Latest (p_l_toCron x0) x1 x2 h3) <| AD (T_l_toCron x0 h2) <| AD (T_i_Latest (p_l_toCron x0) x1 x2 h3) <| AD (Does.tB (T_l_eqSpan ((latest (p_l_toCron x0) x1 x2).1) ((latest (p_l_toCron x0) x1 x2).1) h4 h5) h6) <| AC h7 <| AN)
theorem l_FnExactLatest_P2 (x0 : GCron) (x1 : Int) (x2 : Int) (h0 : Wf.wf x0) (h1 : (decide ((p_l_szCron x0 (1048576 : Int)) < (0 : Int))) = false) (h2 : Small.sm x0) (h3 : Small.sm (p_l_toCron x0)) (h4 : ((latest (p_l_toCron x0) x1 x2).1) = ((latest (p_l_toCron x0) x1 x2).1)) (h5 : Small.sm ((latest (p_l_toCron x0) x1 x2).1)) (h6 : (yes ((latest (p_l_toCron x0) x1 x2).1) ((latest (p_l_toCron x0) x1 x2).1)) = true) (h7 : (!(((latest (p_l_toCron x0) x1 x2).2) == ((latest (p_l_toCron x0) x1 x2).2))) = false) (h8 : (p_l_toCron x0) = (p_l_toCron x0)) (h9 : (yes (p_l_toCron x0) (p_l_toCron x0)) = true) : Does E 4 [.agg (GCron.t .far x0), .one (tI x1), .one (tI x2)] [(false, [tB true])] :=
  Does.path (fn := Try.f4) [.ret [(false, [tI (p_l_szCron x0 (1048576 : Int))])], .b false, .ret [(true, GCron.t .own (p_l_toCron x0))], .ret [(true, GSpan.t ((latest (p_l_toCron x0) x1 x2).1)), (false, [tB ((latest (p_l_toCron x0) x1 x2).2)])], .ret [(true, GCron.t .own (p_l_toCron x0))], .ret [(true, GSpan.t ((latest (p_l_toCron x0) x1 x2).1)), (false, [tB ((latest (p_l_toCron x0) x1 x2).2)])], rT, .b false, .ret [(true, GCron.t .own (p_l_toCron x0))], rT] _ rfl (fun _ => rfl) (fun k => by kernel_rfl) (AD (T_l_szCron x0 (1048576 : Int) h0) <| AC h1 <| AD (T_l_toCron x0 h2) <| AD (T_s_Latest (p_l_toCron x0) x1 x2 h3) <| AD (T_l_toCron x0 h2) <| AD (T_i_Latest (p_l_toCron x0) x1 x2 h3) <| AD (Does.tB (T_l_eqSpan ((latest (p_l_toCron x0) x1 x2).1) ((latest (p_l_toCron x0) x1 x2).1) h4 h5) h6) <| AC h7 <| AD (T_l_toCron x0 h2) <| AD (Does.tB (T_l_eqCron (p_l_toCron x0) (p_l_toCron x0) h8 h3) h9) <| AN)
theorem l_FnExactLatest_P3 (x0 : GCron) (x1 : Int) (x2 : Int) (h0 : Wf.wf x0) (h1 : (decide ((p_l_szCron x0 (1048576 : Int)) < (0 : Int))) = false) (h2 : Small.sm x0) (h3 : Small.sm (p_l_toCron x0)) (h4 : ((latest (p_l_toCron x0) x1 x2).1) = ((latest (p_l_toCron x0) x1 x2).1)) (h5 : Small.sm ((latest (p_l_toCron x0) x1 x2).1)) (h6 : (yes ((latest (p_l_toCron x0) x1 x2).1) ((latest (p_l_toCron x0) x1 x2).1)) = true) (h7 : (!(((latest (p_l_toCron x0) x1 x2).2) == ((latest (p_l_toCron x0) x1 x2).2))) = false) (h8 : (p_l_toCron x0) = (p_l_toCron x0)) (h9 : (yes (p_l_toCron x0) (p_l_toCron x0)) = false) : Does E 4 [.agg (GCron.t .far x0), .one (tI x1), .one (tI x2)] [(false, [tB false])] :=
  Does.path (fn := Try.f4) [.ret [(false, [tI (p_l_szCron x0 (1048576 : Int))])], .b false, .ret [(true, GCron.t .own (p_l_toCron x0))], .ret [(true, GSpan.t ((latest (p_l_toCron x0) x1 x2).1)), (false, [tB ((latest (p_l_toCron x0) x1 x2).2)])], .ret [(true, GCron.t .own (p_l_toCron x0))], .ret [(true, GSpan.t ((latest (p_l_toCron x0) x1 x2).1)), (false, [tB ((latest (p_l_toCron x0) x1 x2).2)])], rT, .b false, .ret [(true, GCron.t .own (p_l_toCron x0))], rF] _ rfl (fun _ => rfl) (fun k => by kernel_rfl) (AD (T_l_szCron x0 (1048576 : Int) h0) <| AC h1 <| AD (T_l_toCron x0 h2) <| AD (T_s_Latest (p_l_toCron x0) x1 x2 h3) <| AD (T_l_toCron x0 h2) <| AD (T_i_Latest (p_l_toCron x0) x1 x2 h3) <| AD (Does.tB (T_l_eqSpan ((latest (p_l_toCron x0) x1 x2).1) ((latest (p_l_toCron x0) x1 x2).1) h4 h5) h6) <| AC h7 <| AD (T_l_toCron x0 h2) <| AD (Does.tB (T_l_eqCron (p_l_toCron x0) (p_l_toCron x0) h8 h3) h9) <| AN)
theorem l_FnExactLatest_P4 (x0 : GCron) (x1 : Int) (x2 : Int) (h0 : Wf.wf x0) (h1 : (decide ((p_l_szCron x0 (1048576 : Int)) < (0 : Int))) = false) (h2 : Small.sm x0) (h3 : Small.sm (p_l_toCron x0)) (h4 : ((latest (p_l_toCron x0) x1 x2).1) = ((latest (p_l_toCron x0) x1 x2).1)) (h5 : Small.sm ((latest (p_l_toCron x0) x1 x2).1)) (h6 : (yes ((latest (p_l_toCron x0) x1 x2).1) ((latest (p_l_toCron x0) x1 x2).1)) = false) : Does E 4 [.agg (GCron.t .far x0), .one (tI x1), .one (tI x2)] [(false, [tB false])] :=
  Does.path (fn := Try.f4) [.ret [(false, [tI (p_l_szCron x0 (1048576 : Int))])], .b false, .ret [(true, GCron.t .own (p_l_toCron x0))], .ret [(true, GSpan.t ((latest (p_l_toCron x0) x1 x2).1)), (false, [tB ((latest (p_l_toCron x0) x1 x2).2)])], .ret [(true, GCron.t .own (p_l_toCron x0))], .ret [(true, GSpan.t ((latest (p_l_toCron x0) x1 x2).1)), (false, [tB ((latest (p_l_toCron x0) x1 x2).2)])], rF] _ rfl (fun _ => rfl) (fun k => by kernel_rfl) (AD (T_l_szCron x0 (1048576 : Int) h0) <| AC h1 <| AD (T_l_toCron x0 h2) <| AD (T_s_Latest (p_l_toCron x0) x1 x2 h3) <| AD (T_l_toCron x0 h2) <| AD (T_i_Latest (p_l_toCron x0) x1 x2 h3) <| AD (Does.tB (T_l_eqSpan ((latest (p_l_toCron x0) x1 x2).1) ((latest (p_l_toCron x0) x1 x2).1) h4 h5) h6) <| AN)
noncomputable def l_FnExactLatest_F (x0 : GCron) (x1 : Int) (x2 : Int) : Option (Bool) :=
    if Wf.wf x0 then cond (decide ((p_l_szCron x0 (1048576 : Int)) < (0 : Int)))
      (some (true))
      (if Small.sm x0 then if Small.sm (p_l_toCron x0) then if ((latest (p_l_toCron x0) x1 x2).1) = ((latest (p_l_toCron x0) x1 x2).1) then if Small.sm ((latest (p_l_toCron x0) x1 x2).1) then cond (yes ((latest (p_l_toCron x0) x1 x2).1) ((latest (p_l_toCron x0) x1 x2).1))
        (cond (!(((latest (p_l_toCron x0) x1 x2).2) == ((latest (p_l_toCron x0) x1 x2).2)))
          (some (false))
          (if (p_l_toCron x0) = (p_l_toCron x0) then cond (yes (p_l_toCron x0) (p_l_toCron x0))
            (some (true))
            (some (false)) else none))
        (some (false)) else none else none else none else none) else none
theorem l_FnExactLatest_D (x0 : GCron) (x1 : Int) (x2 : Int) : Ans (l_FnExactLatest_F x0 x1 x2) (fun r => Does E 4 [.agg (GCron.t .far x0), .one (tI x1), .one (tI x2)] [(false, [tB r])]) := by
  unfold l_FnExactLatest_F
  refine Ans.pre (fun h0 => ?_)
  refine Ans.ite (fun h1 => ?_) (fun h1 => ?_)
  · exact Ans.some (l_FnExactLatest_P0 x0 x1 x2 h0 h1)
  · refine Ans.pre (fun h2 => ?_)
    refine Ans.pre (fun h3 => ?_)
    refine Ans.pre (fun h4 => ?_)
    refine Ans.pre (fun h5 => ?_)
    refine Ans.ite (fun h6 => ?_) (fun h6 => ?_)
    · refine Ans.ite (fun h7 => ?_) (fun h7 => ?_)
      · exact Ans.some (l_FnExactLatest_P1 x0 x1 x2 h0 h1 h2 h3 h4 h5 h6 h7)
      · refine Ans.pre (fun h8 => ?_)
        refine Ans.ite (fun h9 => ?_) (fun h9 => ?_)
        · exact Ans.some (l_FnExactLatest_P2 x0 x1 x2 h0 h1 h2 h3 h4 h5 h6 h7 h8 h9)
        · exact Ans.some (l_FnExactLatest_P3 x0 x1 x2 h0 h1 h2 h3 h4 h5 h6 h7 h8 h9)
    · exact Ans.some (l_FnExactLatest_P4 x0 x1 x2 h0 h1 h2 h3 h4 h5 h6)
theorem T_law_Latest (x0 : GCron) (x1 : Int) (x2 : Int) (h : Wf.wf x0) : Does E 4 [.agg (GCron.t .far x0), .one (tI x1), .one (tI x2)] [(false, [tB true])] := by
  have hs := le_l_szCron x0 1048576 h (by omega) (by omega)
  exact l_FnExactLatest_D x0 x1 x2 _ (by
    unfold l_FnExactLatest_F
    refine lawPre h (lawSz fun q => ?_)
    have ht : Small.sm (p_l_toCron x0) := (hs q).2
    have hr : Small.sm (latest (p_l_toCron x0) x1 x2).1 := trivial
    simp [(hs q).2, ht, hr, yes])
end Go.Proofs.Ytalapefcbodhaaa.Am
namespace Go.Proofs.Ytalapefcbodhaaa.fnExactLatest
open Go.ChangeShapes Go.WideShapes Go.ChangeAt Go.RowKit Go.Proofs.Ytalapefcbodhaaa.Am
open Go.ChangeMaps (open_string shut_string)
set_option linter.unusedVariables false
set_option linter.unusedSimpArgs false
theorem own : ownKnob Try.prog.godebug = none := by kernel_rfl
theorem laid : laidOutB Try.prog = true := by kernel_rfl
theorem rowsOpen {α : Type} {enc : α → List (T Unit)} {B : α → Prop} : ∀ (rows : List (List DT)), (∀ r ∈ rows, ∃ x, erL r = enc x ∧ B x) → ∃ l : List α, rows.map erL = l.map enc ∧ l.length = rows.length ∧ ∀ y ∈ l, B y
  | [], _ => ⟨[], rfl, rfl, fun y h => by cases h⟩
  | r :: rs, h => by
    obtain ⟨x, h1, h2⟩ := h r (by simp)
    obtain ⟨l, g1, g2, g3⟩ := rowsOpen rs fun q hq => h q (by simp [hq])
    refine ⟨x :: l, by simp only [List.map_cons, h1, g1], by simp [g2], fun y hy => ?_⟩
    rcases List.mem_cons.1 hy with rfl | hy
    · exact h2
    · exact g3 y hy
def ty_GCron : Ty := (.struct (.cons (.slice (.int .i64)) (.cons (.slice (.int .i64)) (.cons (.slice (.int .i64)) (.cons (.slice (.int .i64)) (.cons (.slice (.int .i64)) .nil))))))
theorem open_GCron {ts : List DT} (h : Shape ty_GCron ts) : ∃ x : GCron, erL ts = GCron.t .far x ∧ Wf.wf x := by
  simp only [ty_GCron, Shape, ShapeF] at h
  obtain ⟨xs0, ys0, rfl, s0, xs1, ys1, rfl, s1, xs2, ys2, rfl, s2, xs3, ys3, rfl, s3, xs4, ys4, rfl, s4, rfl⟩ := h
  obtain ⟨d0, r0, rfl, k0, a0⟩ := s0
  obtain ⟨v0, e0, b0, c0⟩ := rowsOpen (enc := etI) (B := Wf.wf) r0 (fun r hr => (by obtain ⟨n, rfl, hn⟩ := a0 r hr; exact ⟨n, rfl, trivial⟩))
  obtain ⟨d1, r1, rfl, k1, a1⟩ := s1
  obtain ⟨v1, e1, b1, c1⟩ := rowsOpen (enc := etI) (B := Wf.wf) r1 (fun r hr => (by obtain ⟨n, rfl, hn⟩ := a1 r hr; exact ⟨n, rfl, trivial⟩))
  obtain ⟨d2, r2, rfl, k2, a2⟩ := s2
  obtain ⟨v2, e2, b2, c2⟩ := rowsOpen (enc := etI) (B := Wf.wf) r2 (fun r hr => (by obtain ⟨n, rfl, hn⟩ := a2 r hr; exact ⟨n, rfl, trivial⟩))
  obtain ⟨d3, r3, rfl, k3, a3⟩ := s3
  obtain ⟨v3, e3, b3, c3⟩ := rowsOpen (enc := etI) (B := Wf.wf) r3 (fun r hr => (by obtain ⟨n, rfl, hn⟩ := a3 r hr; exact ⟨n, rfl, trivial⟩))
  obtain ⟨d4, r4, rfl, k4, a4⟩ := s4
  obtain ⟨v4, e4, b4, c4⟩ := rowsOpen (enc := etI) (B := Wf.wf) r4 (fun r hr => (by obtain ⟨n, rfl, hn⟩ := a4 r hr; exact ⟨n, rfl, trivial⟩))
  refine ⟨⟨v0, v1, v2, v3, v4⟩, ?_, ⟨⟨by rw [b0]; exact k0, c0⟩, ⟨by rw [b1]; exact k1, c1⟩, ⟨by rw [b2]; exact k2, c2⟩, ⟨by rw [b3]; exact k3, c3⟩, ⟨by rw [b4]; exact k4, c4⟩⟩⟩
  simp only [List.map_append, List.map_cons, List.map_nil, erL, er_s, er_v, e0, e1, e2, e3, e4]
  rfl
set_option maxRecDepth 100000 in
theorem lifted (os : Os) (started : os.Started) (H : Type) (enc : TypeId × Value → H) :
    ReturnsInHanded {} Try.checked os 4 .any (Rows.fnExactLatestSpec.pre6 enc Try.prog Try.f4 Rows.fnExactLatestRow.domain false) (Rows.fnExactLatestSpec.post enc Try.prog Try.f4 false true false false) := by
  refine returnsInHanded_of_change_sized (C := Try.checked) own started (by kernel_rfl) Try.func4
    (ChangeSpec.witness6 (enc := enc) (C := Try.checked) false ⟨#[], #[.agg #[.slice none 0 0, .slice none 0 0, .slice none 0 0, .slice none 0 0, .slice none 0 0], .int .i64 0, .int .i64 0], []⟩ 8 (by kernel_rfl) (by kernel_rfl) (by kernel_rfl) (by kernel_rfl)) ?_
  intro W base args ds gs before hval0 hW hcnd hsz0 _
  have hval : ∀ (j : Nat) t v, Try.f4.params[j]? = some t → args[j]? = some v → Value.okWide Try.prog W .any base t v := hval0
  have hW' := hW
  obtain ⟨p, q, hA0, hV, rfl, hfz, hnd⟩ := hW
  have hA : DataW.TrodAll enc Try.prog W 0 (fun _ => true) true Try.f4.params.toList args.toList ds p := hA0
  rw [Try.params4] at hA hval
  have hlt := hA.lt
  obtain ⟨v0, vs0, d0, ds0, p0, q0, hargs, rfl, rfl, h0, r0⟩ := trodAll_cons hA
  obtain ⟨v1, vs1, d1, ds1, p1, q1, hargs1, rfl, rfl, h1, r1⟩ := trodAll_cons r0
  obtain ⟨v2, vs2, d2, ds2, p2, q2, hargs2, rfl, rfl, h2, r2⟩ := trodAll_cons r1
  obtain ⟨rfl, rfl, rfl⟩ := trodAll_nil r2
  obtain rfl : args = #[v0, v1, v2] := by cases args; simp_all
  obtain ⟨rfl, rfl⟩ := trodVars_none hV
  have hok0 := hval 0 40 v0 rfl rfl
  unfold Value.okWide at hok0
  rw [Try.underlying40] at hok0
  obtain ⟨cs0, rfl, _, _⟩ := hok0
  have h0k := h0
  obtain ⟨n0, h0⟩ := h0
  obtain ⟨ts0, R0, S0, L0⟩ := Ty.open ty_GCron n0 40 _ _ (by kernel_rfl) h0
  obtain ⟨x0, e0, k0⟩ := open_GCron S0
  obtain ⟨x1, rfl, rfl, rfl, k1⟩ := open_int Try.underlying3 (hval 1 3 v1 rfl rfl) h1
  obtain ⟨x2, rfl, rfl, rfl, k2⟩ := open_int Try.underlying3 (hval 2 3 v2 rfl rfl) h2
  clear hA0 hval0 hsz0
  refine (runs (T_law_Latest x0 x1 x2 k0) (ad := [.agg ts0, .one (.v (.int .i64 x1)), .one (.v (.int .i64 x2))]) (by simp only [List.map_cons, List.map_nil, Sl.er, er_v, er_s]; rw [e0]) (ArgsIn.cons (AOk.agg R0 (Shape.noLent ty_GCron _ S0)) (ArgsIn.cons (AOk.one (t := .v (.int .i64 x1)) (Reads.val rfl) rfl) (ArgsIn.cons (AOk.one (t := .v (.int .i64 x2)) (Reads.val rfl) rfl) (ArgsIn.nil W))))).mono fun e W' ⟨he, bel⟩ => ?_
  subst he
  exact ⟨_, rfl, _, _, _, [], _, [], hW', trodAll_mk1 (shut_bool Try.underlying4 _), (trodAll_cons_mk (Below.trod laid (by kernel_rfl) (of_decide_eq_true (by kernel_rfl)) h0k bel (fun x hx => hlt x (by simp [hx]))) (trodAll_cons_mk (shut_int Try.underlying3 k1) (trodAll_cons_mk (shut_int Try.underlying3 k2) trodAll_mk0))), rfl, bel.frame _, fun h => by cases h⟩
theorem over : Rows.fnExactLatestRow.holds Try.pinned (OpenSpec.ofChange Rows.fnExactLatestSpec) :=
  OpenClaim.holds_of_wide 4 Try.f4 rfl rfl rfl rfl rfl rfl rfl ⟨rfl, rfl, rfl, rfl, rfl⟩ rfl rfl rfl rfl rfl (by kernel_rfl) Try.func4 (by kernel_rfl)
    (of_decide_eq_true (by kernel_rfl)) (by unfold Func.isWrapper; first | (rw [if_pos (by decide +kernel)]; kernel_rfl) | (rw [if_neg (by decide +kernel)]; exact ⟨rfl, rfl⟩))
    (fun os started H enc _ => lifted os started H enc)
theorem proved : Rows.FnExactLatestSaid := over
end Go.Proofs.Ytalapefcbodhaaa.fnExactLatest
namespace Go.Proofs.Ytalapefcbodhaaa
theorem fnExactLatest_holds : Rows.FnExactLatestSaid := fnExactLatest.proved
end Go.Proofs.Ytalapefcbodhaaa
