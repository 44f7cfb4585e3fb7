/- Nodes. Conditions: none. -/
import Derived.Test.YtgpllfmogdpapaaNodes
namespace Go.Proofs.Ytgpllfmogdpapaa.Am
set_option linter.unusedVariables false
set_option linter.unusedSimpArgs false
open Go Go.Proofs Classical
set_option maxRecDepth 100000
set_option linter.unusedVariables false
set_option linter.unusedSimpArgs false
inductive s_ConfAt_X0 where
  | x0 (v5 : List Int)
def s_ConfAt_Q0 (v1 : Int) (v2_0 : Int) (v2_1 : Int) (v2_2 : Int) (v2_3 : Int) (v2_4 : Int) (v2_5 : List Int) (v2_6 : Int) (v2_7 : Int) (v2_8 : List GEntry) (v2_9 : Int) (v2_10 : Int) (v2_11 : Int) (v2_12 : List Int) (v2_13 : List GPeer) (v5 : List Int) (v6 : Int) : s_ConfAt_X0 → Prop
  | .x0 zv5 => Loops E 70 (lpAt Try.f70 0) (stL 53 [(1, .one (tI v1)), (2, .box () [tI v2_0, tI v2_1, tI v2_2, tI v2_3, tI v2_4, .s .far () 1 (v2_5.map etI), tI v2_6, tI v2_7, .s .far () 3 (v2_8.map GEntry.t), tI v2_9, tI v2_10, tI v2_11, .s .far () 1 (v2_12.map etI), .s .far () 4 (v2_13.map GPeer.t)]), (5, .one (.s .own () 1 (v5.map etI))), (6, .one (tI v6))]) (.exit 0) (stL 53 [(5, .one (.s .own () 1 (zv5.map etI)))])
theorem s_ConfAt_R0_0 (v1 : Int) (v2_0 : Int) (v2_1 : Int) (v2_2 : Int) (v2_3 : Int) (v2_4 : Int) (v2_5 : List Int) (v2_6 : Int) (v2_7 : Int) (v2_8 : List GEntry) (v2_9 : Int) (v2_10 : Int) (v2_11 : Int) (v2_12 : List Int) (v2_13 : List GPeer) (v5 : List Int) (v6 : Int) (g0 : GEntry) (h0 : (decide (v6 < (v2_8.length : Int))) = true) (h1 : (decide ((IntKind.wrap .i64 ((inc v2_6) + v6)) ≤ v1)) = true) (h2 : getI v2_8 v6 = some g0) (h3 : (g0.f1 == (2 : Int)) = true) (h4 : Small.sm g0.f2) (h5 : ((readConf g0.f2).2) = true) : Round E 70 (lpAt Try.f70 0) (stL 53 [(1, .one (tI v1)), (2, .box () [tI v2_0, tI v2_1, tI v2_2, tI v2_3, tI v2_4, .s .far () 1 (v2_5.map etI), tI v2_6, tI v2_7, .s .far () 3 (v2_8.map GEntry.t), tI v2_9, tI v2_10, tI v2_11, .s .far () 1 (v2_12.map etI), .s .far () 4 (v2_13.map GPeer.t)]), (5, .one (.s .own () 1 (v5.map etI))), (6, .one (tI v6))]) .normal (stL 53 [(1, .one (tI v1)), (2, .box () [tI v2_0, tI v2_1, tI v2_2, tI v2_3, tI v2_4, .s .far () 1 (v2_5.map etI), tI v2_6, tI v2_7, .s .far () 3 (v2_8.map GEntry.t), tI v2_9, tI v2_10, tI v2_11, .s .far () 1 (v2_12.map etI), .s .far () 4 (v2_13.map GPeer.t)]), (5, .one (.s .own () 1 (((readConf g0.f2).1).map etI))), (6, .one (tI (inc v6)))]) :=
  Round.path [.val (.int .i64 (v2_8.length : Int)), .b true, .no, .no, .b true, .row (GEntry.t g0), .b true, .row (GEntry.t g0), .ret [(false, [.s .own () 1 (((readConf g0.f2).1).map etI)]), (false, [tB true])]] _ (fun k => by kernel_rfl) (AV (ψ := fun _ => ((v2_8.map GEntry.t).length : Int) = (v2_8.length : Int)) (Ev.c lenMap) <| AC h0 <| AC h1 <| AV (ψ := fun _ => 0 ≤ v6 ∧ (v2_8.map GEntry.t)[v6.toNat]? = some (GEntry.t g0)) (Ev.c (getRow h2)) <| AC h3 <| AV (ψ := fun _ => 0 ≤ v6 ∧ (v2_8.map GEntry.t)[v6.toNat]? = some (GEntry.t g0)) (Ev.c (getRow h2)) <| AV (ψ := fun k => E.C k 141 [.one (tS g0.f2)] = some [(false, [.s .own () 1 (((readConf g0.f2).1).map etI)]), (false, [tB true])]) (Does.to (T_s_ReadConf g0.f2 h4) (by rw [h5])) <| AN)
theorem s_ConfAt_R0_1 (v1 : Int) (v2_0 : Int) (v2_1 : Int) (v2_2 : Int) (v2_3 : Int) (v2_4 : Int) (v2_5 : List Int) (v2_6 : Int) (v2_7 : Int) (v2_8 : List GEntry) (v2_9 : Int) (v2_10 : Int) (v2_11 : Int) (v2_12 : List Int) (v2_13 : List GPeer) (v5 : List Int) (v6 : Int) (g0 : GEntry) (h0 : (decide (v6 < (v2_8.length : Int))) = true) (h1 : (decide ((IntKind.wrap .i64 ((inc v2_6) + v6)) ≤ v1)) = true) (h2 : getI v2_8 v6 = some g0) (h3 : (g0.f1 == (2 : Int)) = true) (h4 : Small.sm g0.f2) (h5 : ((readConf g0.f2).2) = false) : Round E 70 (lpAt Try.f70 0) (stL 53 [(1, .one (tI v1)), (2, .box () [tI v2_0, tI v2_1, tI v2_2, tI v2_3, tI v2_4, .s .far () 1 (v2_5.map etI), tI v2_6, tI v2_7, .s .far () 3 (v2_8.map GEntry.t), tI v2_9, tI v2_10, tI v2_11, .s .far () 1 (v2_12.map etI), .s .far () 4 (v2_13.map GPeer.t)]), (5, .one (.s .own () 1 (v5.map etI))), (6, .one (tI v6))]) .normal (stL 53 [(1, .one (tI v1)), (2, .box () [tI v2_0, tI v2_1, tI v2_2, tI v2_3, tI v2_4, .s .far () 1 (v2_5.map etI), tI v2_6, tI v2_7, .s .far () 3 (v2_8.map GEntry.t), tI v2_9, tI v2_10, tI v2_11, .s .far () 1 (v2_12.map etI), .s .far () 4 (v2_13.map GPeer.t)]), (5, .one (.s .own () 1 (v5.map etI))), (6, .one (tI (inc v6)))]) :=
  Round.path [.val (.int .i64 (v2_8.length : Int)), .b true, .no, .no, .b true, .row (GEntry.t g0), .b true, .row (GEntry.t g0), .ret [(false, [.s .own () 1 (((readConf g0.f2).1).map etI)]), (false, [tB false])]] _ (fun k => by kernel_rfl) (AV (ψ := fun _ => ((v2_8.map GEntry.t).length : Int) = (v2_8.length : Int)) (Ev.c lenMap) <| AC h0 <| AC h1 <| AV (ψ := fun _ => 0 ≤ v6 ∧ (v2_8.map GEntry.t)[v6.toNat]? = some (GEntry.t g0)) (Ev.c (getRow h2)) <| AC h3 <| AV (ψ := fun _ => 0 ≤ v6 ∧ (v2_8.map GEntry.t)[v6.toNat]? = some (GEntry.t g0)) (Ev.c (getRow h2)) <| AV (ψ := fun k => E.C k 141 [.one (tS g0.f2)] = some [(false, [.s .own () 1 (((readConf g0.f2).1).map etI)]), (false, [tB false])]) (Does.to (T_s_ReadConf g0.f2 h4) (by rw [h5])) <| AN)
theorem s_ConfAt_R0_2 (v1 : Int) (v2_0 : Int) (v2_1 : Int) (v2_2 : Int) (v2_3 : Int) (v2_4 : Int) (v2_5 : List Int) (v2_6 : Int) (v2_7 : Int) (v2_8 : List GEntry) (v2_9 : Int) (v2_10 : Int) (v2_11 : Int) (v2_12 : List Int) (v2_13 : List GPeer) (v5 : List Int) (v6 : Int) (g0 : GEntry) (h0 : (decide (v6 < (v2_8.length : Int))) = true) (h1 : (decide ((IntKind.wrap .i64 ((inc v2_6) + v6)) ≤ v1)) = true) (h2 : getI v2_8 v6 = some g0) (h3 : (g0.f1 == (2 : Int)) = false) : Round E 70 (lpAt Try.f70 0) (stL 53 [(1, .one (tI v1)), (2, .box () [tI v2_0, tI v2_1, tI v2_2, tI v2_3, tI v2_4, .s .far () 1 (v2_5.map etI), tI v2_6, tI v2_7, .s .far () 3 (v2_8.map GEntry.t), tI v2_9, tI v2_10, tI v2_11, .s .far () 1 (v2_12.map etI), .s .far () 4 (v2_13.map GPeer.t)]), (5, .one (.s .own () 1 (v5.map etI))), (6, .one (tI v6))]) .normal (stL 53 [(1, .one (tI v1)), (2, .box () [tI v2_0, tI v2_1, tI v2_2, tI v2_3, tI v2_4, .s .far () 1 (v2_5.map etI), tI v2_6, tI v2_7, .s .far () 3 (v2_8.map GEntry.t), tI v2_9, tI v2_10, tI v2_11, .s .far () 1 (v2_12.map etI), .s .far () 4 (v2_13.map GPeer.t)]), (5, .one (.s .own () 1 (v5.map etI))), (6, .one (tI (inc v6)))]) :=
  Round.path [.val (.int .i64 (v2_8.length : Int)), .b true, .no, .no, .b true, .row (GEntry.t g0), .b false] _ (fun k => by kernel_rfl) (AV (ψ := fun _ => ((v2_8.map GEntry.t).length : Int) = (v2_8.length : Int)) (Ev.c lenMap) <| AC h0 <| AC h1 <| AV (ψ := fun _ => 0 ≤ v6 ∧ (v2_8.map GEntry.t)[v6.toNat]? = some (GEntry.t g0)) (Ev.c (getRow h2)) <| AC h3 <| AN)
theorem s_ConfAt_R0_3 (v1 : Int) (v2_0 : Int) (v2_1 : Int) (v2_2 : Int) (v2_3 : Int) (v2_4 : Int) (v2_5 : List Int) (v2_6 : Int) (v2_7 : Int) (v2_8 : List GEntry) (v2_9 : Int) (v2_10 : Int) (v2_11 : Int) (v2_12 : List Int) (v2_13 : List GPeer) (v5 : List Int) (v6 : Int) (h0 : (decide (v6 < (v2_8.length : Int))) = true) (h1 : (decide ((IntKind.wrap .i64 ((inc v2_6) + v6)) ≤ v1)) = false) : Round E 70 (lpAt Try.f70 0) (stL 53 [(1, .one (tI v1)), (2, .box () [tI v2_0, tI v2_1, tI v2_2, tI v2_3, tI v2_4, .s .far () 1 (v2_5.map etI), tI v2_6, tI v2_7, .s .far () 3 (v2_8.map GEntry.t), tI v2_9, tI v2_10, tI v2_11, .s .far () 1 (v2_12.map etI), .s .far () 4 (v2_13.map GPeer.t)]), (5, .one (.s .own () 1 (v5.map etI))), (6, .one (tI v6))]) (.exit 0) (stL 53 [(5, .one (.s .own () 1 (v5.map etI)))]) :=
  Round.path [.val (.int .i64 (v2_8.length : Int)), .b true, .no, .no, .b false] _ (fun k => by kernel_rfl) (AV (ψ := fun _ => ((v2_8.map GEntry.t).length : Int) = (v2_8.length : Int)) (Ev.c lenMap) <| AC h0 <| AC h1 <| AN)
theorem s_ConfAt_R0_4 (v1 : Int) (v2_0 : Int) (v2_1 : Int) (v2_2 : Int) (v2_3 : Int) (v2_4 : Int) (v2_5 : List Int) (v2_6 : Int) (v2_7 : Int) (v2_8 : List GEntry) (v2_9 : Int) (v2_10 : Int) (v2_11 : Int) (v2_12 : List Int) (v2_13 : List GPeer) (v5 : List Int) (v6 : Int) (h0 : (decide (v6 < (v2_8.length : Int))) = false) : Round E 70 (lpAt Try.f70 0) (stL 53 [(1, .one (tI v1)), (2, .box () [tI v2_0, tI v2_1, tI v2_2, tI v2_3, tI v2_4, .s .far () 1 (v2_5.map etI), tI v2_6, tI v2_7, .s .far () 3 (v2_8.map GEntry.t), tI v2_9, tI v2_10, tI v2_11, .s .far () 1 (v2_12.map etI), .s .far () 4 (v2_13.map GPeer.t)]), (5, .one (.s .own () 1 (v5.map etI))), (6, .one (tI v6))]) (.exit 0) (stL 53 [(5, .one (.s .own () 1 (v5.map etI)))]) :=
  Round.path [.val (.int .i64 (v2_8.length : Int)), .b false] _ (fun k => by kernel_rfl) (AV (ψ := fun _ => ((v2_8.map GEntry.t).length : Int) = (v2_8.length : Int)) (Ev.c lenMap) <| AC h0 <| AN)
noncomputable def s_ConfAt_l0 (v1 : Int) (v2_6 : Int) : List GEntry → Nat → (List Int) → Option s_ConfAt_X0
  | [], i, v5 => some (.x0 v5)
  | hd :: rest, i, v5 => cond (decide ((IntKind.wrap .i64 ((inc v2_6) + (i : Int))) ≤ v1))
    (cond (hd.f1 == (2 : Int))
      (if Small.sm hd.f2 then cond ((readConf hd.f2).2)
        (s_ConfAt_l0 v1 v2_6 rest (i + 1) ((readConf hd.f2).1))
        (s_ConfAt_l0 v1 v2_6 rest (i + 1) v5) else none)
      (s_ConfAt_l0 v1 v2_6 rest (i + 1) v5))
    (some (.x0 v5))
theorem s_ConfAt_L0 (v1 : Int) (v2_0 : Int) (v2_1 : Int) (v2_2 : Int) (v2_3 : Int) (v2_4 : Int) (v2_5 : List Int) (v2_6 : Int) (v2_7 : Int) (v2_8 : List GEntry) (v2_9 : Int) (v2_10 : Int) (v2_11 : Int) (v2_12 : List Int) (v2_13 : List GPeer) (rest : List GEntry) : ∀ (i : Nat) (v5 : List Int), (v2_8).drop i = rest → v2_8.length ≤ 9223372036854775807 → Ans (s_ConfAt_l0 v1 v2_6 rest i v5) (s_ConfAt_Q0 v1 v2_0 v2_1 v2_2 v2_3 v2_4 v2_5 v2_6 v2_7 v2_8 v2_9 v2_10 v2_11 v2_12 v2_13 v5 (i : Int)) := by
  induction rest with
  | nil =>
    intro i v5 hE hl
    have hb := foldEnd hE
    unfold s_ConfAt_l0
    exact Ans.some (Loops.stop (s_ConfAt_R0_4 v1 v2_0 v2_1 v2_2 v2_3 v2_4 v2_5 v2_6 v2_7 v2_8 v2_9 v2_10 v2_11 v2_12 v2_13 v5 (i : Int) hb) (by intro h; cases h))
  | cons hd rest ih =>
    intro i v5 hE hl
    have hb := foldMore hE
    have hw := foldNext hE hl
    have hE2 := foldRest hE
    have hg := foldGet hE
    unfold s_ConfAt_l0
    refine Ans.ite (fun h1 => ?_) (fun h1 => ?_)
    · refine Ans.ite (fun h3 => ?_) (fun h3 => ?_)
      · refine Ans.pre (fun h4 => ?_)
        refine Ans.ite (fun h5 => ?_) (fun h5 => ?_)
        · exact (ih (i + 1) ((readConf hd.f2).1) hE2 hl).mono fun y hy => by have r := s_ConfAt_R0_0 v1 v2_0 v2_1 v2_2 v2_3 v2_4 v2_5 v2_6 v2_7 v2_8 v2_9 v2_10 v2_11 v2_12 v2_13 v5 (i : Int) hd hb h1 hg h3 h4 h5; rw [hw] at r; cases y <;> exact Loops.next r hy
        · exact (ih (i + 1) v5 hE2 hl).mono fun y hy => by have r := s_ConfAt_R0_1 v1 v2_0 v2_1 v2_2 v2_3 v2_4 v2_5 v2_6 v2_7 v2_8 v2_9 v2_10 v2_11 v2_12 v2_13 v5 (i : Int) hd hb h1 hg h3 h4 h5; rw [hw] at r; cases y <;> exact Loops.next r hy
      · exact (ih (i + 1) v5 hE2 hl).mono fun y hy => by have r := s_ConfAt_R0_2 v1 v2_0 v2_1 v2_2 v2_3 v2_4 v2_5 v2_6 v2_7 v2_8 v2_9 v2_10 v2_11 v2_12 v2_13 v5 (i : Int) hd hb h1 hg h3; rw [hw] at r; cases y <;> exact Loops.next r hy
    · exact Ans.some (Loops.stop (s_ConfAt_R0_3 v1 v2_0 v2_1 v2_2 v2_3 v2_4 v2_5 v2_6 v2_7 v2_8 v2_9 v2_10 v2_11 v2_12 v2_13 v5 (i : Int) hb h1) (by intro h; cases h))
theorem s_ConfAt_P0 (x0 : GNode) (x1 : Int) (w0_5 : List Int) (h0 : (([] : List Int).length + x0.f5.length) * 8 ≤ 140737488355328 ∧ ([] : List Int).length + x0.f5.length ≤ 4611686018427387904) (h1 : Loops E 70 (lpAt Try.f70 0) (stL 53 [(1, .one (tI x1)), (2, .box () [tI x0.f0, tI x0.f1, tI x0.f2, tI x0.f3, tI x0.f4, .s .far () 1 (x0.f5.map etI), tI x0.f6.f0, tI x0.f6.f1, .s .far () 3 (x0.f6.f2.map GEntry.t), tI x0.f7, tI x0.f8, tI x0.f9, .s .far () 1 (x0.f10.map etI), .s .far () 4 (x0.f11.map GPeer.t)]), (5, .one (.s .own () 1 ((([] : List Int) ++ x0.f5).map etI))), (6, .one (tI (0 : Int)))]) (.exit 0) (stL 53 [(5, .one (.s .own () 1 (w0_5.map etI)))])) : Does E 70 [.agg (GNode.t .far x0), .one (tI x1)] [(false, [.s .own () 1 (w0_5.map etI)])] :=
  Does.path (fn := Try.f70) [.rows ((([] : List Int) ++ x0.f5).map etI), .lp (.exit 0) (stL 53 [(5, .one (.s .own () 1 (w0_5.map etI)))])] _ rfl (fun _ => rfl) (fun k => by kernel_rfl) (AV (ψ := fun _ => (x0.f5.map etI).all (fun r => r.all T.flat) = true ∧ ((([] : List Int).map etI).length + (x0.f5.map etI).length) * 8 ≤ 140737488355328 ∧ (([] : List Int).map etI).length + (x0.f5.map etI).length ≤ 4611686018427387904) (Ev.c (by exact appOk (fun x => rfl) h0)) <| AV (ψ := fun _ => (([] : List Int).map etI) ++ (x0.f5.map etI) = (([] : List Int) ++ x0.f5).map etI) (Ev.c (by exact appMap)) <| AV (ψ := fun k => LoopK E 70 (lpAt Try.f70 0) (stL 53 [(1, .one (tI x1)), (2, .box () [tI x0.f0, tI x0.f1, tI x0.f2, tI x0.f3, tI x0.f4, .s .far () 1 (x0.f5.map etI), tI x0.f6.f0, tI x0.f6.f1, .s .far () 3 (x0.f6.f2.map GEntry.t), tI x0.f7, tI x0.f8, tI x0.f9, .s .far () 1 (x0.f10.map etI), .s .far () 4 (x0.f11.map GPeer.t)]), (5, .one (.s .own () 1 ((([] : List Int) ++ x0.f5).map etI))), (6, .one (tI (0 : Int)))]) (.exit 0) (stL 53 [(5, .one (.s .own () 1 (w0_5.map etI)))]) k k) (Loops.ev h1) <| AN)
noncomputable def s_ConfAt_F (x0 : GNode) (x1 : Int) : Option ((List Int)) :=
    if (([] : List Int).length + x0.f5.length) * 8 ≤ 140737488355328 ∧ ([] : List Int).length + x0.f5.length ≤ 4611686018427387904 then if x0.f6.f2.length ≤ 9223372036854775807 then (s_ConfAt_l0 x1 x0.f6.f0 x0.f6.f2 0 (([] : List Int) ++ x0.f5)).bind fun y => match y with
      | .x0 w0_5 => (some (w0_5)) else none else none
theorem s_ConfAt_D (x0 : GNode) (x1 : Int) : Ans (s_ConfAt_F x0 x1) (fun r => Does E 70 [.agg (GNode.t .far x0), .one (tI x1)] [(false, [.s .own () 1 (r.map etI)])]) := by
  unfold s_ConfAt_F
  refine Ans.pre (fun h0 => ?_)
  refine Ans.pre (fun hl1 => ?_)
  refine Ans.bind (fun y hy => ?_)
  replace hy := s_ConfAt_L0 x1 x0.f0 x0.f1 x0.f2 x0.f3 x0.f4 x0.f5 x0.f6.f0 x0.f6.f1 x0.f6.f2 x0.f7 x0.f8 x0.f9 x0.f10 x0.f11 x0.f6.f2 0 (([] : List Int) ++ x0.f5) rfl hl1 y hy
  cases y with
  | x0 w0_5 =>
    have h1 := hy
    exact Ans.some (s_ConfAt_P0 x0 x1 w0_5 h0 h1)
inductive i_ConfAt_X0 where
  | ret (v4 : List Int)
  | x0 
def i_ConfAt_Q0 (v1 : Int) (v2_0 : Int) (v2_1 : Int) (v2_2 : Int) (v2_3 : Int) (v2_4 : Int) (v2_5 : List Int) (v2_6 : Int) (v2_7 : Int) (v2_8 : List GEntry) (v2_9 : Int) (v2_10 : Int) (v2_11 : Int) (v2_12 : List Int) (v2_13 : List GPeer) (v5 : Int) : i_ConfAt_X0 → Prop
  | .ret zv4 => Loops E 50 (lpAt Try.f50 0) (stL 54 [(1, .one (tI v1)), (2, .box () [tI v2_0, tI v2_1, tI v2_2, tI v2_3, tI v2_4, .s .far () 1 (v2_5.map etI), tI v2_6, tI v2_7, .s .far () 3 (v2_8.map GEntry.t), tI v2_9, tI v2_10, tI v2_11, .s .far () 1 (v2_12.map etI), .s .far () 4 (v2_13.map GPeer.t)]), (5, .one (tI v5))]) .ret (stL 54 [(4, .one (.s .own () 1 (zv4.map etI)))])
  | .x0 => Loops E 50 (lpAt Try.f50 0) (stL 54 [(1, .one (tI v1)), (2, .box () [tI v2_0, tI v2_1, tI v2_2, tI v2_3, tI v2_4, .s .far () 1 (v2_5.map etI), tI v2_6, tI v2_7, .s .far () 3 (v2_8.map GEntry.t), tI v2_9, tI v2_10, tI v2_11, .s .far () 1 (v2_12.map etI), .s .far () 4 (v2_13.map GPeer.t)]), (5, .one (tI v5))]) (.exit 0) (stL 54 [(2, .box () [tI v2_0, tI v2_1, tI v2_2, tI v2_3, tI v2_4, .s .far () 1 (v2_5.map etI), tI v2_6, tI v2_7, .s .far () 3 (v2_8.map GEntry.t), tI v2_9, tI v2_10, tI v2_11, .s .far () 1 (v2_12.map etI), .s .far () 4 (v2_13.map GPeer.t)])])
theorem i_ConfAt_R0_0 (v1 : Int) (v2_0 : Int) (v2_1 : Int) (v2_2 : Int) (v2_3 : Int) (v2_4 : Int) (v2_5 : List Int) (v2_6 : Int) (v2_7 : Int) (v2_8 : List GEntry) (v2_9 : Int) (v2_10 : Int) (v2_11 : Int) (v2_12 : List Int) (v2_13 : List GPeer) (v5 : Int) (g0 : GEntry) (h0 : (decide (v5 ≥ (0 : Int))) = true) (h1 : getI v2_8 v5 = some g0) (h2 : (g0.f1 != (2 : Int)) = true) : Round E 50 (lpAt Try.f50 0) (stL 54 [(1, .one (tI v1)), (2, .box () [tI v2_0, tI v2_1, tI v2_2, tI v2_3, tI v2_4, .s .far () 1 (v2_5.map etI), tI v2_6, tI v2_7, .s .far () 3 (v2_8.map GEntry.t), tI v2_9, tI v2_10, tI v2_11, .s .far () 1 (v2_12.map etI), .s .far () 4 (v2_13.map GPeer.t)]), (5, .one (tI v5))]) .normal (stL 54 [(1, .one (tI v1)), (2, .box () [tI v2_0, tI v2_1, tI v2_2, tI v2_3, tI v2_4, .s .far () 1 (v2_5.map etI), tI v2_6, tI v2_7, .s .far () 3 (v2_8.map GEntry.t), tI v2_9, tI v2_10, tI v2_11, .s .far () 1 (v2_12.map etI), .s .far () 4 (v2_13.map GPeer.t)]), (5, .one (tI (IntKind.wrap .i64 (v5 - (1 : Int)))))]) :=
  Round.path [.b true, .row (GEntry.t g0), .b true] _ (fun k => by kernel_rfl) (AC h0 <| AV (ψ := fun _ => 0 ≤ v5 ∧ (v2_8.map GEntry.t)[v5.toNat]? = some (GEntry.t g0)) (Ev.c (getRow h1)) <| AC h2 <| AN)
theorem i_ConfAt_R0_1 (v1 : Int) (v2_0 : Int) (v2_1 : Int) (v2_2 : Int) (v2_3 : Int) (v2_4 : Int) (v2_5 : List Int) (v2_6 : Int) (v2_7 : Int) (v2_8 : List GEntry) (v2_9 : Int) (v2_10 : Int) (v2_11 : Int) (v2_12 : List Int) (v2_13 : List GPeer) (v5 : Int) (g0 : GEntry) (h0 : (decide (v5 ≥ (0 : Int))) = true) (h1 : getI v2_8 v5 = some g0) (h2 : (g0.f1 != (2 : Int)) = false) (h3 : (decide (v1 ≤ (IntKind.wrap .i64 ((-9223372036854775808 : Int) + v5)))) = true) : Round E 50 (lpAt Try.f50 0) (stL 54 [(1, .one (tI v1)), (2, .box () [tI v2_0, tI v2_1, tI v2_2, tI v2_3, tI v2_4, .s .far () 1 (v2_5.map etI), tI v2_6, tI v2_7, .s .far () 3 (v2_8.map GEntry.t), tI v2_9, tI v2_10, tI v2_11, .s .far () 1 (v2_12.map etI), .s .far () 4 (v2_13.map GPeer.t)]), (5, .one (tI v5))]) .normal (stL 54 [(1, .one (tI v1)), (2, .box () [tI v2_0, tI v2_1, tI v2_2, tI v2_3, tI v2_4, .s .far () 1 (v2_5.map etI), tI v2_6, tI v2_7, .s .far () 3 (v2_8.map GEntry.t), tI v2_9, tI v2_10, tI v2_11, .s .far () 1 (v2_12.map etI), .s .far () 4 (v2_13.map GPeer.t)]), (5, .one (tI (IntKind.wrap .i64 (v5 - (1 : Int)))))]) :=
  Round.path [.b true, .row (GEntry.t g0), .b false, .no, .b true] _ (fun k => by kernel_rfl) (AC h0 <| AV (ψ := fun _ => 0 ≤ v5 ∧ (v2_8.map GEntry.t)[v5.toNat]? = some (GEntry.t g0)) (Ev.c (getRow h1)) <| AC h2 <| AC h3 <| AN)
theorem i_ConfAt_R0_2 (v1 : Int) (v2_0 : Int) (v2_1 : Int) (v2_2 : Int) (v2_3 : Int) (v2_4 : Int) (v2_5 : List Int) (v2_6 : Int) (v2_7 : Int) (v2_8 : List GEntry) (v2_9 : Int) (v2_10 : Int) (v2_11 : Int) (v2_12 : List Int) (v2_13 : List GPeer) (v5 : Int) (g0 : GEntry) (h0 : (decide (v5 ≥ (0 : Int))) = true) (h1 : getI v2_8 v5 = some g0) (h2 : (g0.f1 != (2 : Int)) = false) (h3 : (decide (v1 ≤ (IntKind.wrap .i64 ((-9223372036854775808 : Int) + v5)))) = false) (h4 : (decide (v2_6 > (IntKind.wrap .i64 ((IntKind.wrap .i64 (v1 - (1 : Int))) - v5)))) = true) : Round E 50 (lpAt Try.f50 0) (stL 54 [(1, .one (tI v1)), (2, .box () [tI v2_0, tI v2_1, tI v2_2, tI v2_3, tI v2_4, .s .far () 1 (v2_5.map etI), tI v2_6, tI v2_7, .s .far () 3 (v2_8.map GEntry.t), tI v2_9, tI v2_10, tI v2_11, .s .far () 1 (v2_12.map etI), .s .far () 4 (v2_13.map GPeer.t)]), (5, .one (tI v5))]) .normal (stL 54 [(1, .one (tI v1)), (2, .box () [tI v2_0, tI v2_1, tI v2_2, tI v2_3, tI v2_4, .s .far () 1 (v2_5.map etI), tI v2_6, tI v2_7, .s .far () 3 (v2_8.map GEntry.t), tI v2_9, tI v2_10, tI v2_11, .s .far () 1 (v2_12.map etI), .s .far () 4 (v2_13.map GPeer.t)]), (5, .one (tI (IntKind.wrap .i64 (v5 - (1 : Int)))))]) :=
  Round.path [.b true, .row (GEntry.t g0), .b false, .no, .b false, .no, .no, .b true] _ (fun k => by kernel_rfl) (AC h0 <| AV (ψ := fun _ => 0 ≤ v5 ∧ (v2_8.map GEntry.t)[v5.toNat]? = some (GEntry.t g0)) (Ev.c (getRow h1)) <| AC h2 <| AC h3 <| AC h4 <| AN)
theorem i_ConfAt_R0_3 (v1 : Int) (v2_0 : Int) (v2_1 : Int) (v2_2 : Int) (v2_3 : Int) (v2_4 : Int) (v2_5 : List Int) (v2_6 : Int) (v2_7 : Int) (v2_8 : List GEntry) (v2_9 : Int) (v2_10 : Int) (v2_11 : Int) (v2_12 : List Int) (v2_13 : List GPeer) (v5 : Int) (g0 : GEntry) (h0 : (decide (v5 ≥ (0 : Int))) = true) (h1 : getI v2_8 v5 = some g0) (h2 : (g0.f1 != (2 : Int)) = false) (h3 : (decide (v1 ≤ (IntKind.wrap .i64 ((-9223372036854775808 : Int) + v5)))) = false) (h4 : (decide (v2_6 > (IntKind.wrap .i64 ((IntKind.wrap .i64 (v1 - (1 : Int))) - v5)))) = false) (h5 : Small.sm g0.f2) (h6 : ((readConf g0.f2).2) = true) : Round E 50 (lpAt Try.f50 0) (stL 54 [(1, .one (tI v1)), (2, .box () [tI v2_0, tI v2_1, tI v2_2, tI v2_3, tI v2_4, .s .far () 1 (v2_5.map etI), tI v2_6, tI v2_7, .s .far () 3 (v2_8.map GEntry.t), tI v2_9, tI v2_10, tI v2_11, .s .far () 1 (v2_12.map etI), .s .far () 4 (v2_13.map GPeer.t)]), (5, .one (tI v5))]) .ret (stL 54 [(4, .one (.s .own () 1 (((readConf g0.f2).1).map etI)))]) :=
  Round.path [.b true, .row (GEntry.t g0), .b false, .no, .b false, .no, .no, .b false, .ret [(false, [.s .own () 1 (((readConf g0.f2).1).map etI)]), (false, [tB true])]] _ (fun k => by kernel_rfl) (AC h0 <| AV (ψ := fun _ => 0 ≤ v5 ∧ (v2_8.map GEntry.t)[v5.toNat]? = some (GEntry.t g0)) (Ev.c (getRow h1)) <| AC h2 <| AC h3 <| AC h4 <| AV (ψ := fun k => E.C k 125 [.one (tS g0.f2)] = some [(false, [.s .own () 1 (((readConf g0.f2).1).map etI)]), (false, [tB true])]) (Does.to (T_i_ReadConf g0.f2 h5) (by rw [h6])) <| AN)
theorem i_ConfAt_R0_4 (v1 : Int) (v2_0 : Int) (v2_1 : Int) (v2_2 : Int) (v2_3 : Int) (v2_4 : Int) (v2_5 : List Int) (v2_6 : Int) (v2_7 : Int) (v2_8 : List GEntry) (v2_9 : Int) (v2_10 : Int) (v2_11 : Int) (v2_12 : List Int) (v2_13 : List GPeer) (v5 : Int) (g0 : GEntry) (h0 : (decide (v5 ≥ (0 : Int))) = true) (h1 : getI v2_8 v5 = some g0) (h2 : (g0.f1 != (2 : Int)) = false) (h3 : (decide (v1 ≤ (IntKind.wrap .i64 ((-9223372036854775808 : Int) + v5)))) = false) (h4 : (decide (v2_6 > (IntKind.wrap .i64 ((IntKind.wrap .i64 (v1 - (1 : Int))) - v5)))) = false) (h5 : Small.sm g0.f2) (h6 : ((readConf g0.f2).2) = false) : Round E 50 (lpAt Try.f50 0) (stL 54 [(1, .one (tI v1)), (2, .box () [tI v2_0, tI v2_1, tI v2_2, tI v2_3, tI v2_4, .s .far () 1 (v2_5.map etI), tI v2_6, tI v2_7, .s .far () 3 (v2_8.map GEntry.t), tI v2_9, tI v2_10, tI v2_11, .s .far () 1 (v2_12.map etI), .s .far () 4 (v2_13.map GPeer.t)]), (5, .one (tI v5))]) .normal (stL 54 [(1, .one (tI v1)), (2, .box () [tI v2_0, tI v2_1, tI v2_2, tI v2_3, tI v2_4, .s .far () 1 (v2_5.map etI), tI v2_6, tI v2_7, .s .far () 3 (v2_8.map GEntry.t), tI v2_9, tI v2_10, tI v2_11, .s .far () 1 (v2_12.map etI), .s .far () 4 (v2_13.map GPeer.t)]), (5, .one (tI (IntKind.wrap .i64 (v5 - (1 : Int)))))]) :=
  Round.path [.b true, .row (GEntry.t g0), .b false, .no, .b false, .no, .no, .b false, .ret [(false, [.s .own () 1 (((readConf g0.f2).1).map etI)]), (false, [tB false])]] _ (fun k => by kernel_rfl) (AC h0 <| AV (ψ := fun _ => 0 ≤ v5 ∧ (v2_8.map GEntry.t)[v5.toNat]? = some (GEntry.t g0)) (Ev.c (getRow h1)) <| AC h2 <| AC h3 <| AC h4 <| AV (ψ := fun k => E.C k 125 [.one (tS g0.f2)] = some [(false, [.s .own () 1 (((readConf g0.f2).1).map etI)]), (false, [tB false])]) (Does.to (T_i_ReadConf g0.f2 h5) (by rw [h6])) <| AN)
theorem i_ConfAt_R0_5 (v1 : Int) (v2_0 : Int) (v2_1 : Int) (v2_2 : Int) (v2_3 : Int) (v2_4 : Int) (v2_5 : List Int) (v2_6 : Int) (v2_7 : Int) (v2_8 : List GEntry) (v2_9 : Int) (v2_10 : Int) (v2_11 : Int) (v2_12 : List Int) (v2_13 : List GPeer) (v5 : Int) (h0 : (decide (v5 ≥ (0 : Int))) = false) : Round E 50 (lpAt Try.f50 0) (stL 54 [(1, .one (tI v1)), (2, .box () [tI v2_0, tI v2_1, tI v2_2, tI v2_3, tI v2_4, .s .far () 1 (v2_5.map etI), tI v2_6, tI v2_7, .s .far () 3 (v2_8.map GEntry.t), tI v2_9, tI v2_10, tI v2_11, .s .far () 1 (v2_12.map etI), .s .far () 4 (v2_13.map GPeer.t)]), (5, .one (tI v5))]) (.exit 0) (stL 54 [(2, .box () [tI v2_0, tI v2_1, tI v2_2, tI v2_3, tI v2_4, .s .far () 1 (v2_5.map etI), tI v2_6, tI v2_7, .s .far () 3 (v2_8.map GEntry.t), tI v2_9, tI v2_10, tI v2_11, .s .far () 1 (v2_12.map etI), .s .far () 4 (v2_13.map GPeer.t)])]) :=
  Round.path [.b false] _ (fun k => by kernel_rfl) (AC h0 <| AN)
noncomputable def i_ConfAt_l0 (v1 : Int) (v2_6 : Int) (v2_8 : List GEntry) : Nat → Int → Option i_ConfAt_X0
  | 0, _ => none
  | n + 1, v5 => cond (decide (v5 ≥ (0 : Int)))
    ((getI v2_8 v5).bind fun g0 => cond (g0.f1 != (2 : Int))
      (i_ConfAt_l0 v1 v2_6 v2_8 n (IntKind.wrap .i64 (v5 - (1 : Int))))
      (cond (decide (v1 ≤ (IntKind.wrap .i64 ((-9223372036854775808 : Int) + v5))))
        (i_ConfAt_l0 v1 v2_6 v2_8 n (IntKind.wrap .i64 (v5 - (1 : Int))))
        (cond (decide (v2_6 > (IntKind.wrap .i64 ((IntKind.wrap .i64 (v1 - (1 : Int))) - v5))))
          (i_ConfAt_l0 v1 v2_6 v2_8 n (IntKind.wrap .i64 (v5 - (1 : Int))))
          (if Small.sm g0.f2 then cond ((readConf g0.f2).2)
            (some (.ret ((readConf g0.f2).1)))
            (i_ConfAt_l0 v1 v2_6 v2_8 n (IntKind.wrap .i64 (v5 - (1 : Int)))) else none))))
    (some (.x0))
theorem i_ConfAt_L0 (v1 : Int) (v2_0 : Int) (v2_1 : Int) (v2_2 : Int) (v2_3 : Int) (v2_4 : Int) (v2_5 : List Int) (v2_6 : Int) (v2_7 : Int) (v2_8 : List GEntry) (v2_9 : Int) (v2_10 : Int) (v2_11 : Int) (v2_12 : List Int) (v2_13 : List GPeer) (n : Nat) : ∀ (v5 : Int), Ans (i_ConfAt_l0 v1 v2_6 v2_8 n v5) (i_ConfAt_Q0 v1 v2_0 v2_1 v2_2 v2_3 v2_4 v2_5 v2_6 v2_7 v2_8 v2_9 v2_10 v2_11 v2_12 v2_13 v5) := by
  induction n with
  | zero => intros; exact Ans.none
  | succ n ih =>
    intro v5
    unfold i_ConfAt_l0
    refine Ans.ite (fun h0 => ?_) (fun h0 => ?_)
    · refine Ans.bind (fun g0 h1 => ?_)
      refine Ans.ite (fun h2 => ?_) (fun h2 => ?_)
      · exact (ih (IntKind.wrap .i64 (v5 - (1 : Int)))).mono fun y hy => by cases y <;> exact Loops.next (i_ConfAt_R0_0 v1 v2_0 v2_1 v2_2 v2_3 v2_4 v2_5 v2_6 v2_7 v2_8 v2_9 v2_10 v2_11 v2_12 v2_13 v5 g0 h0 h1 h2) hy
      · refine Ans.ite (fun h3 => ?_) (fun h3 => ?_)
        · exact (ih (IntKind.wrap .i64 (v5 - (1 : Int)))).mono fun y hy => by cases y <;> exact Loops.next (i_ConfAt_R0_1 v1 v2_0 v2_1 v2_2 v2_3 v2_4 v2_5 v2_6 v2_7 v2_8 v2_9 v2_10 v2_11 v2_12 v2_13 v5 g0 h0 h1 h2 h3) hy
        · refine Ans.ite (fun h4 => ?_) (fun h4 => ?_)
          · exact (ih (IntKind.wrap .i64 (v5 - (1 : Int)))).mono fun y hy => by cases y <;> exact Loops.next (i_ConfAt_R0_2 v1 v2_0 v2_1 v2_2 v2_3 v2_4 v2_5 v2_6 v2_7 v2_8 v2_9 v2_10 v2_11 v2_12 v2_13 v5 g0 h0 h1 h2 h3 h4) hy
          · refine Ans.pre (fun h5 => ?_)
            refine Ans.ite (fun h6 => ?_) (fun h6 => ?_)
            · exact Ans.some (Loops.stop (i_ConfAt_R0_3 v1 v2_0 v2_1 v2_2 v2_3 v2_4 v2_5 v2_6 v2_7 v2_8 v2_9 v2_10 v2_11 v2_12 v2_13 v5 g0 h0 h1 h2 h3 h4 h5 h6) (by intro h; cases h))
            · exact (ih (IntKind.wrap .i64 (v5 - (1 : Int)))).mono fun y hy => by cases y <;> exact Loops.next (i_ConfAt_R0_4 v1 v2_0 v2_1 v2_2 v2_3 v2_4 v2_5 v2_6 v2_7 v2_8 v2_9 v2_10 v2_11 v2_12 v2_13 v5 g0 h0 h1 h2 h3 h4 h5 h6) hy
    · exact Ans.some (Loops.stop (i_ConfAt_R0_5 v1 v2_0 v2_1 v2_2 v2_3 v2_4 v2_5 v2_6 v2_7 v2_8 v2_9 v2_10 v2_11 v2_12 v2_13 v5 h0) (by intro h; cases h))
theorem i_ConfAt_P0 (x0 : GNode) (x1 : Int) (w0_4 : List Int) (h0 : Loops E 50 (lpAt Try.f50 0) (stL 54 [(1, .one (tI x1)), (2, .box () [tI x0.f0, tI x0.f1, tI x0.f2, tI x0.f3, tI x0.f4, .s .far () 1 (x0.f5.map etI), tI x0.f6.f0, tI x0.f6.f1, .s .far () 3 (x0.f6.f2.map GEntry.t), tI x0.f7, tI x0.f8, tI x0.f9, .s .far () 1 (x0.f10.map etI), .s .far () 4 (x0.f11.map GPeer.t)]), (5, .one (tI (IntKind.wrap .i64 ((x0.f6.f2.length : Int) - (1 : Int)))))]) .ret (stL 54 [(4, .one (.s .own () 1 (w0_4.map etI)))])) : Does E 50 [.agg (GNode.t .far x0), .one (tI x1)] [(false, [.s .own () 1 (w0_4.map etI)])] :=
  Does.path (fn := Try.f50) [.val (.int .i64 (x0.f6.f2.length : Int)), .lp .ret (stL 54 [(4, .one (.s .own () 1 (w0_4.map etI)))])] _ rfl (fun _ => rfl) (fun k => by kernel_rfl) (AV (ψ := fun _ => ((x0.f6.f2.map GEntry.t).length : Int) = (x0.f6.f2.length : Int)) (Ev.c lenMap) <| AV (ψ := fun k => LoopK E 50 (lpAt Try.f50 0) (stL 54 [(1, .one (tI x1)), (2, .box () [tI x0.f0, tI x0.f1, tI x0.f2, tI x0.f3, tI x0.f4, .s .far () 1 (x0.f5.map etI), tI x0.f6.f0, tI x0.f6.f1, .s .far () 3 (x0.f6.f2.map GEntry.t), tI x0.f7, tI x0.f8, tI x0.f9, .s .far () 1 (x0.f10.map etI), .s .far () 4 (x0.f11.map GPeer.t)]), (5, .one (tI (IntKind.wrap .i64 ((x0.f6.f2.length : Int) - (1 : Int)))))]) .ret (stL 54 [(4, .one (.s .own () 1 (w0_4.map etI)))]) k k) (Loops.ev h0) <| AN)
theorem i_ConfAt_P1 (x0 : GNode) (x1 : Int) (h0 : Loops E 50 (lpAt Try.f50 0) (stL 54 [(1, .one (tI x1)), (2, .box () [tI x0.f0, tI x0.f1, tI x0.f2, tI x0.f3, tI x0.f4, .s .far () 1 (x0.f5.map etI), tI x0.f6.f0, tI x0.f6.f1, .s .far () 3 (x0.f6.f2.map GEntry.t), tI x0.f7, tI x0.f8, tI x0.f9, .s .far () 1 (x0.f10.map etI), .s .far () 4 (x0.f11.map GPeer.t)]), (5, .one (tI (IntKind.wrap .i64 ((x0.f6.f2.length : Int) - (1 : Int)))))]) (.exit 0) (stL 54 [(2, .box () [tI x0.f0, tI x0.f1, tI x0.f2, tI x0.f3, tI x0.f4, .s .far () 1 (x0.f5.map etI), tI x0.f6.f0, tI x0.f6.f1, .s .far () 3 (x0.f6.f2.map GEntry.t), tI x0.f7, tI x0.f8, tI x0.f9, .s .far () 1 (x0.f10.map etI), .s .far () 4 (x0.f11.map GPeer.t)])])) (h1 : x0.f5.length ≤ 1050000) : Does E 50 [.agg (GNode.t .far x0), .one (tI x1)] [(false, [.s .own () 1 ((id x0.f5).map etI)])] :=
  Does.path (fn := Try.f50) [.val (.int .i64 (x0.f6.f2.length : Int)), .lp (.exit 0) (stL 54 [(2, .box () [tI x0.f0, tI x0.f1, tI x0.f2, tI x0.f3, tI x0.f4, .s .far () 1 (x0.f5.map etI), tI x0.f6.f0, tI x0.f6.f1, .s .far () 3 (x0.f6.f2.map GEntry.t), tI x0.f7, tI x0.f8, tI x0.f9, .s .far () 1 (x0.f10.map etI), .s .far () 4 (x0.f11.map GPeer.t)])]), .ret [(false, [.s .own () 1 ((id x0.f5).map etI)])]] _ rfl (fun _ => rfl) (fun k => by kernel_rfl) (AV (ψ := fun _ => ((x0.f6.f2.map GEntry.t).length : Int) = (x0.f6.f2.length : Int)) (Ev.c lenMap) <| AV (ψ := fun k => LoopK E 50 (lpAt Try.f50 0) (stL 54 [(1, .one (tI x1)), (2, .box () [tI x0.f0, tI x0.f1, tI x0.f2, tI x0.f3, tI x0.f4, .s .far () 1 (x0.f5.map etI), tI x0.f6.f0, tI x0.f6.f1, .s .far () 3 (x0.f6.f2.map GEntry.t), tI x0.f7, tI x0.f8, tI x0.f9, .s .far () 1 (x0.f10.map etI), .s .far () 4 (x0.f11.map GPeer.t)]), (5, .one (tI (IntKind.wrap .i64 ((x0.f6.f2.length : Int) - (1 : Int)))))]) (.exit 0) (stL 54 [(2, .box () [tI x0.f0, tI x0.f1, tI x0.f2, tI x0.f3, tI x0.f4, .s .far () 1 (x0.f5.map etI), tI x0.f6.f0, tI x0.f6.f1, .s .far () 3 (x0.f6.f2.map GEntry.t), tI x0.f7, tI x0.f8, tI x0.f9, .s .far () 1 (x0.f10.map etI), .s .far () 4 (x0.f11.map GPeer.t)])]) k k) (Loops.ev h0) <| AD (T_slices_Clone_int x0.f5 h1) <| AN)
noncomputable def i_ConfAt_F (x0 : GNode) (x1 : Int) : Option ((List Int)) :=
    (i_ConfAt_l0 x1 x0.f6.f0 x0.f6.f2 9223372036854775808 (IntKind.wrap .i64 ((x0.f6.f2.length : Int) - (1 : Int)))).bind fun y => match y with
      | .ret w0_4 => (some (w0_4))
      | .x0 => (if x0.f5.length ≤ 1050000 then some (id x0.f5) else none)
theorem i_ConfAt_D (x0 : GNode) (x1 : Int) : Ans (i_ConfAt_F x0 x1) (fun r => Does E 50 [.agg (GNode.t .far x0), .one (tI x1)] [(false, [.s .own () 1 (r.map etI)])]) := by
  unfold i_ConfAt_F
  refine Ans.bind (fun y hy => ?_)
  replace hy := i_ConfAt_L0 x1 x0.f0 x0.f1 x0.f2 x0.f3 x0.f4 x0.f5 x0.f6.f0 x0.f6.f1 x0.f6.f2 x0.f7 x0.f8 x0.f9 x0.f10 x0.f11 9223372036854775808 (IntKind.wrap .i64 ((x0.f6.f2.length : Int) - (1 : Int))) y hy
  cases y with
  | ret w0_4 =>
    have h0 := hy
    exact Ans.some (i_ConfAt_P0 x0 x1 w0_4 h0)
  | x0 =>
    have h0 := hy
    refine Ans.pre (fun h1 => ?_)
    exact Ans.some (i_ConfAt_P1 x0 x1 h0 h1)
noncomputable def goodE (st ix : Int) (e : GEntry) (i : Nat) : Bool := decide (st + 1 + (i : Int) ≤ ix) && (e.f1 == 2) && (readConf e.f2).2
noncomputable def confF (st ix : Int) : List GEntry → Nat → List Int → List Int
  | [], _, c => c
  | e :: r, i, c => confF st ix r (i + 1) (cond (goodE st ix e i) (readConf e.f2).1 c)
noncomputable def confAt (n : GNode) (ix : Int) : List Int := confF n.f6.f0 ix n.f6.f2 0 n.f5
theorem confF_late {st ix : Int} : ∀ (r : List GEntry) (i : Nat) (c : List Int), ix < st + 1 + (i : Int) → confF st ix r i c = c
  | [], _, _, _ => rfl
  | e :: r, i, c, h => by
    unfold confF goodE
    rw [decide_eq_false (by omega), Bool.false_and, Bool.false_and, cond_false]
    exact confF_late r (i + 1) c (by omega)
theorem confF_snoc {st ix : Int} : ∀ (l : List GEntry) (e : GEntry) (i : Nat) (c : List Int), confF st ix (l ++ [e]) i c = cond (goodE st ix e (i + l.length)) (readConf e.f2).1 (confF st ix l i c)
  | [], e, i, c => rfl
  | x :: l, e, i, c => by
    show confF st ix (l ++ [e]) (i + 1) _ = _
    rw [confF_snoc l e (i + 1)]
    rw [show i + 1 + l.length = i + (x :: l).length by simp; omega]
    rfl
theorem confF_small {st ix : Int} : ∀ (l : List GEntry) (i : Nat) (c : List Int), c.length ≤ 1050000 → (confF st ix l i c).length ≤ 1050000
  | [], _, _, h => h
  | e :: r, i, c, h => confF_small r (i + 1) _ (by cases goodE st ix e i with | false => exact h | true => have := readConf_len e.f2; show (readConf e.f2).1.length ≤ _; omega)
theorem confF_some {st ix : Int} : ∀ (l : List GEntry) (i : Nat) (c : List Int), c ≠ [] → confF st ix l i c ≠ []
  | [], _, _, h => h
  | e :: r, i, c, h => confF_some r (i + 1) _ (by
    cases g : goodE st ix e i with
    | false => exact h
    | true =>
      unfold goodE at g
      simp only [Bool.and_eq_true] at g
      exact readConf_ok g.2)
theorem sc_l (st ix : Int) (h0 : 0 ≤ st ∧ st ≤ 1000000) : ∀ (r : List GEntry) (i : Nat) (c : List Int), (∀ e ∈ r, Small.sm e) → i + r.length ≤ 1050000 → s_ConfAt_l0 ix st r i c = some (.x0 (confF st ix r i c))
  | [], _, _, _, _ => rfl
  | e :: r, i, c, h, hi => by
    rw [List.length_cons] at hi
    have he : Small.sm e.f2 := h e (by simp)
    have ih := fun c => sc_l st ix h0 r (i + 1) c (fun y hy => h y (by simp [hy])) (by omega)
    unfold s_ConfAt_l0
    rw [inc_id _ (by omega) (by omega), wrap_id _ (by omega) (by omega)]
    by_cases q : st + 1 + (i : Int) ≤ ix
    · simp only [decide_eq_true q, cond_true, he, if_true, ih]
      conv => rhs; unfold confF goodE
      rw [decide_eq_true q, Bool.true_and]
      cases e.f1 == 2 <;> cases (readConf e.f2).2 <;> rfl
    · rw [decide_eq_false q, cond_false, confF_late _ i c (by omega)]
theorem ic_l (n : GNode) (ix : Int) (hs : Small.sm n.f6) (h0 : 0 ≤ n.f6.f0 ∧ n.f6.f0 ≤ 1000000) (hx : 0 ≤ ix ∧ ix ≤ 2000000) (hl : n.f6.f2.length ≤ 60) (K : i_ConfAt_X0 → Option (List Int)) (k1 : ∀ c, K (.ret c) = some c) (k2 : K .x0 = some n.f5) : ∀ (j m : Nat), j ≤ n.f6.f2.length → j < m → (i_ConfAt_l0 ix n.f6.f0 n.f6.f2 m ((j : Int) - 1)).bind K = some (confF n.f6.f0 ix (n.f6.f2.take j) 0 n.f5)
  | j, 0, _, h => by omega
  | 0, m + 1, _, _ => by
    unfold i_ConfAt_l0
    rw [decide_eq_false (by omega), cond_false, Option.bind_some, k2]
    rfl
  | j + 1, m + 1, hj, hm => by
    have ih := ic_l n ix hs h0 hx hl K k1 k2 j m (by omega) (by omega)
    have e1 : (((j + 1 : Nat) : Int) - 1) = (j : Int) := by omega
    have hg : n.f6.f2[j]? = some n.f6.f2[j] := List.getElem?_eq_getElem (by omega)
    generalize n.f6.f2[j] = e at hg
    have hmem : e ∈ n.f6.f2 := List.mem_of_getElem? hg
    have hs2 : Small.sm n.f6.f2 := hs
    have he : Small.sm e.f2 := hs2.2 e hmem
    have ht : n.f6.f2.take (j + 1) = n.f6.f2.take j ++ [e] := by
      rw [List.take_add_one, hg]; rfl
    have hlen : (n.f6.f2.take j).length = j := by simp; omega
    rw [ht, confF_snoc, hlen, Nat.zero_add, e1]
    unfold i_ConfAt_l0
    rw [decide_eq_true (by omega), cond_true, getI_nat, hg, Option.bind_some]
    have w1 : IntKind.wrap .i64 ((j : Int) - 1) = (j : Int) - 1 := wrap_id _ (by omega) (by omega)
    have w2 : IntKind.wrap .i64 ((-9223372036854775808 : Int) + (j : Int)) = (-9223372036854775808 : Int) + (j : Int) := wrap_id _ (by omega) (by omega)
    have w3 : IntKind.wrap .i64 (ix - 1) = ix - 1 := wrap_id _ (by omega) (by omega)
    have w4 : IntKind.wrap .i64 (ix - 1 - (j : Int)) = ix - 1 - (j : Int) := wrap_id _ (by omega) (by omega)
    simp only [w1, w2, w3, w4, he, if_true]
    rw [decide_eq_false (by omega : ¬ ix ≤ (-9223372036854775808 : Int) + (j : Int))]
    unfold goodE
    by_cases q : n.f6.f0 + 1 + (j : Int) ≤ ix
    · rw [decide_eq_true q, decide_eq_false (by omega : ¬ n.f6.f0 > ix - 1 - (j : Int)), Bool.true_and]
      by_cases q2 : e.f1 = 2
      · rw [show (e.f1 != 2) = false by simp [q2], show (e.f1 == 2) = true by simp [q2], Bool.true_and]
        cases g : (readConf e.f2).2 with
        | true => simp [k1]
        | false => simpa using ih
      · rw [show (e.f1 != 2) = true by simp [q2], show (e.f1 == 2) = false by simp [q2], Bool.false_and]
        simpa using ih
    · rw [decide_eq_false q, decide_eq_true (by omega : n.f6.f0 > ix - 1 - (j : Int)), Bool.false_and, Bool.false_and]
      cases e.f1 != 2 <;> simpa using ih
theorem T_s_ConfAt (x0 : GNode) (x1 : Int) (h : Small.sm x0) (h1 : logOk x0.f6 = true) (h2 : 0 ≤ x1 ∧ x1 ≤ 2000000) : Does E 70 [.agg (GNode.t .far x0), .one (tI x1)] [(false, [.s .own () 1 ((confAt x0 x1).map etI)])] := by
  exact s_ConfAt_D x0 x1 _ (by
    obtain ⟨p0, p1, p2, p3⟩ := logOk_in h1
    have hf : Small.sm x0.f5 := h.1
    have hl : Small.sm x0.f6 := h.2.1
    have hl2 : Small.sm x0.f6.f2 := hl
    have hf1 : x0.f5.length ≤ 1050000 := hf.1
    unfold s_ConfAt_F
    rw [if_pos (by simp; omega), if_pos (by omega), sc_l _ _ p0 _ _ _ hl2.2 (by omega)]
    rfl)
theorem T_i_ConfAt (x0 : GNode) (x1 : Int) (h : Small.sm x0) (h1 : logOk x0.f6 = true) (h2 : 0 ≤ x1 ∧ x1 ≤ 2000000) : Does E 50 [.agg (GNode.t .far x0), .one (tI x1)] [(false, [.s .own () 1 ((confAt x0 x1).map etI)])] := by
  exact i_ConfAt_D x0 x1 _ (by
    obtain ⟨p0, p1, p2, p3⟩ := logOk_in h1
    have hf : Small.sm x0.f5 := h.1
    have hl : Small.sm x0.f6 := h.2.1
    have hl2 : Small.sm x0.f6.f2 := hl
    have hf1 : x0.f5.length ≤ 1050000 := hf.1
    unfold i_ConfAt_F
    rw [wrap_id _ (by omega) (by omega)]
    rw [ic_l x0 x1 hl p0 h2 p1 _ (fun c => rfl) (by simp only [hf1, if_true]; rfl) x0.f6.f2.length 9223372036854775808 (Nat.le_refl _) (by omega)]
    rw [List.take_length]
    rfl)
theorem s_ConfOf_P0 (x0 : GNode) (h0 : Small.sm x0) (h1 : logOk x0.f6 = true) (h2 : 0 ≤ (1000060 : Int) ∧ (1000060 : Int) ≤ 2000000) : Does E 14 [.agg (GNode.t .far x0)] [(false, [.s .own () 1 ((confAt x0 (1000060 : Int)).map etI)])] :=
  Does.path (fn := Try.f14) [.ret [(false, [.s .own () 1 ((confAt x0 (1000060 : Int)).map etI)])]] _ rfl (fun _ => rfl) (fun k => by kernel_rfl) (AD (T_s_ConfAt x0 (1000060 : Int) h0 h1 h2) <| AN)
noncomputable def s_ConfOf_F (x0 : GNode) : Option ((List Int)) :=
    if Small.sm x0 then if logOk x0.f6 = true then if 0 ≤ (1000060 : Int) ∧ (1000060 : Int) ≤ 2000000 then some (confAt x0 (1000060 : Int)) else none else none else none
theorem s_ConfOf_D (x0 : GNode) : Ans (s_ConfOf_F x0) (fun r => Does E 14 [.agg (GNode.t .far x0)] [(false, [.s .own () 1 (r.map etI)])]) := by
  unfold s_ConfOf_F
  refine Ans.pre (fun h0 => ?_)
  refine Ans.pre (fun h1 => ?_)
  refine Ans.pre (fun h2 => ?_)
  exact Ans.some (s_ConfOf_P0 x0 h0 h1 h2)
noncomputable def confOf (n : GNode) : List Int := confAt n 1000060
theorem confOf_sm (n : GNode) (h : Small.sm n) : Small.sm (confOf n) := ⟨confF_small _ _ _ h.1.1, fun _ _ => trivial⟩
theorem T_s_ConfOf (x0 : GNode) (h : Small.sm x0) (h1 : logOk x0.f6 = true) : Does E 14 [.agg (GNode.t .far x0)] [(false, [.s .own () 1 ((confOf x0).map etI)])] := by
  exact s_ConfOf_D x0 _ (by
    unfold s_ConfOf_F
    simp only [h, h1, true_and, if_true]
    rfl)
theorem i_ConfOf_P0 (x0 : GNode) (h0 : Small.sm x0) (h1 : logOk x0.f6 = true) (h2 : 0 ≤ (1000060 : Int) ∧ (1000060 : Int) ≤ 2000000) : Does E 16 [.agg (GNode.t .far x0)] [(false, [.s .own () 1 ((confAt x0 (1000060 : Int)).map etI)])] :=
  Does.path (fn := Try.f16) [.ret [(false, [.s .own () 1 ((confAt x0 (1000060 : Int)).map etI)])]] _ rfl (fun _ => rfl) (fun k => by kernel_rfl) (AD (T_i_ConfAt x0 (1000060 : Int) h0 h1 h2) <| AN)
noncomputable def i_ConfOf_F (x0 : GNode) : Option ((List Int)) :=
    if Small.sm x0 then if logOk x0.f6 = true then if 0 ≤ (1000060 : Int) ∧ (1000060 : Int) ≤ 2000000 then some (confAt x0 (1000060 : Int)) else none else none else none
theorem i_ConfOf_D (x0 : GNode) : Ans (i_ConfOf_F x0) (fun r => Does E 16 [.agg (GNode.t .far x0)] [(false, [.s .own () 1 (r.map etI)])]) := by
  unfold i_ConfOf_F
  refine Ans.pre (fun h0 => ?_)
  refine Ans.pre (fun h1 => ?_)
  refine Ans.pre (fun h2 => ?_)
  exact Ans.some (i_ConfOf_P0 x0 h0 h1 h2)
theorem T_i_ConfOf (x0 : GNode) (h : Small.sm x0) (h1 : logOk x0.f6 = true) : Does E 16 [.agg (GNode.t .far x0)] [(false, [.s .own () 1 ((confOf x0).map etI)])] := by
  exact i_ConfOf_D x0 _ (by
    unfold i_ConfOf_F
    simp only [h, h1, true_and, if_true]
    rfl)
inductive s_l19Others_X0 where
  | x0 (v5 : List Int)
def s_l19Others_Q0 (v0 : List Int) (v1 : Int) (v5 : List Int) (v6 : Int) : s_l19Others_X0 → Prop
  | .x0 zv5 => Loops E 81 (lpAt Try.f81 0) (stL 28 [(0, .one (.s .far () 1 (v0.map etI))), (1, .one (tI v1)), (5, .one (.s .own () 1 (v5.map etI))), (6, .one (tI v6))]) (.exit 0) (stL 28 [(5, .one (.s .own () 1 (zv5.map etI)))])
theorem s_l19Others_R0_0 (v0 : List Int) (v1 : Int) (v5 : List Int) (v6 : Int) (g0 : Int) (h0 : (decide (v6 < (v0.length : Int))) = true) (h1 : getI v0 v6 = some g0) (h2 : (g0 != v1) = true) (h3 : (v5.length + ([g0]).length) * 8 ≤ 140737488355328 ∧ v5.length + ([g0]).length ≤ 4611686018427387904) : Round E 81 (lpAt Try.f81 0) (stL 28 [(0, .one (.s .far () 1 (v0.map etI))), (1, .one (tI v1)), (5, .one (.s .own () 1 (v5.map etI))), (6, .one (tI v6))]) .normal (stL 28 [(0, .one (.s .far () 1 (v0.map etI))), (1, .one (tI v1)), (5, .one (.s .own () 1 ((v5 ++ ([g0])).map etI))), (6, .one (tI (inc v6)))]) :=
  Round.path [.val (.int .i64 (v0.length : Int)), .b true, .row (etI g0), .b true, .row (etI g0), .rows ((v5 ++ ([g0])).map etI)] _ (fun k => by kernel_rfl) (AV (ψ := fun _ => ((v0.map etI).length : Int) = (v0.length : Int)) (Ev.c lenMap) <| AC h0 <| AV (ψ := fun _ => 0 ≤ v6 ∧ (v0.map etI)[v6.toNat]? = some (etI g0)) (Ev.c (getRow h1)) <| AC h2 <| AV (ψ := fun _ => 0 ≤ v6 ∧ (v0.map etI)[v6.toNat]? = some (etI g0)) (Ev.c (getRow h1)) <| AV (ψ := fun _ => (((([g0]).map etI).drop 0).take (([g0]).map etI).length).all (fun r => r.all T.flat) = true ∧ ((v5.map etI).length + (((([g0]).map etI).drop 0).take (([g0]).map etI).length).length) * 8 ≤ 140737488355328 ∧ (v5.map etI).length + (((([g0]).map etI).drop 0).take (([g0]).map etI).length).length ≤ 4611686018427387904) (Ev.c (by simp only [List.take_length, List.drop_zero]; exact appOk (fun x => rfl) h3)) <| AV (ψ := fun _ => (v5.map etI) ++ (((([g0]).map etI).drop 0).take (([g0]).map etI).length) = (v5 ++ ([g0])).map etI) (Ev.c (by simp only [List.take_length, List.drop_zero]; exact appMap)) <| AN)
theorem s_l19Others_R0_1 (v0 : List Int) (v1 : Int) (v5 : List Int) (v6 : Int) (g0 : Int) (h0 : (decide (v6 < (v0.length : Int))) = true) (h1 : getI v0 v6 = some g0) (h2 : (g0 != v1) = false) : Round E 81 (lpAt Try.f81 0) (stL 28 [(0, .one (.s .far () 1 (v0.map etI))), (1, .one (tI v1)), (5, .one (.s .own () 1 (v5.map etI))), (6, .one (tI v6))]) .normal (stL 28 [(0, .one (.s .far () 1 (v0.map etI))), (1, .one (tI v1)), (5, .one (.s .own () 1 (v5.map etI))), (6, .one (tI (inc v6)))]) :=
  Round.path [.val (.int .i64 (v0.length : Int)), .b true, .row (etI g0), .b false] _ (fun k => by kernel_rfl) (AV (ψ := fun _ => ((v0.map etI).length : Int) = (v0.length : Int)) (Ev.c lenMap) <| AC h0 <| AV (ψ := fun _ => 0 ≤ v6 ∧ (v0.map etI)[v6.toNat]? = some (etI g0)) (Ev.c (getRow h1)) <| AC h2 <| AN)
theorem s_l19Others_R0_2 (v0 : List Int) (v1 : Int) (v5 : List Int) (v6 : Int) (h0 : (decide (v6 < (v0.length : Int))) = false) : Round E 81 (lpAt Try.f81 0) (stL 28 [(0, .one (.s .far () 1 (v0.map etI))), (1, .one (tI v1)), (5, .one (.s .own () 1 (v5.map etI))), (6, .one (tI v6))]) (.exit 0) (stL 28 [(5, .one (.s .own () 1 (v5.map etI)))]) :=
  Round.path [.val (.int .i64 (v0.length : Int)), .b false] _ (fun k => by kernel_rfl) (AV (ψ := fun _ => ((v0.map etI).length : Int) = (v0.length : Int)) (Ev.c lenMap) <| AC h0 <| AN)
noncomputable def s_l19Others_l0 (v1 : Int) : List Int → Nat → (List Int) → Option s_l19Others_X0
  | [], i, v5 => some (.x0 v5)
  | hd :: rest, i, v5 => cond (hd != v1)
    (if (v5.length + ([hd]).length) * 8 ≤ 140737488355328 ∧ v5.length + ([hd]).length ≤ 4611686018427387904 then s_l19Others_l0 v1 rest (i + 1) (v5 ++ ([hd])) else none)
    (s_l19Others_l0 v1 rest (i + 1) v5)
theorem s_l19Others_L0 (v0 : List Int) (v1 : Int) (rest : List Int) : ∀ (i : Nat) (v5 : List Int), (v0).drop i = rest → v0.length ≤ 9223372036854775807 → Ans (s_l19Others_l0 v1 rest i v5) (s_l19Others_Q0 v0 v1 v5 (i : Int)) := by
  induction rest with
  | nil =>
    intro i v5 hE hl
    have hb := foldEnd hE
    unfold s_l19Others_l0
    exact Ans.some (Loops.stop (s_l19Others_R0_2 v0 v1 v5 (i : Int) hb) (by intro h; cases h))
  | cons hd rest ih =>
    intro i v5 hE hl
    have hb := foldMore hE
    have hw := foldNext hE hl
    have hE2 := foldRest hE
    have hg := foldGet hE
    unfold s_l19Others_l0
    refine Ans.ite (fun h2 => ?_) (fun h2 => ?_)
    · refine Ans.pre (fun h3 => ?_)
      exact (ih (i + 1) (v5 ++ ([hd])) hE2 hl).mono fun y hy => by have r := s_l19Others_R0_0 v0 v1 v5 (i : Int) hd hb hg h2 h3; rw [hw] at r; cases y <;> exact Loops.next r hy
    · exact (ih (i + 1) v5 hE2 hl).mono fun y hy => by have r := s_l19Others_R0_1 v0 v1 v5 (i : Int) hd hb hg h2; rw [hw] at r; cases y <;> exact Loops.next r hy
theorem s_l19Others_P0 (x0 : List Int) (x1 : Int) (w0_5 : List Int) (h0 : Loops E 81 (lpAt Try.f81 0) (stL 28 [(0, .one (.s .far () 1 (x0.map etI))), (1, .one (tI x1)), (5, .one (.s .own () 1 (([] : List Int).map etI))), (6, .one (tI (0 : Int)))]) (.exit 0) (stL 28 [(5, .one (.s .own () 1 (w0_5.map etI)))])) : Does E 81 [.one (.s .far () 1 (x0.map etI)), .one (tI x1)] [(false, [.s .own () 1 (w0_5.map etI)])] :=
  Does.path (fn := Try.f81) [.lp (.exit 0) (stL 28 [(5, .one (.s .own () 1 (w0_5.map etI)))])] _ rfl (fun _ => rfl) (fun k => by kernel_rfl) (AV (ψ := fun k => LoopK E 81 (lpAt Try.f81 0) (stL 28 [(0, .one (.s .far () 1 (x0.map etI))), (1, .one (tI x1)), (5, .one (.s .own () 1 (([] : List Int).map etI))), (6, .one (tI (0 : Int)))]) (.exit 0) (stL 28 [(5, .one (.s .own () 1 (w0_5.map etI)))]) k k) (Loops.ev h0) <| AN)
noncomputable def s_l19Others_F (x0 : List Int) (x1 : Int) : Option ((List Int)) :=
    if x0.length ≤ 9223372036854775807 then (s_l19Others_l0 x1 x0 0 ([])).bind fun y => match y with
      | .x0 w0_5 => (some (w0_5)) else none
theorem s_l19Others_D (x0 : List Int) (x1 : Int) : Ans (s_l19Others_F x0 x1) (fun r => Does E 81 [.one (.s .far () 1 (x0.map etI)), .one (tI x1)] [(false, [.s .own () 1 (r.map etI)])]) := by
  unfold s_l19Others_F
  refine Ans.pre (fun hl1 => ?_)
  refine Ans.bind (fun y hy => ?_)
  replace hy := s_l19Others_L0 x0 x1 x0 0 ([]) rfl hl1 y hy
  cases y with
  | x0 w0_5 =>
    have h0 := hy
    exact Ans.some (s_l19Others_P0 x0 x1 w0_5 h0)
def othersL (l : List Int) (x : Int) : List Int := l.filter fun y => !(y == x)
theorem ol_l (x : Int) : ∀ (rest : List Int) (i : Nat) (v : List Int), v.length + rest.length ≤ 1050000 → s_l19Others_l0 x rest i v = some (.x0 (v ++ othersL rest x))
  | [], i, v, _ => by unfold s_l19Others_l0 othersL; simp
  | y :: rest, i, v, hv => by
    rw [List.length_cons] at hv
    unfold s_l19Others_l0
    have e : (y != x) = !(y == x) := rfl
    cases q : y == x with
    | true =>
      rw [e, q, Bool.not_true, cond_false, ol_l x rest (i + 1) v (by omega)]
      unfold othersL
      rw [List.filter_cons_of_neg (by simp [q])]
    | false =>
      rw [e, q, Bool.not_false, cond_true, if_pos (by simp only [List.length_cons, List.length_nil]; omega), ol_l x rest (i + 1) _ (by simp; omega)]
      unfold othersL
      rw [List.filter_cons_of_pos (by simp [q])]
      simp
theorem T_s_l19Others (x0 : List Int) (x1 : Int) (h : x0.length ≤ 1050000) : Does E 81 [.one (.s .far () 1 (x0.map etI)), .one (tI x1)] [(false, [.s .own () 1 ((othersL x0 x1).map etI)])] := by
  exact s_l19Others_D x0 x1 _ (by
    unfold s_l19Others_F
    rw [if_pos (by omega), ol_l x1 x0 0 [] (by simp; omega)]
    simp)
noncomputable def others (n : GNode) : List Int := othersL (confOf n) n.f0
theorem T_i_Node_others (x0 : GNode) (h : Small.sm x0) (h1 : logOk x0.f6 = true) (h2 : confOk x0.f5 = true) : Does E 146 [.im .far () [tI x0.f0, tI x0.f1, tI x0.f2, tI x0.f3, tI x0.f4, .s .far () 1 (x0.f5.map etI), tI x0.f6.f0, tI x0.f6.f1, .s .far () 3 (x0.f6.f2.map GEntry.t), tI x0.f7, tI x0.f8, tI x0.f9, .s .far () 1 (x0.f10.map etI), .s .far () 4 (x0.f11.map GPeer.t)] 0] [(false, [.s .own () 1 ((others x0).map etI)])] := by
  obtain ⟨N, hN⟩ := T_i_ConfOf x0 h h1
  refine Does.orc ⟨N, fun k hk => ?_⟩
  have e : E.C k 16 [.agg [tI x0.f0, tI x0.f1, tI x0.f2, tI x0.f3, tI x0.f4, .s .far () 1 (x0.f5.map etI), tI x0.f6.f0, tI x0.f6.f1, .s .far () 3 (x0.f6.f2.map GEntry.t), tI x0.f7, tI x0.f8, tI x0.f9, .s .far () 1 (x0.f10.map etI), .s .far () 4 (x0.f11.map GPeer.t)]] = some [(false, [.s .own () 1 ((confOf x0).map etI)])] := hN k hk
  have hne : confOf x0 ≠ [] := confF_some _ _ _ (fun e => by rw [e] at h2; revert h2; unfold confOk; simp)
  have hle : (confOf x0).length ≤ 1050000 := (confOf_sm x0 h).1
  have o : ∀ C us, E.orc C 146 us = othersOrc C us := fun _ _ => rfl
  refine (o _ _).trans ?_
  unfold othersOrc
  simp only [List.map_cons, List.map_nil, T.view]
  rw [e]
  simp only [intsOf_map, Option.bind_some]
  rw [if_pos ⟨hne, rfl, hle⟩]
  rfl
inductive slices_Equal_int_X0 where
  | ret (v4 : Bool)
  | x0 
def slices_Equal_int_Q0 (v0 : List Int) (v1 : List Int) (v12 : Int) (v13 : Int) : slices_Equal_int_X0 → Prop
  | .ret zv4 => Loops E 145 (lpAt Try.f145 0) (stL 26 [(0, .one (.s .far () 1 (v0.map etI))), (1, .one (.s .far () 1 (v1.map etI))), (12, .one (tI v12)), (13, .one (tI v13))]) .ret (stL 26 [(4, .one (tB zv4))])
  | .x0 => Loops E 145 (lpAt Try.f145 0) (stL 26 [(0, .one (.s .far () 1 (v0.map etI))), (1, .one (.s .far () 1 (v1.map etI))), (12, .one (tI v12)), (13, .one (tI v13))]) (.exit 0) (stL 26 [])
theorem slices_Equal_int_R0_0 (v0 : List Int) (v1 : List Int) (v12 : Int) (v13 : Int) (g0 : Int) (g1 : Int) (h0 : (decide (v13 < v12)) = true) (h1 : getI v0 v13 = some g0) (h2 : getI v1 v13 = some g1) (h3 : (g0 != g1) = true) : Round E 145 (lpAt Try.f145 0) (stL 26 [(0, .one (.s .far () 1 (v0.map etI))), (1, .one (.s .far () 1 (v1.map etI))), (12, .one (tI v12)), (13, .one (tI v13))]) .ret (stL 26 [(4, .one (tB false))]) :=
  Round.path [.b true, .row (etI g0), .row (etI g1), .b true] _ (fun k => by kernel_rfl) (AC h0 <| AV (ψ := fun _ => 0 ≤ v13 ∧ (v0.map etI)[v13.toNat]? = some (etI g0)) (Ev.c (getRow h1)) <| AV (ψ := fun _ => 0 ≤ v13 ∧ (v1.map etI)[v13.toNat]? = some (etI g1)) (Ev.c (getRow h2)) <| AC h3 <| AN)
theorem slices_Equal_int_R0_1 (v0 : List Int) (v1 : List Int) (v12 : Int) (v13 : Int) (g0 : Int) (g1 : Int) (h0 : (decide (v13 < v12)) = true) (h1 : getI v0 v13 = some g0) (h2 : getI v1 v13 = some g1) (h3 : (g0 != g1) = false) : Round E 145 (lpAt Try.f145 0) (stL 26 [(0, .one (.s .far () 1 (v0.map etI))), (1, .one (.s .far () 1 (v1.map etI))), (12, .one (tI v12)), (13, .one (tI v13))]) .normal (stL 26 [(0, .one (.s .far () 1 (v0.map etI))), (1, .one (.s .far () 1 (v1.map etI))), (12, .one (tI v12)), (13, .one (tI (inc v13)))]) :=
  Round.path [.b true, .row (etI g0), .row (etI g1), .b false] _ (fun k => by kernel_rfl) (AC h0 <| AV (ψ := fun _ => 0 ≤ v13 ∧ (v0.map etI)[v13.toNat]? = some (etI g0)) (Ev.c (getRow h1)) <| AV (ψ := fun _ => 0 ≤ v13 ∧ (v1.map etI)[v13.toNat]? = some (etI g1)) (Ev.c (getRow h2)) <| AC h3 <| AN)
theorem slices_Equal_int_R0_2 (v0 : List Int) (v1 : List Int) (v12 : Int) (v13 : Int) (h0 : (decide (v13 < v12)) = false) : Round E 145 (lpAt Try.f145 0) (stL 26 [(0, .one (.s .far () 1 (v0.map etI))), (1, .one (.s .far () 1 (v1.map etI))), (12, .one (tI v12)), (13, .one (tI v13))]) (.exit 0) (stL 26 []) :=
  Round.path [.b false] _ (fun k => by kernel_rfl) (AC h0 <| AN)
noncomputable def slices_Equal_int_l0 (v1 : List Int) : List Int → Nat → Option slices_Equal_int_X0
  | [], i => some (.x0)
  | hd :: rest, i => (getI v1 (i : Int)).bind fun g1 => cond (hd != g1)
    (some (.ret false))
    (slices_Equal_int_l0 v1 rest (i + 1))
theorem slices_Equal_int_L0 (v0 : List Int) (v1 : List Int) (rest : List Int) : ∀ (i : Nat) , (v0).drop i = rest → v0.length ≤ 9223372036854775807 → Ans (slices_Equal_int_l0 v1 rest i) (slices_Equal_int_Q0 v0 v1 (v0.length : Int) (i : Int)) := by
  induction rest with
  | nil =>
    intro i hE hl
    have hb := foldEnd hE
    unfold slices_Equal_int_l0
    exact Ans.some (Loops.stop (slices_Equal_int_R0_2 v0 v1 (v0.length : Int) (i : Int) hb) (by intro h; cases h))
  | cons hd rest ih =>
    intro i hE hl
    have hb := foldMore hE
    have hw := foldNext hE hl
    have hE2 := foldRest hE
    have hg := foldGet hE
    unfold slices_Equal_int_l0
    refine Ans.bind (fun g1 h2 => ?_)
    refine Ans.ite (fun h3 => ?_) (fun h3 => ?_)
    · exact Ans.some (Loops.stop (slices_Equal_int_R0_0 v0 v1 (v0.length : Int) (i : Int) hd g1 hb hg h2 h3) (by intro h; cases h))
    · exact (ih (i + 1) hE2 hl).mono fun y hy => by have r := slices_Equal_int_R0_1 v0 v1 (v0.length : Int) (i : Int) hd g1 hb hg h2 h3; rw [hw] at r; cases y <;> exact Loops.next r hy
theorem slices_Equal_int_P0 (x0 : List Int) (x1 : List Int) (h0 : ((x0.length : Int) != (x1.length : Int)) = true) : Does E 145 [.one (.s .far () 1 (x0.map etI)), .one (.s .far () 1 (x1.map etI))] [(false, [tB false])] :=
  Does.path (fn := Try.f145) [.val (.int .i64 (x0.length : Int)), .val (.int .i64 (x1.length : Int)), .b true] _ rfl (fun _ => rfl) (fun k => by kernel_rfl) (AV (ψ := fun _ => ((x0.map etI).length : Int) = (x0.length : Int)) (Ev.c lenMap) <| AV (ψ := fun _ => ((x1.map etI).length : Int) = (x1.length : Int)) (Ev.c lenMap) <| AC h0 <| AN)
theorem slices_Equal_int_P1 (x0 : List Int) (x1 : List Int) (w0_4 : Bool) (h0 : ((x0.length : Int) != (x1.length : Int)) = false) (h1 : Loops E 145 (lpAt Try.f145 0) (stL 26 [(0, .one (.s .far () 1 (x0.map etI))), (1, .one (.s .far () 1 (x1.map etI))), (12, .one (tI (x0.length : Int))), (13, .one (tI (0 : Int)))]) .ret (stL 26 [(4, .one (tB w0_4))])) : Does E 145 [.one (.s .far () 1 (x0.map etI)), .one (.s .far () 1 (x1.map etI))] [(false, [tB w0_4])] :=
  Does.path (fn := Try.f145) [.val (.int .i64 (x0.length : Int)), .val (.int .i64 (x1.length : Int)), .b false, .val (.int .i64 (x0.length : Int)), .lp .ret (stL 26 [(4, .one (tB w0_4))])] _ rfl (fun _ => rfl) (fun k => by kernel_rfl) (AV (ψ := fun _ => ((x0.map etI).length : Int) = (x0.length : Int)) (Ev.c lenMap) <| AV (ψ := fun _ => ((x1.map etI).length : Int) = (x1.length : Int)) (Ev.c lenMap) <| AC h0 <| AV (ψ := fun _ => ((x0.map etI).length : Int) = (x0.length : Int)) (Ev.c lenMap) <| AV (ψ := fun k => LoopK E 145 (lpAt Try.f145 0) (stL 26 [(0, .one (.s .far () 1 (x0.map etI))), (1, .one (.s .far () 1 (x1.map etI))), (12, .one (tI (x0.length : Int))), (13, .one (tI (0 : Int)))]) .ret (stL 26 [(4, .one (tB w0_4))]) k k) (Loops.ev h1) <| AN)
theorem slices_Equal_int_P2 (x0 : List Int) (x1 : List Int) (h0 : ((x0.length : Int) != (x1.length : Int)) = false) (h1 : Loops E 145 (lpAt Try.f145 0) (stL 26 [(0, .one (.s .far () 1 (x0.map etI))), (1, .one (.s .far () 1 (x1.map etI))), (12, .one (tI (x0.length : Int))), (13, .one (tI (0 : Int)))]) (.exit 0) (stL 26 [])) : Does E 145 [.one (.s .far () 1 (x0.map etI)), .one (.s .far () 1 (x1.map etI))] [(false, [tB true])] :=
  Does.path (fn := Try.f145) [.val (.int .i64 (x0.length : Int)), .val (.int .i64 (x1.length : Int)), .b false, .val (.int .i64 (x0.length : Int)), .lp (.exit 0) (stL 26 [])] _ rfl (fun _ => rfl) (fun k => by kernel_rfl) (AV (ψ := fun _ => ((x0.map etI).length : Int) = (x0.length : Int)) (Ev.c lenMap) <| AV (ψ := fun _ => ((x1.map etI).length : Int) = (x1.length : Int)) (Ev.c lenMap) <| AC h0 <| AV (ψ := fun _ => ((x0.map etI).length : Int) = (x0.length : Int)) (Ev.c lenMap) <| AV (ψ := fun k => LoopK E 145 (lpAt Try.f145 0) (stL 26 [(0, .one (.s .far () 1 (x0.map etI))), (1, .one (.s .far () 1 (x1.map etI))), (12, .one (tI (x0.length : Int))), (13, .one (tI (0 : Int)))]) (.exit 0) (stL 26 []) k k) (Loops.ev h1) <| AN)
noncomputable def slices_Equal_int_F (x0 : List Int) (x1 : List Int) : Option (Bool) :=
    cond ((x0.length : Int) != (x1.length : Int))
      (some (false))
      (if x0.length ≤ 9223372036854775807 then (slices_Equal_int_l0 x1 x0 0).bind fun y => match y with
        | .ret w0_4 => (some (w0_4))
        | .x0 => (some (true)) else none)
theorem slices_Equal_int_D (x0 : List Int) (x1 : List Int) : Ans (slices_Equal_int_F x0 x1) (fun r => Does E 145 [.one (.s .far () 1 (x0.map etI)), .one (.s .far () 1 (x1.map etI))] [(false, [tB r])]) := by
  unfold slices_Equal_int_F
  refine Ans.ite (fun h0 => ?_) (fun h0 => ?_)
  · exact Ans.some (slices_Equal_int_P0 x0 x1 h0)
  · refine Ans.pre (fun hl2 => ?_)
    refine Ans.bind (fun y hy => ?_)
    replace hy := slices_Equal_int_L0 x0 x1 x0 0 rfl hl2 y hy
    cases y with
    | ret w0_4 =>
      have h1 := hy
      exact Ans.some (slices_Equal_int_P1 x0 x1 w0_4 h0 h1)
    | x0 =>
      have h1 := hy
      exact Ans.some (slices_Equal_int_P2 x0 x1 h0 h1)
noncomputable def eqL (a b : List Int) : Bool := decide (a = b)
theorem se_l (b : List Int) : ∀ (rest : List Int) (i : Nat), (b.drop i).length = rest.length → slices_Equal_int_l0 b rest i = some (if rest = b.drop i then .x0 else .ret false)
  | [], i, h => by
    have : b.drop i = [] := List.length_eq_zero_iff.1 h
    rw [this, if_pos rfl]; rfl
  | x :: rest, i, h => by
    cases g : b.drop i with
    | nil => rw [g] at h; simp at h
    | cons y q =>
      unfold slices_Equal_int_l0
      rw [foldGet g, Option.bind_some]
      have hq := foldRest g
      have ih := se_l b rest (i + 1) (by rw [hq]; rw [g] at h; simpa using h)
      rw [ih, hq]
      by_cases c : x = y
      · subst c
        rw [bne_self_eq_false, cond_false]
        by_cases d : rest = q
        · rw [if_pos d, if_pos (by rw [d])]
        · rw [if_neg d, if_neg (by simp [d])]
      · rw [show (x != y) = true by simp [c], cond_true, if_neg (by simp [c])]
theorem T_slices_Equal_int (x0 : List Int) (x1 : List Int) (h : x0.length ≤ 1050000) : Does E 145 [.one (.s .far () 1 (x0.map etI)), .one (.s .far () 1 (x1.map etI))] [(false, [tB (eqL x0 x1)])] := by
  exact slices_Equal_int_D x0 x1 _ (by
    unfold slices_Equal_int_F eqL
    by_cases q : (x0.length : Int) = (x1.length : Int)
    · rw [show ((x0.length : Int) != (x1.length : Int)) = false by simp; omega, cond_false, if_pos (by omega), se_l x1 x0 0 (by simp; omega)]
      by_cases c : x0 = x1
      · rw [if_pos (by simpa using c), decide_eq_true c]; rfl
      · rw [if_neg (by simpa using c), decide_eq_false c]; rfl
    · rw [show ((x0.length : Int) != (x1.length : Int)) = true by simp; omega, decide_eq_false (fun e => q (by rw [e]))]; rfl)
inductive i_peersOk_X0 where
  | ret (v2 : Bool)
  | x0 (v4 : List Int)
def i_peersOk_Q0 (v1_0 : Int) (v1_1 : Int) (v1_2 : Int) (v1_3 : Int) (v1_4 : Int) (v1_5 : List Int) (v1_6 : Int) (v1_7 : Int) (v1_8 : List GEntry) (v1_9 : Int) (v1_10 : Int) (v1_11 : Int) (v1_12 : List Int) (v1_13 : List GPeer) (v3 : Int) (v4 : List Int) (v17 : List GPeer) (v18 : Int) (v19 : Int) : i_peersOk_X0 → Prop
  | .ret zv2 => Loops E 87 (lpAt Try.f87 0) (stL 53 [(1, .box () [tI v1_0, tI v1_1, tI v1_2, tI v1_3, tI v1_4, .s .far () 1 (v1_5.map etI), tI v1_6, tI v1_7, .s .far () 3 (v1_8.map GEntry.t), tI v1_9, tI v1_10, tI v1_11, .s .far () 1 (v1_12.map etI), .s .far () 4 (v1_13.map GPeer.t)]), (3, .one (tI v3)), (4, .one (.s .own () 1 (v4.map etI))), (17, .one (.s .far () 4 (v17.map GPeer.t))), (18, .one (tI v18)), (19, .one (tI v19))]) .ret (stL 53 [(2, .one (tB zv2))])
  | .x0 zv4 => Loops E 87 (lpAt Try.f87 0) (stL 53 [(1, .box () [tI v1_0, tI v1_1, tI v1_2, tI v1_3, tI v1_4, .s .far () 1 (v1_5.map etI), tI v1_6, tI v1_7, .s .far () 3 (v1_8.map GEntry.t), tI v1_9, tI v1_10, tI v1_11, .s .far () 1 (v1_12.map etI), .s .far () 4 (v1_13.map GPeer.t)]), (3, .one (tI v3)), (4, .one (.s .own () 1 (v4.map etI))), (17, .one (.s .far () 4 (v17.map GPeer.t))), (18, .one (tI v18)), (19, .one (tI v19))]) (.exit 0) (stL 53 [(1, .box () [tI v1_0, tI v1_1, tI v1_2, tI v1_3, tI v1_4, .s .far () 1 (v1_5.map etI), tI v1_6, tI v1_7, .s .far () 3 (v1_8.map GEntry.t), tI v1_9, tI v1_10, tI v1_11, .s .far () 1 (v1_12.map etI), .s .far () 4 (v1_13.map GPeer.t)]), (4, .one (.s .own () 1 (zv4.map etI)))])
theorem i_peersOk_R0_0 (v1_0 : Int) (v1_1 : Int) (v1_2 : Int) (v1_3 : Int) (v1_4 : Int) (v1_5 : List Int) (v1_6 : Int) (v1_7 : Int) (v1_8 : List GEntry) (v1_9 : Int) (v1_10 : Int) (v1_11 : Int) (v1_12 : List Int) (v1_13 : List GPeer) (v3 : Int) (v4 : List Int) (v17 : List GPeer) (v18 : Int) (v19 : Int) (g0 : GPeer) (h0 : (decide (v19 < v18)) = true) (h1 : getI v17 v19 = some g0) (h2 : (inRange g0.f1 (1 : Int) (inc v3)) = true) (h3 : (inRange g0.f2 (0 : Int) (IntKind.wrap .i64 (g0.f1 - (1 : Int)))) = true) (h4 : (inRange g0.f3 (0 : Int) (20000 : Int)) = true) (h5 : (v4.length + ([g0.f0]).length) * 8 ≤ 140737488355328 ∧ v4.length + ([g0.f0]).length ≤ 4611686018427387904) : Round E 87 (lpAt Try.f87 0) (stL 53 [(1, .box () [tI v1_0, tI v1_1, tI v1_2, tI v1_3, tI v1_4, .s .far () 1 (v1_5.map etI), tI v1_6, tI v1_7, .s .far () 3 (v1_8.map GEntry.t), tI v1_9, tI v1_10, tI v1_11, .s .far () 1 (v1_12.map etI), .s .far () 4 (v1_13.map GPeer.t)]), (3, .one (tI v3)), (4, .one (.s .own () 1 (v4.map etI))), (17, .one (.s .far () 4 (v17.map GPeer.t))), (18, .one (tI v18)), (19, .one (tI v19))]) .normal (stL 53 [(1, .box () [tI v1_0, tI v1_1, tI v1_2, tI v1_3, tI v1_4, .s .far () 1 (v1_5.map etI), tI v1_6, tI v1_7, .s .far () 3 (v1_8.map GEntry.t), tI v1_9, tI v1_10, tI v1_11, .s .far () 1 (v1_12.map etI), .s .far () 4 (v1_13.map GPeer.t)]), (3, .one (tI v3)), (4, .one (.s .own () 1 ((v4 ++ ([g0.f0])).map etI))), (17, .one (.s .far () 4 (v17.map GPeer.t))), (18, .one (tI v18)), (19, .one (tI (inc v19)))]) :=
  Round.path [.b true, .row (GPeer.t g0), rT, rT, rT, .rows ((v4 ++ ([g0.f0])).map etI)] _ (fun k => by kernel_rfl) (AC h0 <| AV (ψ := fun _ => 0 ≤ v19 ∧ (v17.map GPeer.t)[v19.toNat]? = some (GPeer.t g0)) (Ev.c (getRow h1)) <| AD (Does.tB (T_i_inRange g0.f1 (1 : Int) (inc v3)) h2) <| AD (Does.tB (T_i_inRange g0.f2 (0 : Int) (IntKind.wrap .i64 (g0.f1 - (1 : Int)))) h3) <| AD (Does.tB (T_i_inRange g0.f3 (0 : Int) (20000 : Int)) h4) <| AV (ψ := fun _ => (((([g0.f0]).map etI).drop 0).take (([g0.f0]).map etI).length).all (fun r => r.all T.flat) = true ∧ ((v4.map etI).length + (((([g0.f0]).map etI).drop 0).take (([g0.f0]).map etI).length).length) * 8 ≤ 140737488355328 ∧ (v4.map etI).length + (((([g0.f0]).map etI).drop 0).take (([g0.f0]).map etI).length).length ≤ 4611686018427387904) (Ev.c (by simp only [List.take_length, List.drop_zero]; exact appOk (fun x => rfl) h5)) <| AV (ψ := fun _ => (v4.map etI) ++ (((([g0.f0]).map etI).drop 0).take (([g0.f0]).map etI).length) = (v4 ++ ([g0.f0])).map etI) (Ev.c (by simp only [List.take_length, List.drop_zero]; exact appMap)) <| AN)
theorem i_peersOk_R0_1 (v1_0 : Int) (v1_1 : Int) (v1_2 : Int) (v1_3 : Int) (v1_4 : Int) (v1_5 : List Int) (v1_6 : Int) (v1_7 : Int) (v1_8 : List GEntry) (v1_9 : Int) (v1_10 : Int) (v1_11 : Int) (v1_12 : List Int) (v1_13 : List GPeer) (v3 : Int) (v4 : List Int) (v17 : List GPeer) (v18 : Int) (v19 : Int) (g0 : GPeer) (h0 : (decide (v19 < v18)) = true) (h1 : getI v17 v19 = some g0) (h2 : (inRange g0.f1 (1 : Int) (inc v3)) = true) (h3 : (inRange g0.f2 (0 : Int) (IntKind.wrap .i64 (g0.f1 - (1 : Int)))) = true) (h4 : (inRange g0.f3 (0 : Int) (20000 : Int)) = false) : Round E 87 (lpAt Try.f87 0) (stL 53 [(1, .box () [tI v1_0, tI v1_1, tI v1_2, tI v1_3, tI v1_4, .s .far () 1 (v1_5.map etI), tI v1_6, tI v1_7, .s .far () 3 (v1_8.map GEntry.t), tI v1_9, tI v1_10, tI v1_11, .s .far () 1 (v1_12.map etI), .s .far () 4 (v1_13.map GPeer.t)]), (3, .one (tI v3)), (4, .one (.s .own () 1 (v4.map etI))), (17, .one (.s .far () 4 (v17.map GPeer.t))), (18, .one (tI v18)), (19, .one (tI v19))]) .ret (stL 53 [(2, .one (tB false))]) :=
  Round.path [.b true, .row (GPeer.t g0), rT, rT, rF] _ (fun k => by kernel_rfl) (AC h0 <| AV (ψ := fun _ => 0 ≤ v19 ∧ (v17.map GPeer.t)[v19.toNat]? = some (GPeer.t g0)) (Ev.c (getRow h1)) <| AD (Does.tB (T_i_inRange g0.f1 (1 : Int) (inc v3)) h2) <| AD (Does.tB (T_i_inRange g0.f2 (0 : Int) (IntKind.wrap .i64 (g0.f1 - (1 : Int)))) h3) <| AD (Does.tB (T_i_inRange g0.f3 (0 : Int) (20000 : Int)) h4) <| AN)
theorem i_peersOk_R0_2 (v1_0 : Int) (v1_1 : Int) (v1_2 : Int) (v1_3 : Int) (v1_4 : Int) (v1_5 : List Int) (v1_6 : Int) (v1_7 : Int) (v1_8 : List GEntry) (v1_9 : Int) (v1_10 : Int) (v1_11 : Int) (v1_12 : List Int) (v1_13 : List GPeer) (v3 : Int) (v4 : List Int) (v17 : List GPeer) (v18 : Int) (v19 : Int) (g0 : GPeer) (h0 : (decide (v19 < v18)) = true) (h1 : getI v17 v19 = some g0) (h2 : (inRange g0.f1 (1 : Int) (inc v3)) = true) (h3 : (inRange g0.f2 (0 : Int) (IntKind.wrap .i64 (g0.f1 - (1 : Int)))) = false) : Round E 87 (lpAt Try.f87 0) (stL 53 [(1, .box () [tI v1_0, tI v1_1, tI v1_2, tI v1_3, tI v1_4, .s .far () 1 (v1_5.map etI), tI v1_6, tI v1_7, .s .far () 3 (v1_8.map GEntry.t), tI v1_9, tI v1_10, tI v1_11, .s .far () 1 (v1_12.map etI), .s .far () 4 (v1_13.map GPeer.t)]), (3, .one (tI v3)), (4, .one (.s .own () 1 (v4.map etI))), (17, .one (.s .far () 4 (v17.map GPeer.t))), (18, .one (tI v18)), (19, .one (tI v19))]) .ret (stL 53 [(2, .one (tB false))]) :=
  Round.path [.b true, .row (GPeer.t g0), rT, rF] _ (fun k => by kernel_rfl) (AC h0 <| AV (ψ := fun _ => 0 ≤ v19 ∧ (v17.map GPeer.t)[v19.toNat]? = some (GPeer.t g0)) (Ev.c (getRow h1)) <| AD (Does.tB (T_i_inRange g0.f1 (1 : Int) (inc v3)) h2) <| AD (Does.tB (T_i_inRange g0.f2 (0 : Int) (IntKind.wrap .i64 (g0.f1 - (1 : Int)))) h3) <| AN)
theorem i_peersOk_R0_3 (v1_0 : Int) (v1_1 : Int) (v1_2 : Int) (v1_3 : Int) (v1_4 : Int) (v1_5 : List Int) (v1_6 : Int) (v1_7 : Int) (v1_8 : List GEntry) (v1_9 : Int) (v1_10 : Int) (v1_11 : Int) (v1_12 : List Int) (v1_13 : List GPeer) (v3 : Int) (v4 : List Int) (v17 : List GPeer) (v18 : Int) (v19 : Int) (g0 : GPeer) (h0 : (decide (v19 < v18)) = true) (h1 : getI v17 v19 = some g0) (h2 : (inRange g0.f1 (1 : Int) (inc v3)) = false) : Round E 87 (lpAt Try.f87 0) (stL 53 [(1, .box () [tI v1_0, tI v1_1, tI v1_2, tI v1_3, tI v1_4, .s .far () 1 (v1_5.map etI), tI v1_6, tI v1_7, .s .far () 3 (v1_8.map GEntry.t), tI v1_9, tI v1_10, tI v1_11, .s .far () 1 (v1_12.map etI), .s .far () 4 (v1_13.map GPeer.t)]), (3, .one (tI v3)), (4, .one (.s .own () 1 (v4.map etI))), (17, .one (.s .far () 4 (v17.map GPeer.t))), (18, .one (tI v18)), (19, .one (tI v19))]) .ret (stL 53 [(2, .one (tB false))]) :=
  Round.path [.b true, .row (GPeer.t g0), rF] _ (fun k => by kernel_rfl) (AC h0 <| AV (ψ := fun _ => 0 ≤ v19 ∧ (v17.map GPeer.t)[v19.toNat]? = some (GPeer.t g0)) (Ev.c (getRow h1)) <| AD (Does.tB (T_i_inRange g0.f1 (1 : Int) (inc v3)) h2) <| AN)
theorem i_peersOk_R0_4 (v1_0 : Int) (v1_1 : Int) (v1_2 : Int) (v1_3 : Int) (v1_4 : Int) (v1_5 : List Int) (v1_6 : Int) (v1_7 : Int) (v1_8 : List GEntry) (v1_9 : Int) (v1_10 : Int) (v1_11 : Int) (v1_12 : List Int) (v1_13 : List GPeer) (v3 : Int) (v4 : List Int) (v17 : List GPeer) (v18 : Int) (v19 : Int) (h0 : (decide (v19 < v18)) = false) : Round E 87 (lpAt Try.f87 0) (stL 53 [(1, .box () [tI v1_0, tI v1_1, tI v1_2, tI v1_3, tI v1_4, .s .far () 1 (v1_5.map etI), tI v1_6, tI v1_7, .s .far () 3 (v1_8.map GEntry.t), tI v1_9, tI v1_10, tI v1_11, .s .far () 1 (v1_12.map etI), .s .far () 4 (v1_13.map GPeer.t)]), (3, .one (tI v3)), (4, .one (.s .own () 1 (v4.map etI))), (17, .one (.s .far () 4 (v17.map GPeer.t))), (18, .one (tI v18)), (19, .one (tI v19))]) (.exit 0) (stL 53 [(1, .box () [tI v1_0, tI v1_1, tI v1_2, tI v1_3, tI v1_4, .s .far () 1 (v1_5.map etI), tI v1_6, tI v1_7, .s .far () 3 (v1_8.map GEntry.t), tI v1_9, tI v1_10, tI v1_11, .s .far () 1 (v1_12.map etI), .s .far () 4 (v1_13.map GPeer.t)]), (4, .one (.s .own () 1 (v4.map etI)))]) :=
  Round.path [.b false] _ (fun k => by kernel_rfl) (AC h0 <| AN)
noncomputable def i_peersOk_l0 (v3 : Int) : List GPeer → Nat → (List Int) → Option i_peersOk_X0
  | [], i, v4 => some (.x0 v4)
  | hd :: rest, i, v4 => cond (inRange hd.f1 (1 : Int) (inc v3))
    (cond (inRange hd.f2 (0 : Int) (IntKind.wrap .i64 (hd.f1 - (1 : Int))))
      (cond (inRange hd.f3 (0 : Int) (20000 : Int))
        (if (v4.length + ([hd.f0]).length) * 8 ≤ 140737488355328 ∧ v4.length + ([hd.f0]).length ≤ 4611686018427387904 then i_peersOk_l0 v3 rest (i + 1) (v4 ++ ([hd.f0])) else none)
        (some (.ret false)))
      (some (.ret false)))
    (some (.ret false))
theorem i_peersOk_L0 (v1_0 : Int) (v1_1 : Int) (v1_2 : Int) (v1_3 : Int) (v1_4 : Int) (v1_5 : List Int) (v1_6 : Int) (v1_7 : Int) (v1_8 : List GEntry) (v1_9 : Int) (v1_10 : Int) (v1_11 : Int) (v1_12 : List Int) (v1_13 : List GPeer) (v3 : Int) (v17 : List GPeer) (rest : List GPeer) : ∀ (i : Nat) (v4 : List Int), (v17).drop i = rest → v17.length ≤ 9223372036854775807 → Ans (i_peersOk_l0 v3 rest i v4) (i_peersOk_Q0 v1_0 v1_1 v1_2 v1_3 v1_4 v1_5 v1_6 v1_7 v1_8 v1_9 v1_10 v1_11 v1_12 v1_13 v3 v4 v17 (v17.length : Int) (i : Int)) := by
  induction rest with
  | nil =>
    intro i v4 hE hl
    have hb := foldEnd hE
    unfold i_peersOk_l0
    exact Ans.some (Loops.stop (i_peersOk_R0_4 v1_0 v1_1 v1_2 v1_3 v1_4 v1_5 v1_6 v1_7 v1_8 v1_9 v1_10 v1_11 v1_12 v1_13 v3 v4 v17 (v17.length : Int) (i : Int) hb) (by intro h; cases h))
  | cons hd rest ih =>
    intro i v4 hE hl
    have hb := foldMore hE
    have hw := foldNext hE hl
    have hE2 := foldRest hE
    have hg := foldGet hE
    unfold i_peersOk_l0
    refine Ans.ite (fun h2 => ?_) (fun h2 => ?_)
    · refine Ans.ite (fun h3 => ?_) (fun h3 => ?_)
      · refine Ans.ite (fun h4 => ?_) (fun h4 => ?_)
        · refine Ans.pre (fun h5 => ?_)
          exact (ih (i + 1) (v4 ++ ([hd.f0])) hE2 hl).mono fun y hy => by have r := i_peersOk_R0_0 v1_0 v1_1 v1_2 v1_3 v1_4 v1_5 v1_6 v1_7 v1_8 v1_9 v1_10 v1_11 v1_12 v1_13 v3 v4 v17 (v17.length : Int) (i : Int) hd hb hg h2 h3 h4 h5; rw [hw] at r; cases y <;> exact Loops.next r hy
        · exact Ans.some (Loops.stop (i_peersOk_R0_1 v1_0 v1_1 v1_2 v1_3 v1_4 v1_5 v1_6 v1_7 v1_8 v1_9 v1_10 v1_11 v1_12 v1_13 v3 v4 v17 (v17.length : Int) (i : Int) hd hb hg h2 h3 h4) (by intro h; cases h))
      · exact Ans.some (Loops.stop (i_peersOk_R0_2 v1_0 v1_1 v1_2 v1_3 v1_4 v1_5 v1_6 v1_7 v1_8 v1_9 v1_10 v1_11 v1_12 v1_13 v3 v4 v17 (v17.length : Int) (i : Int) hd hb hg h2 h3) (by intro h; cases h))
    · exact Ans.some (Loops.stop (i_peersOk_R0_3 v1_0 v1_1 v1_2 v1_3 v1_4 v1_5 v1_6 v1_7 v1_8 v1_9 v1_10 v1_11 v1_12 v1_13 v3 v4 v17 (v17.length : Int) (i : Int) hd hb hg h2) (by intro h; cases h))
theorem i_peersOk_P0 (x0 : GNode) (h0 : (x0.f3 != (2 : Int)) = true) : Does E 87 [.agg (GNode.t .far x0)] [(false, [tB ((x0.f11.length : Int) == (0 : Int))])] :=
  Does.path (fn := Try.f87) [.b true, .val (.int .i64 (x0.f11.length : Int))] _ rfl (fun _ => rfl) (fun k => by kernel_rfl) (AC h0 <| AV (ψ := fun _ => ((x0.f11.map GPeer.t).length : Int) = (x0.f11.length : Int)) (Ev.c lenMap) <| AN)
theorem i_peersOk_P1 (x0 : GNode) (w0_2 : Bool) (h0 : (x0.f3 != (2 : Int)) = false) (h1 : Loops E 87 (lpAt Try.f87 0) (stL 53 [(1, .box () [tI x0.f0, tI x0.f1, tI x0.f2, tI x0.f3, tI x0.f4, .s .far () 1 (x0.f5.map etI), tI x0.f6.f0, tI x0.f6.f1, .s .far () 3 (x0.f6.f2.map GEntry.t), tI x0.f7, tI x0.f8, tI x0.f9, .s .far () 1 (x0.f10.map etI), .s .far () 4 (x0.f11.map GPeer.t)]), (3, .one (tI (logEnd x0.f6))), (4, .one (.s .own () 1 (([] : List Int).map etI))), (17, .one (.s .far () 4 (x0.f11.map GPeer.t))), (18, .one (tI (x0.f11.length : Int))), (19, .one (tI (0 : Int)))]) .ret (stL 53 [(2, .one (tB w0_2))])) : Does E 87 [.agg (GNode.t .far x0)] [(false, [tB w0_2])] :=
  Does.path (fn := Try.f87) [.b false, .ret [(false, [tI (logEnd x0.f6)])], .val (.int .i64 (x0.f11.length : Int)), .lp .ret (stL 53 [(2, .one (tB w0_2))])] _ rfl (fun _ => rfl) (fun k => by kernel_rfl) (AC h0 <| AD (T_i_Log_last x0.f6) <| AV (ψ := fun _ => ((x0.f11.map GPeer.t).length : Int) = (x0.f11.length : Int)) (Ev.c lenMap) <| AV (ψ := fun k => LoopK E 87 (lpAt Try.f87 0) (stL 53 [(1, .box () [tI x0.f0, tI x0.f1, tI x0.f2, tI x0.f3, tI x0.f4, .s .far () 1 (x0.f5.map etI), tI x0.f6.f0, tI x0.f6.f1, .s .far () 3 (x0.f6.f2.map GEntry.t), tI x0.f7, tI x0.f8, tI x0.f9, .s .far () 1 (x0.f10.map etI), .s .far () 4 (x0.f11.map GPeer.t)]), (3, .one (tI (logEnd x0.f6))), (4, .one (.s .own () 1 (([] : List Int).map etI))), (17, .one (.s .far () 4 (x0.f11.map GPeer.t))), (18, .one (tI (x0.f11.length : Int))), (19, .one (tI (0 : Int)))]) .ret (stL 53 [(2, .one (tB w0_2))]) k k) (Loops.ev h1) <| AN)
theorem i_peersOk_P2 (x0 : GNode) (w0_4 : List Int) (h0 : (x0.f3 != (2 : Int)) = false) (h1 : Loops E 87 (lpAt Try.f87 0) (stL 53 [(1, .box () [tI x0.f0, tI x0.f1, tI x0.f2, tI x0.f3, tI x0.f4, .s .far () 1 (x0.f5.map etI), tI x0.f6.f0, tI x0.f6.f1, .s .far () 3 (x0.f6.f2.map GEntry.t), tI x0.f7, tI x0.f8, tI x0.f9, .s .far () 1 (x0.f10.map etI), .s .far () 4 (x0.f11.map GPeer.t)]), (3, .one (tI (logEnd x0.f6))), (4, .one (.s .own () 1 (([] : List Int).map etI))), (17, .one (.s .far () 4 (x0.f11.map GPeer.t))), (18, .one (tI (x0.f11.length : Int))), (19, .one (tI (0 : Int)))]) (.exit 0) (stL 53 [(1, .box () [tI x0.f0, tI x0.f1, tI x0.f2, tI x0.f3, tI x0.f4, .s .far () 1 (x0.f5.map etI), tI x0.f6.f0, tI x0.f6.f1, .s .far () 3 (x0.f6.f2.map GEntry.t), tI x0.f7, tI x0.f8, tI x0.f9, .s .far () 1 (x0.f10.map etI), .s .far () 4 (x0.f11.map GPeer.t)]), (4, .one (.s .own () 1 (w0_4.map etI)))])) (h2 : Small.sm x0) (h3 : logOk x0.f6 = true) (h4 : confOk x0.f5 = true) (h5 : w0_4.length ≤ 1050000) : Does E 87 [.agg (GNode.t .far x0)] [(false, [tB (eqL w0_4 (others x0))])] :=
  Does.path (fn := Try.f87) [.b false, .ret [(false, [tI (logEnd x0.f6)])], .val (.int .i64 (x0.f11.length : Int)), .lp (.exit 0) (stL 53 [(1, .box () [tI x0.f0, tI x0.f1, tI x0.f2, tI x0.f3, tI x0.f4, .s .far () 1 (x0.f5.map etI), tI x0.f6.f0, tI x0.f6.f1, .s .far () 3 (x0.f6.f2.map GEntry.t), tI x0.f7, tI x0.f8, tI x0.f9, .s .far () 1 (x0.f10.map etI), .s .far () 4 (x0.f11.map GPeer.t)]), (4, .one (.s .own () 1 (w0_4.map etI)))]), .ret [(false, [.s .own () 1 ((others x0).map etI)])], .ret [(false, [tB (eqL w0_4 (others x0))])]] _ rfl (fun _ => rfl) (fun k => by kernel_rfl) (AC h0 <| AD (T_i_Log_last x0.f6) <| AV (ψ := fun _ => ((x0.f11.map GPeer.t).length : Int) = (x0.f11.length : Int)) (Ev.c lenMap) <| AV (ψ := fun k => LoopK E 87 (lpAt Try.f87 0) (stL 53 [(1, .box () [tI x0.f0, tI x0.f1, tI x0.f2, tI x0.f3, tI x0.f4, .s .far () 1 (x0.f5.map etI), tI x0.f6.f0, tI x0.f6.f1, .s .far () 3 (x0.f6.f2.map GEntry.t), tI x0.f7, tI x0.f8, tI x0.f9, .s .far () 1 (x0.f10.map etI), .s .far () 4 (x0.f11.map GPeer.t)]), (3, .one (tI (logEnd x0.f6))), (4, .one (.s .own () 1 (([] : List Int).map etI))), (17, .one (.s .far () 4 (x0.f11.map GPeer.t))), (18, .one (tI (x0.f11.length : Int))), (19, .one (tI (0 : Int)))]) (.exit 0) (stL 53 [(1, .box () [tI x0.f0, tI x0.f1, tI x0.f2, tI x0.f3, tI x0.f4, .s .far () 1 (x0.f5.map etI), tI x0.f6.f0, tI x0.f6.f1, .s .far () 3 (x0.f6.f2.map GEntry.t), tI x0.f7, tI x0.f8, tI x0.f9, .s .far () 1 (x0.f10.map etI), .s .far () 4 (x0.f11.map GPeer.t)]), (4, .one (.s .own () 1 (w0_4.map etI)))]) k k) (Loops.ev h1) <| AD (T_i_Node_others x0 h2 h3 h4) <| AV (ψ := fun k => E.C k 145 [.one (.s .far () 1 (((w0_4.map etI).drop 0).take (w0_4.map etI).length)), .one (.s .far () 1 ((((others x0).map etI).drop 0).take ((others x0).map etI).length))] = some [(false, [tB (eqL w0_4 (others x0))])]) (Does.args (by simp only [List.take_length, List.drop_zero]) (T_slices_Equal_int w0_4 (others x0) h5)) <| AN)
noncomputable def i_peersOk_F (x0 : GNode) : Option (Bool) :=
    cond (x0.f3 != (2 : Int))
      (some ((x0.f11.length : Int) == (0 : Int)))
      (if x0.f11.length ≤ 9223372036854775807 then (i_peersOk_l0 (logEnd x0.f6) x0.f11 0 ([])).bind fun y => match y with
        | .ret w0_2 => (some (w0_2))
        | .x0 w0_4 => (if Small.sm x0 then if logOk x0.f6 = true then if confOk x0.f5 = true then if w0_4.length ≤ 1050000 then some (eqL w0_4 (others x0)) else none else none else none else none) else none)
theorem i_peersOk_D (x0 : GNode) : Ans (i_peersOk_F x0) (fun r => Does E 87 [.agg (GNode.t .far x0)] [(false, [tB r])]) := by
  unfold i_peersOk_F
  refine Ans.ite (fun h0 => ?_) (fun h0 => ?_)
  · exact Ans.some (i_peersOk_P0 x0 h0)
  · refine Ans.pre (fun hl2 => ?_)
    refine Ans.bind (fun y hy => ?_)
    replace hy := i_peersOk_L0 x0.f0 x0.f1 x0.f2 x0.f3 x0.f4 x0.f5 x0.f6.f0 x0.f6.f1 x0.f6.f2 x0.f7 x0.f8 x0.f9 x0.f10 x0.f11 (logEnd x0.f6) x0.f11 x0.f11 0 ([]) rfl hl2 y hy
    cases y with
    | ret w0_2 =>
      have h1 := hy
      exact Ans.some (i_peersOk_P1 x0 w0_2 h0 h1)
    | x0 w0_4 =>
      have h1 := hy
      refine Ans.pre (fun h2 => ?_)
      refine Ans.pre (fun h3 => ?_)
      refine Ans.pre (fun h4 => ?_)
      refine Ans.pre (fun h5 => ?_)
      exact Ans.some (i_peersOk_P2 x0 w0_4 h0 h1 h2 h3 h4 h5)
def peerOk (last : Int) (p : GPeer) : Bool := inRange p.f1 1 (inc last) && inRange p.f2 0 (IntKind.wrap .i64 (p.f1 - 1)) && inRange p.f3 0 20000
noncomputable def peersOk (n : GNode) : Bool := cond (n.f3 != 2) ((n.f11.length : Int) == 0) (n.f11.all (peerOk (logEnd n.f6)) && eqL (n.f11.map GPeer.f0) (others n))
theorem po_l (last : Int) : ∀ (rest : List GPeer) (i : Nat) (v : List Int), v.length + rest.length ≤ 1050000 → i_peersOk_l0 last rest i v = some (if rest.all (peerOk last) = true then .x0 (v ++ rest.map GPeer.f0) else .ret false)
  | [], i, v, _ => by unfold i_peersOk_l0; simp
  | p :: rest, i, v, hv => by
    rw [List.length_cons] at hv
    unfold i_peersOk_l0
    rw [if_pos (by simp only [List.length_cons, List.length_nil]; omega), po_l last rest (i + 1) _ (by simp; omega), List.all_cons]
    unfold peerOk
    cases inRange p.f1 1 (inc last) <;> cases inRange p.f2 0 (IntKind.wrap .i64 (p.f1 - 1)) <;> cases inRange p.f3 0 20000 <;> simp
theorem T_i_peersOk (x0 : GNode) (h : Small.sm x0) (h1 : logOk x0.f6 = true) (h2 : confOk x0.f5 = true) : Does E 87 [.agg (GNode.t .far x0)] [(false, [tB (peersOk x0)])] := by
  exact i_peersOk_D x0 _ (by
    have hp : x0.f11.length ≤ 1050000 := h.2.2.2.1
    unfold i_peersOk_F peersOk
    cases x0.f3 != 2 with
    | true => rfl
    | false =>
      have hm : ([] ++ x0.f11.map GPeer.f0).length ≤ 1050000 := by simpa using hp
      rw [cond_false, cond_false, if_pos (by omega), po_l _ x0.f11 0 [] (by simp; omega)]
      cases x0.f11.all (peerOk (logEnd x0.f6)) with
      | false => rfl
      | true =>
        simp only [if_true, Option.bind_some, h, h1, h2, hm]
        rfl)
inductive s_NodeOk_X0 where
  | ret (v2 : Bool)
  | x0 
def s_NodeOk_Q0 (v1_0 : Int) (v1_1 : Int) (v1_2 : Int) (v1_3 : Int) (v1_4 : Int) (v1_5 : List Int) (v1_6 : Int) (v1_7 : Int) (v1_8 : List GEntry) (v1_9 : Int) (v1_10 : Int) (v1_11 : Int) (v1_12 : List Int) (v1_13 : List GPeer) (v3 : Int) (v5 : List Int) (v6 : Int) : s_NodeOk_X0 → Prop
  | .ret zv2 => Loops E 22 (lpAt Try.f22 0) (stL 153 [(1, .box () [tI v1_0, tI v1_1, tI v1_2, tI v1_3, tI v1_4, .s .far () 1 (v1_5.map etI), tI v1_6, tI v1_7, .s .far () 3 (v1_8.map GEntry.t), tI v1_9, tI v1_10, tI v1_11, .s .far () 1 (v1_12.map etI), .s .far () 4 (v1_13.map GPeer.t)]), (3, .one (tI v3)), (5, .one (.s .own () 1 (v5.map etI))), (6, .one (tI v6))]) .ret (stL 153 [(2, .one (tB zv2))])
  | .x0 => Loops E 22 (lpAt Try.f22 0) (stL 153 [(1, .box () [tI v1_0, tI v1_1, tI v1_2, tI v1_3, tI v1_4, .s .far () 1 (v1_5.map etI), tI v1_6, tI v1_7, .s .far () 3 (v1_8.map GEntry.t), tI v1_9, tI v1_10, tI v1_11, .s .far () 1 (v1_12.map etI), .s .far () 4 (v1_13.map GPeer.t)]), (3, .one (tI v3)), (5, .one (.s .own () 1 (v5.map etI))), (6, .one (tI v6))]) (.exit 0) (stL 153 [])
theorem s_NodeOk_R0_0 (v1_0 : Int) (v1_1 : Int) (v1_2 : Int) (v1_3 : Int) (v1_4 : Int) (v1_5 : List Int) (v1_6 : Int) (v1_7 : Int) (v1_8 : List GEntry) (v1_9 : Int) (v1_10 : Int) (v1_11 : Int) (v1_12 : List Int) (v1_13 : List GPeer) (v3 : Int) (v5 : List Int) (v6 : Int) (g0 : GPeer) (g1 : Int) (h0 : (decide (v6 < (v5.length : Int))) = true) (h1 : getI v1_13 v6 = some g0) (h2 : getI v5 v6 = some g1) (h3 : (g0.f0 != g1) = true) : Round E 22 (lpAt Try.f22 0) (stL 153 [(1, .box () [tI v1_0, tI v1_1, tI v1_2, tI v1_3, tI v1_4, .s .far () 1 (v1_5.map etI), tI v1_6, tI v1_7, .s .far () 3 (v1_8.map GEntry.t), tI v1_9, tI v1_10, tI v1_11, .s .far () 1 (v1_12.map etI), .s .far () 4 (v1_13.map GPeer.t)]), (3, .one (tI v3)), (5, .one (.s .own () 1 (v5.map etI))), (6, .one (tI v6))]) .ret (stL 153 [(2, .one (tB false))]) :=
  Round.path [.val (.int .i64 (v5.length : Int)), .b true, .row (GPeer.t g0), .row (etI g1), .b true] _ (fun k => by kernel_rfl) (AV (ψ := fun _ => ((v5.map etI).length : Int) = (v5.length : Int)) (Ev.c lenMap) <| AC h0 <| AV (ψ := fun _ => 0 ≤ v6 ∧ (v1_13.map GPeer.t)[v6.toNat]? = some (GPeer.t g0)) (Ev.c (getRow h1)) <| AV (ψ := fun _ => 0 ≤ v6 ∧ v6 < ((v5.map etI).length : Int)) (Ev.c (getLt h2)) <| AV (ψ := fun _ => (v5.map etI)[0 + v6.toNat]? = some (etI g1)) (Ev.c (getRow0 h2)) <| AC h3 <| AN)
theorem s_NodeOk_R0_1 (v1_0 : Int) (v1_1 : Int) (v1_2 : Int) (v1_3 : Int) (v1_4 : Int) (v1_5 : List Int) (v1_6 : Int) (v1_7 : Int) (v1_8 : List GEntry) (v1_9 : Int) (v1_10 : Int) (v1_11 : Int) (v1_12 : List Int) (v1_13 : List GPeer) (v3 : Int) (v5 : List Int) (v6 : Int) (g0 : GPeer) (g1 : Int) (h0 : (decide (v6 < (v5.length : Int))) = true) (h1 : getI v1_13 v6 = some g0) (h2 : getI v5 v6 = some g1) (h3 : (g0.f0 != g1) = false) (h4 : (inRange g0.f1 (1 : Int) (inc v3)) = true) (h5 : (inRange g0.f2 (0 : Int) (IntKind.wrap .i64 (g0.f1 - (1 : Int)))) = true) (h6 : (inRange g0.f3 (0 : Int) (20000 : Int)) = true) : Round E 22 (lpAt Try.f22 0) (stL 153 [(1, .box () [tI v1_0, tI v1_1, tI v1_2, tI v1_3, tI v1_4, .s .far () 1 (v1_5.map etI), tI v1_6, tI v1_7, .s .far () 3 (v1_8.map GEntry.t), tI v1_9, tI v1_10, tI v1_11, .s .far () 1 (v1_12.map etI), .s .far () 4 (v1_13.map GPeer.t)]), (3, .one (tI v3)), (5, .one (.s .own () 1 (v5.map etI))), (6, .one (tI v6))]) .normal (stL 153 [(1, .box () [tI v1_0, tI v1_1, tI v1_2, tI v1_3, tI v1_4, .s .far () 1 (v1_5.map etI), tI v1_6, tI v1_7, .s .far () 3 (v1_8.map GEntry.t), tI v1_9, tI v1_10, tI v1_11, .s .far () 1 (v1_12.map etI), .s .far () 4 (v1_13.map GPeer.t)]), (3, .one (tI v3)), (5, .one (.s .own () 1 (v5.map etI))), (6, .one (tI (inc v6)))]) :=
  Round.path [.val (.int .i64 (v5.length : Int)), .b true, .row (GPeer.t g0), .row (etI g1), .b false, rT, rT, rT] _ (fun k => by kernel_rfl) (AV (ψ := fun _ => ((v5.map etI).length : Int) = (v5.length : Int)) (Ev.c lenMap) <| AC h0 <| AV (ψ := fun _ => 0 ≤ v6 ∧ (v1_13.map GPeer.t)[v6.toNat]? = some (GPeer.t g0)) (Ev.c (getRow h1)) <| AV (ψ := fun _ => 0 ≤ v6 ∧ v6 < ((v5.map etI).length : Int)) (Ev.c (getLt h2)) <| AV (ψ := fun _ => (v5.map etI)[0 + v6.toNat]? = some (etI g1)) (Ev.c (getRow0 h2)) <| AC h3 <| AD (Does.tB (T_s_l01In g0.f1 (1 : Int) (inc v3)) h4) <| AD (Does.tB (T_s_l01In g0.f2 (0 : Int) (IntKind.wrap .i64 (g0.f1 - (1 : Int)))) h5) <| AD (Does.tB (T_s_l01In g0.f3 (0 : Int) (20000 : Int)) h6) <| AN)
theorem s_NodeOk_R0_2 (v1_0 : Int) (v1_1 : Int) (v1_2 : Int) (v1_3 : Int) (v1_4 : Int) (v1_5 : List Int) (v1_6 : Int) (v1_7 : Int) (v1_8 : List GEntry) (v1_9 : Int) (v1_10 : Int) (v1_11 : Int) (v1_12 : List Int) (v1_13 : List GPeer) (v3 : Int) (v5 : List Int) (v6 : Int) (g0 : GPeer) (g1 : Int) (h0 : (decide (v6 < (v5.length : Int))) = true) (h1 : getI v1_13 v6 = some g0) (h2 : getI v5 v6 = some g1) (h3 : (g0.f0 != g1) = false) (h4 : (inRange g0.f1 (1 : Int) (inc v3)) = true) (h5 : (inRange g0.f2 (0 : Int) (IntKind.wrap .i64 (g0.f1 - (1 : Int)))) = true) (h6 : (inRange g0.f3 (0 : Int) (20000 : Int)) = false) : Round E 22 (lpAt Try.f22 0) (stL 153 [(1, .box () [tI v1_0, tI v1_1, tI v1_2, tI v1_3, tI v1_4, .s .far () 1 (v1_5.map etI), tI v1_6, tI v1_7, .s .far () 3 (v1_8.map GEntry.t), tI v1_9, tI v1_10, tI v1_11, .s .far () 1 (v1_12.map etI), .s .far () 4 (v1_13.map GPeer.t)]), (3, .one (tI v3)), (5, .one (.s .own () 1 (v5.map etI))), (6, .one (tI v6))]) .ret (stL 153 [(2, .one (tB false))]) :=
  Round.path [.val (.int .i64 (v5.length : Int)), .b true, .row (GPeer.t g0), .row (etI g1), .b false, rT, rT, rF] _ (fun k => by kernel_rfl) (AV (ψ := fun _ => ((v5.map etI).length : Int) = (v5.length : Int)) (Ev.c lenMap) <| AC h0 <| AV (ψ := fun _ => 0 ≤ v6 ∧ (v1_13.map GPeer.t)[v6.toNat]? = some (GPeer.t g0)) (Ev.c (getRow h1)) <| AV (ψ := fun _ => 0 ≤ v6 ∧ v6 < ((v5.map etI).length : Int)) (Ev.c (getLt h2)) <| AV (ψ := fun _ => (v5.map etI)[0 + v6.toNat]? = some (etI g1)) (Ev.c (getRow0 h2)) <| AC h3 <| AD (Does.tB (T_s_l01In g0.f1 (1 : Int) (inc v3)) h4) <| AD (Does.tB (T_s_l01In g0.f2 (0 : Int) (IntKind.wrap .i64 (g0.f1 - (1 : Int)))) h5) <| AD (Does.tB (T_s_l01In g0.f3 (0 : Int) (20000 : Int)) h6) <| AN)
theorem s_NodeOk_R0_3 (v1_0 : Int) (v1_1 : Int) (v1_2 : Int) (v1_3 : Int) (v1_4 : Int) (v1_5 : List Int) (v1_6 : Int) (v1_7 : Int) (v1_8 : List GEntry) (v1_9 : Int) (v1_10 : Int) (v1_11 : Int) (v1_12 : List Int) (v1_13 : List GPeer) (v3 : Int) (v5 : List Int) (v6 : Int) (g0 : GPeer) (g1 : Int) (h0 : (decide (v6 < (v5.length : Int))) = true) (h1 : getI v1_13 v6 = some g0) (h2 : getI v5 v6 = some g1) (h3 : (g0.f0 != g1) = false) (h4 : (inRange g0.f1 (1 : Int) (inc v3)) = true) (h5 : (inRange g0.f2 (0 : Int) (IntKind.wrap .i64 (g0.f1 - (1 : Int)))) = false) : Round E 22 (lpAt Try.f22 0) (stL 153 [(1, .box () [tI v1_0, tI v1_1, tI v1_2, tI v1_3, tI v1_4, .s .far () 1 (v1_5.map etI), tI v1_6, tI v1_7, .s .far () 3 (v1_8.map GEntry.t), tI v1_9, tI v1_10, tI v1_11, .s .far () 1 (v1_12.map etI), .s .far () 4 (v1_13.map GPeer.t)]), (3, .one (tI v3)), (5, .one (.s .own () 1 (v5.map etI))), (6, .one (tI v6))]) .ret (stL 153 [(2, .one (tB false))]) :=
  Round.path [.val (.int .i64 (v5.length : Int)), .b true, .row (GPeer.t g0), .row (etI g1), .b false, rT, rF] _ (fun k => by kernel_rfl) (AV (ψ := fun _ => ((v5.map etI).length : Int) = (v5.length : Int)) (Ev.c lenMap) <| AC h0 <| AV (ψ := fun _ => 0 ≤ v6 ∧ (v1_13.map GPeer.t)[v6.toNat]? = some (GPeer.t g0)) (Ev.c (getRow h1)) <| AV (ψ := fun _ => 0 ≤ v6 ∧ v6 < ((v5.map etI).length : Int)) (Ev.c (getLt h2)) <| AV (ψ := fun _ => (v5.map etI)[0 + v6.toNat]? = some (etI g1)) (Ev.c (getRow0 h2)) <| AC h3 <| AD (Does.tB (T_s_l01In g0.f1 (1 : Int) (inc v3)) h4) <| AD (Does.tB (T_s_l01In g0.f2 (0 : Int) (IntKind.wrap .i64 (g0.f1 - (1 : Int)))) h5) <| AN)
theorem s_NodeOk_R0_4 (v1_0 : Int) (v1_1 : Int) (v1_2 : Int) (v1_3 : Int) (v1_4 : Int) (v1_5 : List Int) (v1_6 : Int) (v1_7 : Int) (v1_8 : List GEntry) (v1_9 : Int) (v1_10 : Int) (v1_11 : Int) (v1_12 : List Int) (v1_13 : List GPeer) (v3 : Int) (v5 : List Int) (v6 : Int) (g0 : GPeer) (g1 : Int) (h0 : (decide (v6 < (v5.length : Int))) = true) (h1 : getI v1_13 v6 = some g0) (h2 : getI v5 v6 = some g1) (h3 : (g0.f0 != g1) = false) (h4 : (inRange g0.f1 (1 : Int) (inc v3)) = false) : Round E 22 (lpAt Try.f22 0) (stL 153 [(1, .box () [tI v1_0, tI v1_1, tI v1_2, tI v1_3, tI v1_4, .s .far () 1 (v1_5.map etI), tI v1_6, tI v1_7, .s .far () 3 (v1_8.map GEntry.t), tI v1_9, tI v1_10, tI v1_11, .s .far () 1 (v1_12.map etI), .s .far () 4 (v1_13.map GPeer.t)]), (3, .one (tI v3)), (5, .one (.s .own () 1 (v5.map etI))), (6, .one (tI v6))]) .ret (stL 153 [(2, .one (tB false))]) :=
  Round.path [.val (.int .i64 (v5.length : Int)), .b true, .row (GPeer.t g0), .row (etI g1), .b false, rF] _ (fun k => by kernel_rfl) (AV (ψ := fun _ => ((v5.map etI).length : Int) = (v5.length : Int)) (Ev.c lenMap) <| AC h0 <| AV (ψ := fun _ => 0 ≤ v6 ∧ (v1_13.map GPeer.t)[v6.toNat]? = some (GPeer.t g0)) (Ev.c (getRow h1)) <| AV (ψ := fun _ => 0 ≤ v6 ∧ v6 < ((v5.map etI).length : Int)) (Ev.c (getLt h2)) <| AV (ψ := fun _ => (v5.map etI)[0 + v6.toNat]? = some (etI g1)) (Ev.c (getRow0 h2)) <| AC h3 <| AD (Does.tB (T_s_l01In g0.f1 (1 : Int) (inc v3)) h4) <| AN)
theorem s_NodeOk_R0_5 (v1_0 : Int) (v1_1 : Int) (v1_2 : Int) (v1_3 : Int) (v1_4 : Int) (v1_5 : List Int) (v1_6 : Int) (v1_7 : Int) (v1_8 : List GEntry) (v1_9 : Int) (v1_10 : Int) (v1_11 : Int) (v1_12 : List Int) (v1_13 : List GPeer) (v3 : Int) (v5 : List Int) (v6 : Int) (h0 : (decide (v6 < (v5.length : Int))) = false) : Round E 22 (lpAt Try.f22 0) (stL 153 [(1, .box () [tI v1_0, tI v1_1, tI v1_2, tI v1_3, tI v1_4, .s .far () 1 (v1_5.map etI), tI v1_6, tI v1_7, .s .far () 3 (v1_8.map GEntry.t), tI v1_9, tI v1_10, tI v1_11, .s .far () 1 (v1_12.map etI), .s .far () 4 (v1_13.map GPeer.t)]), (3, .one (tI v3)), (5, .one (.s .own () 1 (v5.map etI))), (6, .one (tI v6))]) (.exit 0) (stL 153 []) :=
  Round.path [.val (.int .i64 (v5.length : Int)), .b false] _ (fun k => by kernel_rfl) (AV (ψ := fun _ => ((v5.map etI).length : Int) = (v5.length : Int)) (Ev.c lenMap) <| AC h0 <| AN)
noncomputable def s_NodeOk_l0 (v1_13 : List GPeer) (v3 : Int) : List Int → Nat → Option s_NodeOk_X0
  | [], i => some (.x0)
  | hd :: rest, i => (getI v1_13 (i : Int)).bind fun g0 => cond (g0.f0 != hd)
    (some (.ret false))
    (cond (inRange g0.f1 (1 : Int) (inc v3))
      (cond (inRange g0.f2 (0 : Int) (IntKind.wrap .i64 (g0.f1 - (1 : Int))))
        (cond (inRange g0.f3 (0 : Int) (20000 : Int))
          (s_NodeOk_l0 v1_13 v3 rest (i + 1))
          (some (.ret false)))
        (some (.ret false)))
      (some (.ret false)))
theorem s_NodeOk_L0 (v1_0 : Int) (v1_1 : Int) (v1_2 : Int) (v1_3 : Int) (v1_4 : Int) (v1_5 : List Int) (v1_6 : Int) (v1_7 : Int) (v1_8 : List GEntry) (v1_9 : Int) (v1_10 : Int) (v1_11 : Int) (v1_12 : List Int) (v1_13 : List GPeer) (v3 : Int) (v5 : List Int) (rest : List Int) : ∀ (i : Nat) , (v5).drop i = rest → v5.length ≤ 9223372036854775807 → Ans (s_NodeOk_l0 v1_13 v3 rest i) (s_NodeOk_Q0 v1_0 v1_1 v1_2 v1_3 v1_4 v1_5 v1_6 v1_7 v1_8 v1_9 v1_10 v1_11 v1_12 v1_13 v3 v5 (i : Int)) := by
  induction rest with
  | nil =>
    intro i hE hl
    have hb := foldEnd hE
    unfold s_NodeOk_l0
    exact Ans.some (Loops.stop (s_NodeOk_R0_5 v1_0 v1_1 v1_2 v1_3 v1_4 v1_5 v1_6 v1_7 v1_8 v1_9 v1_10 v1_11 v1_12 v1_13 v3 v5 (i : Int) hb) (by intro h; cases h))
  | cons hd rest ih =>
    intro i hE hl
    have hb := foldMore hE
    have hw := foldNext hE hl
    have hE2 := foldRest hE
    have hg := foldGet hE
    unfold s_NodeOk_l0
    refine Ans.bind (fun g0 h1 => ?_)
    refine Ans.ite (fun h3 => ?_) (fun h3 => ?_)
    · exact Ans.some (Loops.stop (s_NodeOk_R0_0 v1_0 v1_1 v1_2 v1_3 v1_4 v1_5 v1_6 v1_7 v1_8 v1_9 v1_10 v1_11 v1_12 v1_13 v3 v5 (i : Int) g0 hd hb h1 hg h3) (by intro h; cases h))
    · refine Ans.ite (fun h4 => ?_) (fun h4 => ?_)
      · refine Ans.ite (fun h5 => ?_) (fun h5 => ?_)
        · refine Ans.ite (fun h6 => ?_) (fun h6 => ?_)
          · exact (ih (i + 1) hE2 hl).mono fun y hy => by have r := s_NodeOk_R0_1 v1_0 v1_1 v1_2 v1_3 v1_4 v1_5 v1_6 v1_7 v1_8 v1_9 v1_10 v1_11 v1_12 v1_13 v3 v5 (i : Int) g0 hd hb h1 hg h3 h4 h5 h6; rw [hw] at r; cases y <;> exact Loops.next r hy
          · exact Ans.some (Loops.stop (s_NodeOk_R0_2 v1_0 v1_1 v1_2 v1_3 v1_4 v1_5 v1_6 v1_7 v1_8 v1_9 v1_10 v1_11 v1_12 v1_13 v3 v5 (i : Int) g0 hd hb h1 hg h3 h4 h5 h6) (by intro h; cases h))
        · exact Ans.some (Loops.stop (s_NodeOk_R0_3 v1_0 v1_1 v1_2 v1_3 v1_4 v1_5 v1_6 v1_7 v1_8 v1_9 v1_10 v1_11 v1_12 v1_13 v3 v5 (i : Int) g0 hd hb h1 hg h3 h4 h5) (by intro h; cases h))
      · exact Ans.some (Loops.stop (s_NodeOk_R0_4 v1_0 v1_1 v1_2 v1_3 v1_4 v1_5 v1_6 v1_7 v1_8 v1_9 v1_10 v1_11 v1_12 v1_13 v3 v5 (i : Int) g0 hd hb h1 hg h3 h4) (by intro h; cases h))
theorem s_NodeOk_P0 (x0 : GNode) (h0 : (inRange x0.f0 (1 : Int) (4 : Int)) = true) (h1 : x0.f5.length ≤ 1050000) (h2 : (confOk x0.f5) = true) (h3 : Small.sm x0.f6) (h4 : (logOk x0.f6) = true) (h5 : (inRange x0.f1 (0 : Int) (100000 : Int)) = true) (h6 : (inRange x0.f2 (0 : Int) (4 : Int)) = true) (h7 : (inRange x0.f4 (0 : Int) (4 : Int)) = true) (h8 : (inRange x0.f3 (0 : Int) (2 : Int)) = true) (h9 : (decide (x0.f1 < ((logLast x0.f6).2))) = true) : Does E 22 [.agg (GNode.t .far x0)] [(false, [tB false])] :=
  Does.path (fn := Try.f22) [rT, rT, rT, rT, rT, rT, rT, .ret [(false, [tI ((logLast x0.f6).1)]), (false, [tI ((logLast x0.f6).2)])], .b true] _ rfl (fun _ => rfl) (fun k => by kernel_rfl) (AD (Does.tB (T_s_l01In x0.f0 (1 : Int) (4 : Int)) h0) <| AD (Does.tB (T_s_ConfOk x0.f5 h1) h2) <| AD (Does.tB (T_s_LogOk x0.f6 h3) h4) <| AD (Does.tB (T_s_l01In x0.f1 (0 : Int) (100000 : Int)) h5) <| AD (Does.tB (T_s_l01In x0.f2 (0 : Int) (4 : Int)) h6) <| AD (Does.tB (T_s_l01In x0.f4 (0 : Int) (4 : Int)) h7) <| AD (Does.tB (T_s_l01In x0.f3 (0 : Int) (2 : Int)) h8) <| AD (T_s_LogLast x0.f6 h3) <| AC h9 <| AN)
theorem s_NodeOk_P1 (x0 : GNode) (h0 : (inRange x0.f0 (1 : Int) (4 : Int)) = true) (h1 : x0.f5.length ≤ 1050000) (h2 : (confOk x0.f5) = true) (h3 : Small.sm x0.f6) (h4 : (logOk x0.f6) = true) (h5 : (inRange x0.f1 (0 : Int) (100000 : Int)) = true) (h6 : (inRange x0.f2 (0 : Int) (4 : Int)) = true) (h7 : (inRange x0.f4 (0 : Int) (4 : Int)) = true) (h8 : (inRange x0.f3 (0 : Int) (2 : Int)) = true) (h9 : (decide (x0.f1 < ((logLast x0.f6).2))) = false) (h10 : (inRange x0.f7 x0.f6.f0 ((logLast x0.f6).1)) = true) (h11 : (inRange x0.f8 (0 : Int) (20 : Int)) = true) (h12 : (inRange x0.f9 (1 : Int) (20 : Int)) = true) (h13 : x0.f10.length ≤ 1050000) (h14 : (riseL x0.f10 (1 : Int) (4 : Int)) = true) (h15 : (decide ((x0.f10.length : Int) > (0 : Int))) = true) (h16 : (x0.f3 != (1 : Int)) = true) : Does E 22 [.agg (GNode.t .far x0)] [(false, [tB false])] :=
  Does.path (fn := Try.f22) [rT, rT, rT, rT, rT, rT, rT, .ret [(false, [tI ((logLast x0.f6).1)]), (false, [tI ((logLast x0.f6).2)])], .b false, rT, rT, rT, rT, .val (.int .i64 (x0.f10.length : Int)), .b true, .b true] _ rfl (fun _ => rfl) (fun k => by kernel_rfl) (AD (Does.tB (T_s_l01In x0.f0 (1 : Int) (4 : Int)) h0) <| AD (Does.tB (T_s_ConfOk x0.f5 h1) h2) <| AD (Does.tB (T_s_LogOk x0.f6 h3) h4) <| AD (Does.tB (T_s_l01In x0.f1 (0 : Int) (100000 : Int)) h5) <| AD (Does.tB (T_s_l01In x0.f2 (0 : Int) (4 : Int)) h6) <| AD (Does.tB (T_s_l01In x0.f4 (0 : Int) (4 : Int)) h7) <| AD (Does.tB (T_s_l01In x0.f3 (0 : Int) (2 : Int)) h8) <| AD (T_s_LogLast x0.f6 h3) <| AC h9 <| AD (Does.tB (T_s_l01In x0.f7 x0.f6.f0 ((logLast x0.f6).1)) h10) <| AD (Does.tB (T_s_l01In x0.f8 (0 : Int) (20 : Int)) h11) <| AD (Does.tB (T_s_l01In x0.f9 (1 : Int) (20 : Int)) h12) <| AD (Does.tB (T_s_l05Rise x0.f10 (1 : Int) (4 : Int) h13) h14) <| AV (ψ := fun _ => ((x0.f10.map etI).length : Int) = (x0.f10.length : Int)) (Ev.c lenMap) <| AC h15 <| AC h16 <| AN)
theorem s_NodeOk_P2 (x0 : GNode) (h0 : (inRange x0.f0 (1 : Int) (4 : Int)) = true) (h1 : x0.f5.length ≤ 1050000) (h2 : (confOk x0.f5) = true) (h3 : Small.sm x0.f6) (h4 : (logOk x0.f6) = true) (h5 : (inRange x0.f1 (0 : Int) (100000 : Int)) = true) (h6 : (inRange x0.f2 (0 : Int) (4 : Int)) = true) (h7 : (inRange x0.f4 (0 : Int) (4 : Int)) = true) (h8 : (inRange x0.f3 (0 : Int) (2 : Int)) = true) (h9 : (decide (x0.f1 < ((logLast x0.f6).2))) = false) (h10 : (inRange x0.f7 x0.f6.f0 ((logLast x0.f6).1)) = true) (h11 : (inRange x0.f8 (0 : Int) (20 : Int)) = true) (h12 : (inRange x0.f9 (1 : Int) (20 : Int)) = true) (h13 : x0.f10.length ≤ 1050000) (h14 : (riseL x0.f10 (1 : Int) (4 : Int)) = true) (h15 : (decide ((x0.f10.length : Int) > (0 : Int))) = true) (h16 : (x0.f3 != (1 : Int)) = false) (h17 : (x0.f3 == (2 : Int)) = true) (h18 : Small.sm x0) (h19 : logOk x0.f6 = true) (h20 : (confOf x0).length ≤ 1050000) (h21 : ((x0.f11.length : Int) != ((othersL (confOf x0) x0.f0).length : Int)) = true) : Does E 22 [.agg (GNode.t .far x0)] [(false, [tB false])] :=
  Does.path (fn := Try.f22) [rT, rT, rT, rT, rT, rT, rT, .ret [(false, [tI ((logLast x0.f6).1)]), (false, [tI ((logLast x0.f6).2)])], .b false, rT, rT, rT, rT, .val (.int .i64 (x0.f10.length : Int)), .b true, .b false, .b true, .ret [(false, [.s .own () 1 ((confOf x0).map etI)])], .ret [(false, [.s .own () 1 ((othersL (confOf x0) x0.f0).map etI)])], .val (.int .i64 (x0.f11.length : Int)), .val (.int .i64 ((othersL (confOf x0) x0.f0).length : Int)), .b true] _ rfl (fun _ => rfl) (fun k => by kernel_rfl) (AD (Does.tB (T_s_l01In x0.f0 (1 : Int) (4 : Int)) h0) <| AD (Does.tB (T_s_ConfOk x0.f5 h1) h2) <| AD (Does.tB (T_s_LogOk x0.f6 h3) h4) <| AD (Does.tB (T_s_l01In x0.f1 (0 : Int) (100000 : Int)) h5) <| AD (Does.tB (T_s_l01In x0.f2 (0 : Int) (4 : Int)) h6) <| AD (Does.tB (T_s_l01In x0.f4 (0 : Int) (4 : Int)) h7) <| AD (Does.tB (T_s_l01In x0.f3 (0 : Int) (2 : Int)) h8) <| AD (T_s_LogLast x0.f6 h3) <| AC h9 <| AD (Does.tB (T_s_l01In x0.f7 x0.f6.f0 ((logLast x0.f6).1)) h10) <| AD (Does.tB (T_s_l01In x0.f8 (0 : Int) (20 : Int)) h11) <| AD (Does.tB (T_s_l01In x0.f9 (1 : Int) (20 : Int)) h12) <| AD (Does.tB (T_s_l05Rise x0.f10 (1 : Int) (4 : Int) h13) h14) <| AV (ψ := fun _ => ((x0.f10.map etI).length : Int) = (x0.f10.length : Int)) (Ev.c lenMap) <| AC h15 <| AC h16 <| AC h17 <| AD (T_s_ConfOf x0 h18 h19) <| AV (ψ := fun k => E.C k 81 [.one (.s .far () 1 ((((confOf x0).map etI).drop 0).take ((confOf x0).map etI).length)), .one (tI x0.f0)] = some [(false, [.s .own () 1 ((othersL (confOf x0) x0.f0).map etI)])]) (Does.args (by simp only [List.take_length, List.drop_zero]) (T_s_l19Others (confOf x0) x0.f0 h20)) <| AV (ψ := fun _ => ((x0.f11.map GPeer.t).length : Int) = (x0.f11.length : Int)) (Ev.c lenMap) <| AV (ψ := fun _ => (((othersL (confOf x0) x0.f0).map etI).length : Int) = ((othersL (confOf x0) x0.f0).length : Int)) (Ev.c lenMap) <| AC h21 <| AN)
theorem s_NodeOk_P3 (x0 : GNode) (w0_2 : Bool) (h0 : (inRange x0.f0 (1 : Int) (4 : Int)) = true) (h1 : x0.f5.length ≤ 1050000) (h2 : (confOk x0.f5) = true) (h3 : Small.sm x0.f6) (h4 : (logOk x0.f6) = true) (h5 : (inRange x0.f1 (0 : Int) (100000 : Int)) = true) (h6 : (inRange x0.f2 (0 : Int) (4 : Int)) = true) (h7 : (inRange x0.f4 (0 : Int) (4 : Int)) = true) (h8 : (inRange x0.f3 (0 : Int) (2 : Int)) = true) (h9 : (decide (x0.f1 < ((logLast x0.f6).2))) = false) (h10 : (inRange x0.f7 x0.f6.f0 ((logLast x0.f6).1)) = true) (h11 : (inRange x0.f8 (0 : Int) (20 : Int)) = true) (h12 : (inRange x0.f9 (1 : Int) (20 : Int)) = true) (h13 : x0.f10.length ≤ 1050000) (h14 : (riseL x0.f10 (1 : Int) (4 : Int)) = true) (h15 : (decide ((x0.f10.length : Int) > (0 : Int))) = true) (h16 : (x0.f3 != (1 : Int)) = false) (h17 : (x0.f3 == (2 : Int)) = true) (h18 : Small.sm x0) (h19 : logOk x0.f6 = true) (h20 : (confOf x0).length ≤ 1050000) (h21 : ((x0.f11.length : Int) != ((othersL (confOf x0) x0.f0).length : Int)) = false) (h22 : Loops E 22 (lpAt Try.f22 0) (stL 153 [(1, .box () [tI x0.f0, tI x0.f1, tI x0.f2, tI x0.f3, tI x0.f4, .s .far () 1 (x0.f5.map etI), tI x0.f6.f0, tI x0.f6.f1, .s .far () 3 (x0.f6.f2.map GEntry.t), tI x0.f7, tI x0.f8, tI x0.f9, .s .far () 1 (x0.f10.map etI), .s .far () 4 (x0.f11.map GPeer.t)]), (3, .one (tI ((logLast x0.f6).1))), (5, .one (.s .own () 1 ((othersL (confOf x0) x0.f0).map etI))), (6, .one (tI (0 : Int)))]) .ret (stL 153 [(2, .one (tB w0_2))])) : Does E 22 [.agg (GNode.t .far x0)] [(false, [tB w0_2])] :=
  Does.path (fn := Try.f22) [rT, rT, rT, rT, rT, rT, rT, .ret [(false, [tI ((logLast x0.f6).1)]), (false, [tI ((logLast x0.f6).2)])], .b false, rT, rT, rT, rT, .val (.int .i64 (x0.f10.length : Int)), .b true, .b false, .b true, .ret [(false, [.s .own () 1 ((confOf x0).map etI)])], .ret [(false, [.s .own () 1 ((othersL (confOf x0) x0.f0).map etI)])], .val (.int .i64 (x0.f11.length : Int)), .val (.int .i64 ((othersL (confOf x0) x0.f0).length : Int)), .b false, .lp .ret (stL 153 [(2, .one (tB w0_2))])] _ rfl (fun _ => rfl) (fun k => by kernel_rfl) (AD (Does.tB (T_s_l01In x0.f0 (1 : Int) (4 : Int)) h0) <| AD (Does.tB (T_s_ConfOk x0.f5 h1) h2) <| AD (Does.tB (T_s_LogOk x0.f6 h3) h4) <| AD (Does.tB (T_s_l01In x0.f1 (0 : Int) (100000 : Int)) h5) <| AD (Does.tB (T_s_l01In x0.f2 (0 : Int) (4 : Int)) h6) <| AD (Does.tB (T_s_l01In x0.f4 (0 : Int) (4 : Int)) h7) <| AD (Does.tB (T_s_l01In x0.f3 (0 : Int) (2 : Int)) h8) <| AD (T_s_LogLast x0.f6 h3) <| AC h9 <| AD (Does.tB (T_s_l01In x0.f7 x0.f6.f0 ((logLast x0.f6).1)) h10) <| AD (Does.tB (T_s_l01In x0.f8 (0 : Int) (20 : Int)) h11) <| AD (Does.tB (T_s_l01In x0.f9 (1 : Int) (20 : Int)) h12) <| AD (Does.tB (T_s_l05Rise x0.f10 (1 : Int) (4 : Int) h13) h14) <| AV (ψ := fun _ => ((x0.f10.map etI).length : Int) = (x0.f10.length : Int)) (Ev.c lenMap) <| AC h15 <| AC h16 <| AC h17 <| AD (T_s_ConfOf x0 h18 h19) <| AV (ψ := fun k => E.C k 81 [.one (.s .far () 1 ((((confOf x0).map etI).drop 0).take ((confOf x0).map etI).length)), .one (tI x0.f0)] = some [(false, [.s .own () 1 ((othersL (confOf x0) x0.f0).map etI)])]) (Does.args (by simp only [List.take_length, List.drop_zero]) (T_s_l19Others (confOf x0) x0.f0 h20)) <| AV (ψ := fun _ => ((x0.f11.map GPeer.t).length : Int) = (x0.f11.length : Int)) (Ev.c lenMap) <| AV (ψ := fun _ => (((othersL (confOf x0) x0.f0).map etI).length : Int) = ((othersL (confOf x0) x0.f0).length : Int)) (Ev.c lenMap) <| AC h21 <| AV (ψ := fun k => LoopK E 22 (lpAt Try.f22 0) (stL 153 [(1, .box () [tI x0.f0, tI x0.f1, tI x0.f2, tI x0.f3, tI x0.f4, .s .far () 1 (x0.f5.map etI), tI x0.f6.f0, tI x0.f6.f1, .s .far () 3 (x0.f6.f2.map GEntry.t), tI x0.f7, tI x0.f8, tI x0.f9, .s .far () 1 (x0.f10.map etI), .s .far () 4 (x0.f11.map GPeer.t)]), (3, .one (tI ((logLast x0.f6).1))), (5, .one (.s .own () 1 ((othersL (confOf x0) x0.f0).map etI))), (6, .one (tI (0 : Int)))]) .ret (stL 153 [(2, .one (tB w0_2))]) k k) (Loops.ev h22) <| AN)
theorem s_NodeOk_P4 (x0 : GNode) (h0 : (inRange x0.f0 (1 : Int) (4 : Int)) = true) (h1 : x0.f5.length ≤ 1050000) (h2 : (confOk x0.f5) = true) (h3 : Small.sm x0.f6) (h4 : (logOk x0.f6) = true) (h5 : (inRange x0.f1 (0 : Int) (100000 : Int)) = true) (h6 : (inRange x0.f2 (0 : Int) (4 : Int)) = true) (h7 : (inRange x0.f4 (0 : Int) (4 : Int)) = true) (h8 : (inRange x0.f3 (0 : Int) (2 : Int)) = true) (h9 : (decide (x0.f1 < ((logLast x0.f6).2))) = false) (h10 : (inRange x0.f7 x0.f6.f0 ((logLast x0.f6).1)) = true) (h11 : (inRange x0.f8 (0 : Int) (20 : Int)) = true) (h12 : (inRange x0.f9 (1 : Int) (20 : Int)) = true) (h13 : x0.f10.length ≤ 1050000) (h14 : (riseL x0.f10 (1 : Int) (4 : Int)) = true) (h15 : (decide ((x0.f10.length : Int) > (0 : Int))) = true) (h16 : (x0.f3 != (1 : Int)) = false) (h17 : (x0.f3 == (2 : Int)) = true) (h18 : Small.sm x0) (h19 : logOk x0.f6 = true) (h20 : (confOf x0).length ≤ 1050000) (h21 : ((x0.f11.length : Int) != ((othersL (confOf x0) x0.f0).length : Int)) = false) (h22 : Loops E 22 (lpAt Try.f22 0) (stL 153 [(1, .box () [tI x0.f0, tI x0.f1, tI x0.f2, tI x0.f3, tI x0.f4, .s .far () 1 (x0.f5.map etI), tI x0.f6.f0, tI x0.f6.f1, .s .far () 3 (x0.f6.f2.map GEntry.t), tI x0.f7, tI x0.f8, tI x0.f9, .s .far () 1 (x0.f10.map etI), .s .far () 4 (x0.f11.map GPeer.t)]), (3, .one (tI ((logLast x0.f6).1))), (5, .one (.s .own () 1 ((othersL (confOf x0) x0.f0).map etI))), (6, .one (tI (0 : Int)))]) (.exit 0) (stL 153 [])) : Does E 22 [.agg (GNode.t .far x0)] [(false, [tB true])] :=
  Does.path (fn := Try.f22) [rT, rT, rT, rT, rT, rT, rT, .ret [(false, [tI ((logLast x0.f6).1)]), (false, [tI ((logLast x0.f6).2)])], .b false, rT, rT, rT, rT, .val (.int .i64 (x0.f10.length : Int)), .b true, .b false, .b true, .ret [(false, [.s .own () 1 ((confOf x0).map etI)])], .ret [(false, [.s .own () 1 ((othersL (confOf x0) x0.f0).map etI)])], .val (.int .i64 (x0.f11.length : Int)), .val (.int .i64 ((othersL (confOf x0) x0.f0).length : Int)), .b false, .lp (.exit 0) (stL 153 [])] _ rfl (fun _ => rfl) (fun k => by kernel_rfl) (AD (Does.tB (T_s_l01In x0.f0 (1 : Int) (4 : Int)) h0) <| AD (Does.tB (T_s_ConfOk x0.f5 h1) h2) <| AD (Does.tB (T_s_LogOk x0.f6 h3) h4) <| AD (Does.tB (T_s_l01In x0.f1 (0 : Int) (100000 : Int)) h5) <| AD (Does.tB (T_s_l01In x0.f2 (0 : Int) (4 : Int)) h6) <| AD (Does.tB (T_s_l01In x0.f4 (0 : Int) (4 : Int)) h7) <| AD (Does.tB (T_s_l01In x0.f3 (0 : Int) (2 : Int)) h8) <| AD (T_s_LogLast x0.f6 h3) <| AC h9 <| AD (Does.tB (T_s_l01In x0.f7 x0.f6.f0 ((logLast x0.f6).1)) h10) <| AD (Does.tB (T_s_l01In x0.f8 (0 : Int) (20 : Int)) h11) <| AD (Does.tB (T_s_l01In x0.f9 (1 : Int) (20 : Int)) h12) <| AD (Does.tB (T_s_l05Rise x0.f10 (1 : Int) (4 : Int) h13) h14) <| AV (ψ := fun _ => ((x0.f10.map etI).length : Int) = (x0.f10.length : Int)) (Ev.c lenMap) <| AC h15 <| AC h16 <| AC h17 <| AD (T_s_ConfOf x0 h18 h19) <| AV (ψ := fun k => E.C k 81 [.one (.s .far () 1 ((((confOf x0).map etI).drop 0).take ((confOf x0).map etI).length)), .one (tI x0.f0)] = some [(false, [.s .own () 1 ((othersL (confOf x0) x0.f0).map etI)])]) (Does.args (by simp only [List.take_length, List.drop_zero]) (T_s_l19Others (confOf x0) x0.f0 h20)) <| AV (ψ := fun _ => ((x0.f11.map GPeer.t).length : Int) = (x0.f11.length : Int)) (Ev.c lenMap) <| AV (ψ := fun _ => (((othersL (confOf x0) x0.f0).map etI).length : Int) = ((othersL (confOf x0) x0.f0).length : Int)) (Ev.c lenMap) <| AC h21 <| AV (ψ := fun k => LoopK E 22 (lpAt Try.f22 0) (stL 153 [(1, .box () [tI x0.f0, tI x0.f1, tI x0.f2, tI x0.f3, tI x0.f4, .s .far () 1 (x0.f5.map etI), tI x0.f6.f0, tI x0.f6.f1, .s .far () 3 (x0.f6.f2.map GEntry.t), tI x0.f7, tI x0.f8, tI x0.f9, .s .far () 1 (x0.f10.map etI), .s .far () 4 (x0.f11.map GPeer.t)]), (3, .one (tI ((logLast x0.f6).1))), (5, .one (.s .own () 1 ((othersL (confOf x0) x0.f0).map etI))), (6, .one (tI (0 : Int)))]) (.exit 0) (stL 153 []) k k) (Loops.ev h22) <| AN)
theorem s_NodeOk_P5 (x0 : GNode) (h0 : (inRange x0.f0 (1 : Int) (4 : Int)) = true) (h1 : x0.f5.length ≤ 1050000) (h2 : (confOk x0.f5) = true) (h3 : Small.sm x0.f6) (h4 : (logOk x0.f6) = true) (h5 : (inRange x0.f1 (0 : Int) (100000 : Int)) = true) (h6 : (inRange x0.f2 (0 : Int) (4 : Int)) = true) (h7 : (inRange x0.f4 (0 : Int) (4 : Int)) = true) (h8 : (inRange x0.f3 (0 : Int) (2 : Int)) = true) (h9 : (decide (x0.f1 < ((logLast x0.f6).2))) = false) (h10 : (inRange x0.f7 x0.f6.f0 ((logLast x0.f6).1)) = true) (h11 : (inRange x0.f8 (0 : Int) (20 : Int)) = true) (h12 : (inRange x0.f9 (1 : Int) (20 : Int)) = true) (h13 : x0.f10.length ≤ 1050000) (h14 : (riseL x0.f10 (1 : Int) (4 : Int)) = true) (h15 : (decide ((x0.f10.length : Int) > (0 : Int))) = true) (h16 : (x0.f3 != (1 : Int)) = false) (h17 : (x0.f3 == (2 : Int)) = false) (h18 : ((x0.f11.length : Int) != (([] : List Int).length : Int)) = true) : Does E 22 [.agg (GNode.t .far x0)] [(false, [tB false])] :=
  Does.path (fn := Try.f22) [rT, rT, rT, rT, rT, rT, rT, .ret [(false, [tI ((logLast x0.f6).1)]), (false, [tI ((logLast x0.f6).2)])], .b false, rT, rT, rT, rT, .val (.int .i64 (x0.f10.length : Int)), .b true, .b false, .b false, .val (.int .i64 (x0.f11.length : Int)), .val (.int .i64 (([] : List Int).length : Int)), .b true] _ rfl (fun _ => rfl) (fun k => by kernel_rfl) (AD (Does.tB (T_s_l01In x0.f0 (1 : Int) (4 : Int)) h0) <| AD (Does.tB (T_s_ConfOk x0.f5 h1) h2) <| AD (Does.tB (T_s_LogOk x0.f6 h3) h4) <| AD (Does.tB (T_s_l01In x0.f1 (0 : Int) (100000 : Int)) h5) <| AD (Does.tB (T_s_l01In x0.f2 (0 : Int) (4 : Int)) h6) <| AD (Does.tB (T_s_l01In x0.f4 (0 : Int) (4 : Int)) h7) <| AD (Does.tB (T_s_l01In x0.f3 (0 : Int) (2 : Int)) h8) <| AD (T_s_LogLast x0.f6 h3) <| AC h9 <| AD (Does.tB (T_s_l01In x0.f7 x0.f6.f0 ((logLast x0.f6).1)) h10) <| AD (Does.tB (T_s_l01In x0.f8 (0 : Int) (20 : Int)) h11) <| AD (Does.tB (T_s_l01In x0.f9 (1 : Int) (20 : Int)) h12) <| AD (Does.tB (T_s_l05Rise x0.f10 (1 : Int) (4 : Int) h13) h14) <| AV (ψ := fun _ => ((x0.f10.map etI).length : Int) = (x0.f10.length : Int)) (Ev.c lenMap) <| AC h15 <| AC h16 <| AC h17 <| AV (ψ := fun _ => ((x0.f11.map GPeer.t).length : Int) = (x0.f11.length : Int)) (Ev.c lenMap) <| AV (ψ := fun _ => ((([] : List Int).map etI).length : Int) = (([] : List Int).length : Int)) (Ev.c lenMap) <| AC h18 <| AN)
theorem s_NodeOk_P6 (x0 : GNode) (w0_2 : Bool) (h0 : (inRange x0.f0 (1 : Int) (4 : Int)) = true) (h1 : x0.f5.length ≤ 1050000) (h2 : (confOk x0.f5) = true) (h3 : Small.sm x0.f6) (h4 : (logOk x0.f6) = true) (h5 : (inRange x0.f1 (0 : Int) (100000 : Int)) = true) (h6 : (inRange x0.f2 (0 : Int) (4 : Int)) = true) (h7 : (inRange x0.f4 (0 : Int) (4 : Int)) = true) (h8 : (inRange x0.f3 (0 : Int) (2 : Int)) = true) (h9 : (decide (x0.f1 < ((logLast x0.f6).2))) = false) (h10 : (inRange x0.f7 x0.f6.f0 ((logLast x0.f6).1)) = true) (h11 : (inRange x0.f8 (0 : Int) (20 : Int)) = true) (h12 : (inRange x0.f9 (1 : Int) (20 : Int)) = true) (h13 : x0.f10.length ≤ 1050000) (h14 : (riseL x0.f10 (1 : Int) (4 : Int)) = true) (h15 : (decide ((x0.f10.length : Int) > (0 : Int))) = true) (h16 : (x0.f3 != (1 : Int)) = false) (h17 : (x0.f3 == (2 : Int)) = false) (h18 : ((x0.f11.length : Int) != (([] : List Int).length : Int)) = false) (h19 : Loops E 22 (lpAt Try.f22 0) (stL 153 [(1, .box () [tI x0.f0, tI x0.f1, tI x0.f2, tI x0.f3, tI x0.f4, .s .far () 1 (x0.f5.map etI), tI x0.f6.f0, tI x0.f6.f1, .s .far () 3 (x0.f6.f2.map GEntry.t), tI x0.f7, tI x0.f8, tI x0.f9, .s .far () 1 (x0.f10.map etI), .s .far () 4 (x0.f11.map GPeer.t)]), (3, .one (tI ((logLast x0.f6).1))), (5, .one (.s .own () 1 (([] : List Int).map etI))), (6, .one (tI (0 : Int)))]) .ret (stL 153 [(2, .one (tB w0_2))])) : Does E 22 [.agg (GNode.t .far x0)] [(false, [tB w0_2])] :=
  Does.path (fn := Try.f22) [rT, rT, rT, rT, rT, rT, rT, .ret [(false, [tI ((logLast x0.f6).1)]), (false, [tI ((logLast x0.f6).2)])], .b false, rT, rT, rT, rT, .val (.int .i64 (x0.f10.length : Int)), .b true, .b false, .b false, .val (.int .i64 (x0.f11.length : Int)), .val (.int .i64 (([] : List Int).length : Int)), .b false, .lp .ret (stL 153 [(2, .one (tB w0_2))])] _ rfl (fun _ => rfl) (fun k => by kernel_rfl) (AD (Does.tB (T_s_l01In x0.f0 (1 : Int) (4 : Int)) h0) <| AD (Does.tB (T_s_ConfOk x0.f5 h1) h2) <| AD (Does.tB (T_s_LogOk x0.f6 h3) h4) <| AD (Does.tB (T_s_l01In x0.f1 (0 : Int) (100000 : Int)) h5) <| AD (Does.tB (T_s_l01In x0.f2 (0 : Int) (4 : Int)) h6) <| AD (Does.tB (T_s_l01In x0.f4 (0 : Int) (4 : Int)) h7) <| AD (Does.tB (T_s_l01In x0.f3 (0 : Int) (2 : Int)) h8) <| AD (T_s_LogLast x0.f6 h3) <| AC h9 <| AD (Does.tB (T_s_l01In x0.f7 x0.f6.f0 ((logLast x0.f6).1)) h10) <| AD (Does.tB (T_s_l01In x0.f8 (0 : Int) (20 : Int)) h11) <| AD (Does.tB (T_s_l01In x0.f9 (1 : Int) (20 : Int)) h12) <| AD (Does.tB (T_s_l05Rise x0.f10 (1 : Int) (4 : Int) h13) h14) <| AV (ψ := fun _ => ((x0.f10.map etI).length : Int) = (x0.f10.length : Int)) (Ev.c lenMap) <| AC h15 <| AC h16 <| AC h17 <| AV (ψ := fun _ => ((x0.f11.map GPeer.t).length : Int) = (x0.f11.length : Int)) (Ev.c lenMap) <| AV (ψ := fun _ => ((([] : List Int).map etI).length : Int) = (([] : List Int).length : Int)) (Ev.c lenMap) <| AC h18 <| AV (ψ := fun k => LoopK E 22 (lpAt Try.f22 0) (stL 153 [(1, .box () [tI x0.f0, tI x0.f1, tI x0.f2, tI x0.f3, tI x0.f4, .s .far () 1 (x0.f5.map etI), tI x0.f6.f0, tI x0.f6.f1, .s .far () 3 (x0.f6.f2.map GEntry.t), tI x0.f7, tI x0.f8, tI x0.f9, .s .far () 1 (x0.f10.map etI), .s .far () 4 (x0.f11.map GPeer.t)]), (3, .one (tI ((logLast x0.f6).1))), (5, .one (.s .own () 1 (([] : List Int).map etI))), (6, .one (tI (0 : Int)))]) .ret (stL 153 [(2, .one (tB w0_2))]) k k) (Loops.ev h19) <| AN)
theorem s_NodeOk_P7 (x0 : GNode) (h0 : (inRange x0.f0 (1 : Int) (4 : Int)) = true) (h1 : x0.f5.length ≤ 1050000) (h2 : (confOk x0.f5) = true) (h3 : Small.sm x0.f6) (h4 : (logOk x0.f6) = true) (h5 : (inRange x0.f1 (0 : Int) (100000 : Int)) = true) (h6 : (inRange x0.f2 (0 : Int) (4 : Int)) = true) (h7 : (inRange x0.f4 (0 : Int) (4 : Int)) = true) (h8 : (inRange x0.f3 (0 : Int) (2 : Int)) = true) (h9 : (decide (x0.f1 < ((logLast x0.f6).2))) = false) (h10 : (inRange x0.f7 x0.f6.f0 ((logLast x0.f6).1)) = true) (h11 : (inRange x0.f8 (0 : Int) (20 : Int)) = true) (h12 : (inRange x0.f9 (1 : Int) (20 : Int)) = true) (h13 : x0.f10.length ≤ 1050000) (h14 : (riseL x0.f10 (1 : Int) (4 : Int)) = true) (h15 : (decide ((x0.f10.length : Int) > (0 : Int))) = true) (h16 : (x0.f3 != (1 : Int)) = false) (h17 : (x0.f3 == (2 : Int)) = false) (h18 : ((x0.f11.length : Int) != (([] : List Int).length : Int)) = false) (h19 : Loops E 22 (lpAt Try.f22 0) (stL 153 [(1, .box () [tI x0.f0, tI x0.f1, tI x0.f2, tI x0.f3, tI x0.f4, .s .far () 1 (x0.f5.map etI), tI x0.f6.f0, tI x0.f6.f1, .s .far () 3 (x0.f6.f2.map GEntry.t), tI x0.f7, tI x0.f8, tI x0.f9, .s .far () 1 (x0.f10.map etI), .s .far () 4 (x0.f11.map GPeer.t)]), (3, .one (tI ((logLast x0.f6).1))), (5, .one (.s .own () 1 (([] : List Int).map etI))), (6, .one (tI (0 : Int)))]) (.exit 0) (stL 153 [])) : Does E 22 [.agg (GNode.t .far x0)] [(false, [tB true])] :=
  Does.path (fn := Try.f22) [rT, rT, rT, rT, rT, rT, rT, .ret [(false, [tI ((logLast x0.f6).1)]), (false, [tI ((logLast x0.f6).2)])], .b false, rT, rT, rT, rT, .val (.int .i64 (x0.f10.length : Int)), .b true, .b false, .b false, .val (.int .i64 (x0.f11.length : Int)), .val (.int .i64 (([] : List Int).length : Int)), .b false, .lp (.exit 0) (stL 153 [])] _ rfl (fun _ => rfl) (fun k => by kernel_rfl) (AD (Does.tB (T_s_l01In x0.f0 (1 : Int) (4 : Int)) h0) <| AD (Does.tB (T_s_ConfOk x0.f5 h1) h2) <| AD (Does.tB (T_s_LogOk x0.f6 h3) h4) <| AD (Does.tB (T_s_l01In x0.f1 (0 : Int) (100000 : Int)) h5) <| AD (Does.tB (T_s_l01In x0.f2 (0 : Int) (4 : Int)) h6) <| AD (Does.tB (T_s_l01In x0.f4 (0 : Int) (4 : Int)) h7) <| AD (Does.tB (T_s_l01In x0.f3 (0 : Int) (2 : Int)) h8) <| AD (T_s_LogLast x0.f6 h3) <| AC h9 <| AD (Does.tB (T_s_l01In x0.f7 x0.f6.f0 ((logLast x0.f6).1)) h10) <| AD (Does.tB (T_s_l01In x0.f8 (0 : Int) (20 : Int)) h11) <| AD (Does.tB (T_s_l01In x0.f9 (1 : Int) (20 : Int)) h12) <| AD (Does.tB (T_s_l05Rise x0.f10 (1 : Int) (4 : Int) h13) h14) <| AV (ψ := fun _ => ((x0.f10.map etI).length : Int) = (x0.f10.length : Int)) (Ev.c lenMap) <| AC h15 <| AC h16 <| AC h17 <| AV (ψ := fun _ => ((x0.f11.map GPeer.t).length : Int) = (x0.f11.length : Int)) (Ev.c lenMap) <| AV (ψ := fun _ => ((([] : List Int).map etI).length : Int) = (([] : List Int).length : Int)) (Ev.c lenMap) <| AC h18 <| AV (ψ := fun k => LoopK E 22 (lpAt Try.f22 0) (stL 153 [(1, .box () [tI x0.f0, tI x0.f1, tI x0.f2, tI x0.f3, tI x0.f4, .s .far () 1 (x0.f5.map etI), tI x0.f6.f0, tI x0.f6.f1, .s .far () 3 (x0.f6.f2.map GEntry.t), tI x0.f7, tI x0.f8, tI x0.f9, .s .far () 1 (x0.f10.map etI), .s .far () 4 (x0.f11.map GPeer.t)]), (3, .one (tI ((logLast x0.f6).1))), (5, .one (.s .own () 1 (([] : List Int).map etI))), (6, .one (tI (0 : Int)))]) (.exit 0) (stL 153 []) k k) (Loops.ev h19) <| AN)
theorem s_NodeOk_P8 (x0 : GNode) (h0 : (inRange x0.f0 (1 : Int) (4 : Int)) = true) (h1 : x0.f5.length ≤ 1050000) (h2 : (confOk x0.f5) = true) (h3 : Small.sm x0.f6) (h4 : (logOk x0.f6) = true) (h5 : (inRange x0.f1 (0 : Int) (100000 : Int)) = true) (h6 : (inRange x0.f2 (0 : Int) (4 : Int)) = true) (h7 : (inRange x0.f4 (0 : Int) (4 : Int)) = true) (h8 : (inRange x0.f3 (0 : Int) (2 : Int)) = true) (h9 : (decide (x0.f1 < ((logLast x0.f6).2))) = false) (h10 : (inRange x0.f7 x0.f6.f0 ((logLast x0.f6).1)) = true) (h11 : (inRange x0.f8 (0 : Int) (20 : Int)) = true) (h12 : (inRange x0.f9 (1 : Int) (20 : Int)) = true) (h13 : x0.f10.length ≤ 1050000) (h14 : (riseL x0.f10 (1 : Int) (4 : Int)) = true) (h15 : (decide ((x0.f10.length : Int) > (0 : Int))) = false) (h16 : (x0.f3 == (2 : Int)) = true) (h17 : Small.sm x0) (h18 : logOk x0.f6 = true) (h19 : (confOf x0).length ≤ 1050000) (h20 : ((x0.f11.length : Int) != ((othersL (confOf x0) x0.f0).length : Int)) = true) : Does E 22 [.agg (GNode.t .far x0)] [(false, [tB false])] :=
  Does.path (fn := Try.f22) [rT, rT, rT, rT, rT, rT, rT, .ret [(false, [tI ((logLast x0.f6).1)]), (false, [tI ((logLast x0.f6).2)])], .b false, rT, rT, rT, rT, .val (.int .i64 (x0.f10.length : Int)), .b false, .b true, .ret [(false, [.s .own () 1 ((confOf x0).map etI)])], .ret [(false, [.s .own () 1 ((othersL (confOf x0) x0.f0).map etI)])], .val (.int .i64 (x0.f11.length : Int)), .val (.int .i64 ((othersL (confOf x0) x0.f0).length : Int)), .b true] _ rfl (fun _ => rfl) (fun k => by kernel_rfl) (AD (Does.tB (T_s_l01In x0.f0 (1 : Int) (4 : Int)) h0) <| AD (Does.tB (T_s_ConfOk x0.f5 h1) h2) <| AD (Does.tB (T_s_LogOk x0.f6 h3) h4) <| AD (Does.tB (T_s_l01In x0.f1 (0 : Int) (100000 : Int)) h5) <| AD (Does.tB (T_s_l01In x0.f2 (0 : Int) (4 : Int)) h6) <| AD (Does.tB (T_s_l01In x0.f4 (0 : Int) (4 : Int)) h7) <| AD (Does.tB (T_s_l01In x0.f3 (0 : Int) (2 : Int)) h8) <| AD (T_s_LogLast x0.f6 h3) <| AC h9 <| AD (Does.tB (T_s_l01In x0.f7 x0.f6.f0 ((logLast x0.f6).1)) h10) <| AD (Does.tB (T_s_l01In x0.f8 (0 : Int) (20 : Int)) h11) <| AD (Does.tB (T_s_l01In x0.f9 (1 : Int) (20 : Int)) h12) <| AD (Does.tB (T_s_l05Rise x0.f10 (1 : Int) (4 : Int) h13) h14) <| AV (ψ := fun _ => ((x0.f10.map etI).length : Int) = (x0.f10.length : Int)) (Ev.c lenMap) <| AC h15 <| AC h16 <| AD (T_s_ConfOf x0 h17 h18) <| AV (ψ := fun k => E.C k 81 [.one (.s .far () 1 ((((confOf x0).map etI).drop 0).take ((confOf x0).map etI).length)), .one (tI x0.f0)] = some [(false, [.s .own () 1 ((othersL (confOf x0) x0.f0).map etI)])]) (Does.args (by simp only [List.take_length, List.drop_zero]) (T_s_l19Others (confOf x0) x0.f0 h19)) <| AV (ψ := fun _ => ((x0.f11.map GPeer.t).length : Int) = (x0.f11.length : Int)) (Ev.c lenMap) <| AV (ψ := fun _ => (((othersL (confOf x0) x0.f0).map etI).length : Int) = ((othersL (confOf x0) x0.f0).length : Int)) (Ev.c lenMap) <| AC h20 <| AN)
theorem s_NodeOk_P9 (x0 : GNode) (w0_2 : Bool) (h0 : (inRange x0.f0 (1 : Int) (4 : Int)) = true) (h1 : x0.f5.length ≤ 1050000) (h2 : (confOk x0.f5) = true) (h3 : Small.sm x0.f6) (h4 : (logOk x0.f6) = true) (h5 : (inRange x0.f1 (0 : Int) (100000 : Int)) = true) (h6 : (inRange x0.f2 (0 : Int) (4 : Int)) = true) (h7 : (inRange x0.f4 (0 : Int) (4 : Int)) = true) (h8 : (inRange x0.f3 (0 : Int) (2 : Int)) = true) (h9 : (decide (x0.f1 < ((logLast x0.f6).2))) = false) (h10 : (inRange x0.f7 x0.f6.f0 ((logLast x0.f6).1)) = true) (h11 : (inRange x0.f8 (0 : Int) (20 : Int)) = true) (h12 : (inRange x0.f9 (1 : Int) (20 : Int)) = true) (h13 : x0.f10.length ≤ 1050000) (h14 : (riseL x0.f10 (1 : Int) (4 : Int)) = true) (h15 : (decide ((x0.f10.length : Int) > (0 : Int))) = false) (h16 : (x0.f3 == (2 : Int)) = true) (h17 : Small.sm x0) (h18 : logOk x0.f6 = true) (h19 : (confOf x0).length ≤ 1050000) (h20 : ((x0.f11.length : Int) != ((othersL (confOf x0) x0.f0).length : Int)) = false) (h21 : Loops E 22 (lpAt Try.f22 0) (stL 153 [(1, .box () [tI x0.f0, tI x0.f1, tI x0.f2, tI x0.f3, tI x0.f4, .s .far () 1 (x0.f5.map etI), tI x0.f6.f0, tI x0.f6.f1, .s .far () 3 (x0.f6.f2.map GEntry.t), tI x0.f7, tI x0.f8, tI x0.f9, .s .far () 1 (x0.f10.map etI), .s .far () 4 (x0.f11.map GPeer.t)]), (3, .one (tI ((logLast x0.f6).1))), (5, .one (.s .own () 1 ((othersL (confOf x0) x0.f0).map etI))), (6, .one (tI (0 : Int)))]) .ret (stL 153 [(2, .one (tB w0_2))])) : Does E 22 [.agg (GNode.t .far x0)] [(false, [tB w0_2])] :=
  Does.path (fn := Try.f22) [rT, rT, rT, rT, rT, rT, rT, .ret [(false, [tI ((logLast x0.f6).1)]), (false, [tI ((logLast x0.f6).2)])], .b false, rT, rT, rT, rT, .val (.int .i64 (x0.f10.length : Int)), .b false, .b true, .ret [(false, [.s .own () 1 ((confOf x0).map etI)])], .ret [(false, [.s .own () 1 ((othersL (confOf x0) x0.f0).map etI)])], .val (.int .i64 (x0.f11.length : Int)), .val (.int .i64 ((othersL (confOf x0) x0.f0).length : Int)), .b false, .lp .ret (stL 153 [(2, .one (tB w0_2))])] _ rfl (fun _ => rfl) (fun k => by kernel_rfl) (AD (Does.tB (T_s_l01In x0.f0 (1 : Int) (4 : Int)) h0) <| AD (Does.tB (T_s_ConfOk x0.f5 h1) h2) <| AD (Does.tB (T_s_LogOk x0.f6 h3) h4) <| AD (Does.tB (T_s_l01In x0.f1 (0 : Int) (100000 : Int)) h5) <| AD (Does.tB (T_s_l01In x0.f2 (0 : Int) (4 : Int)) h6) <| AD (Does.tB (T_s_l01In x0.f4 (0 : Int) (4 : Int)) h7) <| AD (Does.tB (T_s_l01In x0.f3 (0 : Int) (2 : Int)) h8) <| AD (T_s_LogLast x0.f6 h3) <| AC h9 <| AD (Does.tB (T_s_l01In x0.f7 x0.f6.f0 ((logLast x0.f6).1)) h10) <| AD (Does.tB (T_s_l01In x0.f8 (0 : Int) (20 : Int)) h11) <| AD (Does.tB (T_s_l01In x0.f9 (1 : Int) (20 : Int)) h12) <| AD (Does.tB (T_s_l05Rise x0.f10 (1 : Int) (4 : Int) h13) h14) <| AV (ψ := fun _ => ((x0.f10.map etI).length : Int) = (x0.f10.length : Int)) (Ev.c lenMap) <| AC h15 <| AC h16 <| AD (T_s_ConfOf x0 h17 h18) <| AV (ψ := fun k => E.C k 81 [.one (.s .far () 1 ((((confOf x0).map etI).drop 0).take ((confOf x0).map etI).length)), .one (tI x0.f0)] = some [(false, [.s .own () 1 ((othersL (confOf x0) x0.f0).map etI)])]) (Does.args (by simp only [List.take_length, List.drop_zero]) (T_s_l19Others (confOf x0) x0.f0 h19)) <| AV (ψ := fun _ => ((x0.f11.map GPeer.t).length : Int) = (x0.f11.length : Int)) (Ev.c lenMap) <| AV (ψ := fun _ => (((othersL (confOf x0) x0.f0).map etI).length : Int) = ((othersL (confOf x0) x0.f0).length : Int)) (Ev.c lenMap) <| AC h20 <| AV (ψ := fun k => LoopK E 22 (lpAt Try.f22 0) (stL 153 [(1, .box () [tI x0.f0, tI x0.f1, tI x0.f2, tI x0.f3, tI x0.f4, .s .far () 1 (x0.f5.map etI), tI x0.f6.f0, tI x0.f6.f1, .s .far () 3 (x0.f6.f2.map GEntry.t), tI x0.f7, tI x0.f8, tI x0.f9, .s .far () 1 (x0.f10.map etI), .s .far () 4 (x0.f11.map GPeer.t)]), (3, .one (tI ((logLast x0.f6).1))), (5, .one (.s .own () 1 ((othersL (confOf x0) x0.f0).map etI))), (6, .one (tI (0 : Int)))]) .ret (stL 153 [(2, .one (tB w0_2))]) k k) (Loops.ev h21) <| AN)
theorem s_NodeOk_P10 (x0 : GNode) (h0 : (inRange x0.f0 (1 : Int) (4 : Int)) = true) (h1 : x0.f5.length ≤ 1050000) (h2 : (confOk x0.f5) = true) (h3 : Small.sm x0.f6) (h4 : (logOk x0.f6) = true) (h5 : (inRange x0.f1 (0 : Int) (100000 : Int)) = true) (h6 : (inRange x0.f2 (0 : Int) (4 : Int)) = true) (h7 : (inRange x0.f4 (0 : Int) (4 : Int)) = true) (h8 : (inRange x0.f3 (0 : Int) (2 : Int)) = true) (h9 : (decide (x0.f1 < ((logLast x0.f6).2))) = false) (h10 : (inRange x0.f7 x0.f6.f0 ((logLast x0.f6).1)) = true) (h11 : (inRange x0.f8 (0 : Int) (20 : Int)) = true) (h12 : (inRange x0.f9 (1 : Int) (20 : Int)) = true) (h13 : x0.f10.length ≤ 1050000) (h14 : (riseL x0.f10 (1 : Int) (4 : Int)) = true) (h15 : (decide ((x0.f10.length : Int) > (0 : Int))) = false) (h16 : (x0.f3 == (2 : Int)) = true) (h17 : Small.sm x0) (h18 : logOk x0.f6 = true) (h19 : (confOf x0).length ≤ 1050000) (h20 : ((x0.f11.length : Int) != ((othersL (confOf x0) x0.f0).length : Int)) = false) (h21 : Loops E 22 (lpAt Try.f22 0) (stL 153 [(1, .box () [tI x0.f0, tI x0.f1, tI x0.f2, tI x0.f3, tI x0.f4, .s .far () 1 (x0.f5.map etI), tI x0.f6.f0, tI x0.f6.f1, .s .far () 3 (x0.f6.f2.map GEntry.t), tI x0.f7, tI x0.f8, tI x0.f9, .s .far () 1 (x0.f10.map etI), .s .far () 4 (x0.f11.map GPeer.t)]), (3, .one (tI ((logLast x0.f6).1))), (5, .one (.s .own () 1 ((othersL (confOf x0) x0.f0).map etI))), (6, .one (tI (0 : Int)))]) (.exit 0) (stL 153 [])) : Does E 22 [.agg (GNode.t .far x0)] [(false, [tB true])] :=
  Does.path (fn := Try.f22) [rT, rT, rT, rT, rT, rT, rT, .ret [(false, [tI ((logLast x0.f6).1)]), (false, [tI ((logLast x0.f6).2)])], .b false, rT, rT, rT, rT, .val (.int .i64 (x0.f10.length : Int)), .b false, .b true, .ret [(false, [.s .own () 1 ((confOf x0).map etI)])], .ret [(false, [.s .own () 1 ((othersL (confOf x0) x0.f0).map etI)])], .val (.int .i64 (x0.f11.length : Int)), .val (.int .i64 ((othersL (confOf x0) x0.f0).length : Int)), .b false, .lp (.exit 0) (stL 153 [])] _ rfl (fun _ => rfl) (fun k => by kernel_rfl) (AD (Does.tB (T_s_l01In x0.f0 (1 : Int) (4 : Int)) h0) <| AD (Does.tB (T_s_ConfOk x0.f5 h1) h2) <| AD (Does.tB (T_s_LogOk x0.f6 h3) h4) <| AD (Does.tB (T_s_l01In x0.f1 (0 : Int) (100000 : Int)) h5) <| AD (Does.tB (T_s_l01In x0.f2 (0 : Int) (4 : Int)) h6) <| AD (Does.tB (T_s_l01In x0.f4 (0 : Int) (4 : Int)) h7) <| AD (Does.tB (T_s_l01In x0.f3 (0 : Int) (2 : Int)) h8) <| AD (T_s_LogLast x0.f6 h3) <| AC h9 <| AD (Does.tB (T_s_l01In x0.f7 x0.f6.f0 ((logLast x0.f6).1)) h10) <| AD (Does.tB (T_s_l01In x0.f8 (0 : Int) (20 : Int)) h11) <| AD (Does.tB (T_s_l01In x0.f9 (1 : Int) (20 : Int)) h12) <| AD (Does.tB (T_s_l05Rise x0.f10 (1 : Int) (4 : Int) h13) h14) <| AV (ψ := fun _ => ((x0.f10.map etI).length : Int) = (x0.f10.length : Int)) (Ev.c lenMap) <| AC h15 <| AC h16 <| AD (T_s_ConfOf x0 h17 h18) <| AV (ψ := fun k => E.C k 81 [.one (.s .far () 1 ((((confOf x0).map etI).drop 0).take ((confOf x0).map etI).length)), .one (tI x0.f0)] = some [(false, [.s .own () 1 ((othersL (confOf x0) x0.f0).map etI)])]) (Does.args (by simp only [List.take_length, List.drop_zero]) (T_s_l19Others (confOf x0) x0.f0 h19)) <| AV (ψ := fun _ => ((x0.f11.map GPeer.t).length : Int) = (x0.f11.length : Int)) (Ev.c lenMap) <| AV (ψ := fun _ => (((othersL (confOf x0) x0.f0).map etI).length : Int) = ((othersL (confOf x0) x0.f0).length : Int)) (Ev.c lenMap) <| AC h20 <| AV (ψ := fun k => LoopK E 22 (lpAt Try.f22 0) (stL 153 [(1, .box () [tI x0.f0, tI x0.f1, tI x0.f2, tI x0.f3, tI x0.f4, .s .far () 1 (x0.f5.map etI), tI x0.f6.f0, tI x0.f6.f1, .s .far () 3 (x0.f6.f2.map GEntry.t), tI x0.f7, tI x0.f8, tI x0.f9, .s .far () 1 (x0.f10.map etI), .s .far () 4 (x0.f11.map GPeer.t)]), (3, .one (tI ((logLast x0.f6).1))), (5, .one (.s .own () 1 ((othersL (confOf x0) x0.f0).map etI))), (6, .one (tI (0 : Int)))]) (.exit 0) (stL 153 []) k k) (Loops.ev h21) <| AN)
theorem s_NodeOk_P11 (x0 : GNode) (h0 : (inRange x0.f0 (1 : Int) (4 : Int)) = true) (h1 : x0.f5.length ≤ 1050000) (h2 : (confOk x0.f5) = true) (h3 : Small.sm x0.f6) (h4 : (logOk x0.f6) = true) (h5 : (inRange x0.f1 (0 : Int) (100000 : Int)) = true) (h6 : (inRange x0.f2 (0 : Int) (4 : Int)) = true) (h7 : (inRange x0.f4 (0 : Int) (4 : Int)) = true) (h8 : (inRange x0.f3 (0 : Int) (2 : Int)) = true) (h9 : (decide (x0.f1 < ((logLast x0.f6).2))) = false) (h10 : (inRange x0.f7 x0.f6.f0 ((logLast x0.f6).1)) = true) (h11 : (inRange x0.f8 (0 : Int) (20 : Int)) = true) (h12 : (inRange x0.f9 (1 : Int) (20 : Int)) = true) (h13 : x0.f10.length ≤ 1050000) (h14 : (riseL x0.f10 (1 : Int) (4 : Int)) = true) (h15 : (decide ((x0.f10.length : Int) > (0 : Int))) = false) (h16 : (x0.f3 == (2 : Int)) = false) (h17 : ((x0.f11.length : Int) != (([] : List Int).length : Int)) = true) : Does E 22 [.agg (GNode.t .far x0)] [(false, [tB false])] :=
  Does.path (fn := Try.f22) [rT, rT, rT, rT, rT, rT, rT, .ret [(false, [tI ((logLast x0.f6).1)]), (false, [tI ((logLast x0.f6).2)])], .b false, rT, rT, rT, rT, .val (.int .i64 (x0.f10.length : Int)), .b false, .b false, .val (.int .i64 (x0.f11.length : Int)), .val (.int .i64 (([] : List Int).length : Int)), .b true] _ rfl (fun _ => rfl) (fun k => by kernel_rfl) (AD (Does.tB (T_s_l01In x0.f0 (1 : Int) (4 : Int)) h0) <| AD (Does.tB (T_s_ConfOk x0.f5 h1) h2) <| AD (Does.tB (T_s_LogOk x0.f6 h3) h4) <| AD (Does.tB (T_s_l01In x0.f1 (0 : Int) (100000 : Int)) h5) <| AD (Does.tB (T_s_l01In x0.f2 (0 : Int) (4 : Int)) h6) <| AD (Does.tB (T_s_l01In x0.f4 (0 : Int) (4 : Int)) h7) <| AD (Does.tB (T_s_l01In x0.f3 (0 : Int) (2 : Int)) h8) <| AD (T_s_LogLast x0.f6 h3) <| AC h9 <| AD (Does.tB (T_s_l01In x0.f7 x0.f6.f0 ((logLast x0.f6).1)) h10) <| AD (Does.tB (T_s_l01In x0.f8 (0 : Int) (20 : Int)) h11) <| AD (Does.tB (T_s_l01In x0.f9 (1 : Int) (20 : Int)) h12) <| AD (Does.tB (T_s_l05Rise x0.f10 (1 : Int) (4 : Int) h13) h14) <| AV (ψ := fun _ => ((x0.f10.map etI).length : Int) = (x0.f10.length : Int)) (Ev.c lenMap) <| AC h15 <| AC h16 <| AV (ψ := fun _ => ((x0.f11.map GPeer.t).length : Int) = (x0.f11.length : Int)) (Ev.c lenMap) <| AV (ψ := fun _ => ((([] : List Int).map etI).length : Int) = (([] : List Int).length : Int)) (Ev.c lenMap) <| AC h17 <| AN)
theorem s_NodeOk_P12 (x0 : GNode) (w0_2 : Bool) (h0 : (inRange x0.f0 (1 : Int) (4 : Int)) = true) (h1 : x0.f5.length ≤ 1050000) (h2 : (confOk x0.f5) = true) (h3 : Small.sm x0.f6) (h4 : (logOk x0.f6) = true) (h5 : (inRange x0.f1 (0 : Int) (100000 : Int)) = true) (h6 : (inRange x0.f2 (0 : Int) (4 : Int)) = true) (h7 : (inRange x0.f4 (0 : Int) (4 : Int)) = true) (h8 : (inRange x0.f3 (0 : Int) (2 : Int)) = true) (h9 : (decide (x0.f1 < ((logLast x0.f6).2))) = false) (h10 : (inRange x0.f7 x0.f6.f0 ((logLast x0.f6).1)) = true) (h11 : (inRange x0.f8 (0 : Int) (20 : Int)) = true) (h12 : (inRange x0.f9 (1 : Int) (20 : Int)) = true) (h13 : x0.f10.length ≤ 1050000) (h14 : (riseL x0.f10 (1 : Int) (4 : Int)) = true) (h15 : (decide ((x0.f10.length : Int) > (0 : Int))) = false) (h16 : (x0.f3 == (2 : Int)) = false) (h17 : ((x0.f11.length : Int) != (([] : List Int).length : Int)) = false) (h18 : Loops E 22 (lpAt Try.f22 0) (stL 153 [(1, .box () [tI x0.f0, tI x0.f1, tI x0.f2, tI x0.f3, tI x0.f4, .s .far () 1 (x0.f5.map etI), tI x0.f6.f0, tI x0.f6.f1, .s .far () 3 (x0.f6.f2.map GEntry.t), tI x0.f7, tI x0.f8, tI x0.f9, .s .far () 1 (x0.f10.map etI), .s .far () 4 (x0.f11.map GPeer.t)]), (3, .one (tI ((logLast x0.f6).1))), (5, .one (.s .own () 1 (([] : List Int).map etI))), (6, .one (tI (0 : Int)))]) .ret (stL 153 [(2, .one (tB w0_2))])) : Does E 22 [.agg (GNode.t .far x0)] [(false, [tB w0_2])] :=
  Does.path (fn := Try.f22) [rT, rT, rT, rT, rT, rT, rT, .ret [(false, [tI ((logLast x0.f6).1)]), (false, [tI ((logLast x0.f6).2)])], .b false, rT, rT, rT, rT, .val (.int .i64 (x0.f10.length : Int)), .b false, .b false, .val (.int .i64 (x0.f11.length : Int)), .val (.int .i64 (([] : List Int).length : Int)), .b false, .lp .ret (stL 153 [(2, .one (tB w0_2))])] _ rfl (fun _ => rfl) (fun k => by kernel_rfl) (AD (Does.tB (T_s_l01In x0.f0 (1 : Int) (4 : Int)) h0) <| AD (Does.tB (T_s_ConfOk x0.f5 h1) h2) <| AD (Does.tB (T_s_LogOk x0.f6 h3) h4) <| AD (Does.tB (T_s_l01In x0.f1 (0 : Int) (100000 : Int)) h5) <| AD (Does.tB (T_s_l01In x0.f2 (0 : Int) (4 : Int)) h6) <| AD (Does.tB (T_s_l01In x0.f4 (0 : Int) (4 : Int)) h7) <| AD (Does.tB (T_s_l01In x0.f3 (0 : Int) (2 : Int)) h8) <| AD (T_s_LogLast x0.f6 h3) <| AC h9 <| AD (Does.tB (T_s_l01In x0.f7 x0.f6.f0 ((logLast x0.f6).1)) h10) <| AD (Does.tB (T_s_l01In x0.f8 (0 : Int) (20 : Int)) h11) <| AD (Does.tB (T_s_l01In x0.f9 (1 : Int) (20 : Int)) h12) <| AD (Does.tB (T_s_l05Rise x0.f10 (1 : Int) (4 : Int) h13) h14) <| AV (ψ := fun _ => ((x0.f10.map etI).length : Int) = (x0.f10.length : Int)) (Ev.c lenMap) <| AC h15 <| AC h16 <| AV (ψ := fun _ => ((x0.f11.map GPeer.t).length : Int) = (x0.f11.length : Int)) (Ev.c lenMap) <| AV (ψ := fun _ => ((([] : List Int).map etI).length : Int) = (([] : List Int).length : Int)) (Ev.c lenMap) <| AC h17 <| AV (ψ := fun k => LoopK E 22 (lpAt Try.f22 0) (stL 153 [(1, .box () [tI x0.f0, tI x0.f1, tI x0.f2, tI x0.f3, tI x0.f4, .s .far () 1 (x0.f5.map etI), tI x0.f6.f0, tI x0.f6.f1, .s .far () 3 (x0.f6.f2.map GEntry.t), tI x0.f7, tI x0.f8, tI x0.f9, .s .far () 1 (x0.f10.map etI), .s .far () 4 (x0.f11.map GPeer.t)]), (3, .one (tI ((logLast x0.f6).1))), (5, .one (.s .own () 1 (([] : List Int).map etI))), (6, .one (tI (0 : Int)))]) .ret (stL 153 [(2, .one (tB w0_2))]) k k) (Loops.ev h18) <| AN)
theorem s_NodeOk_P13 (x0 : GNode) (h0 : (inRange x0.f0 (1 : Int) (4 : Int)) = true) (h1 : x0.f5.length ≤ 1050000) (h2 : (confOk x0.f5) = true) (h3 : Small.sm x0.f6) (h4 : (logOk x0.f6) = true) (h5 : (inRange x0.f1 (0 : Int) (100000 : Int)) = true) (h6 : (inRange x0.f2 (0 : Int) (4 : Int)) = true) (h7 : (inRange x0.f4 (0 : Int) (4 : Int)) = true) (h8 : (inRange x0.f3 (0 : Int) (2 : Int)) = true) (h9 : (decide (x0.f1 < ((logLast x0.f6).2))) = false) (h10 : (inRange x0.f7 x0.f6.f0 ((logLast x0.f6).1)) = true) (h11 : (inRange x0.f8 (0 : Int) (20 : Int)) = true) (h12 : (inRange x0.f9 (1 : Int) (20 : Int)) = true) (h13 : x0.f10.length ≤ 1050000) (h14 : (riseL x0.f10 (1 : Int) (4 : Int)) = true) (h15 : (decide ((x0.f10.length : Int) > (0 : Int))) = false) (h16 : (x0.f3 == (2 : Int)) = false) (h17 : ((x0.f11.length : Int) != (([] : List Int).length : Int)) = false) (h18 : Loops E 22 (lpAt Try.f22 0) (stL 153 [(1, .box () [tI x0.f0, tI x0.f1, tI x0.f2, tI x0.f3, tI x0.f4, .s .far () 1 (x0.f5.map etI), tI x0.f6.f0, tI x0.f6.f1, .s .far () 3 (x0.f6.f2.map GEntry.t), tI x0.f7, tI x0.f8, tI x0.f9, .s .far () 1 (x0.f10.map etI), .s .far () 4 (x0.f11.map GPeer.t)]), (3, .one (tI ((logLast x0.f6).1))), (5, .one (.s .own () 1 (([] : List Int).map etI))), (6, .one (tI (0 : Int)))]) (.exit 0) (stL 153 [])) : Does E 22 [.agg (GNode.t .far x0)] [(false, [tB true])] :=
  Does.path (fn := Try.f22) [rT, rT, rT, rT, rT, rT, rT, .ret [(false, [tI ((logLast x0.f6).1)]), (false, [tI ((logLast x0.f6).2)])], .b false, rT, rT, rT, rT, .val (.int .i64 (x0.f10.length : Int)), .b false, .b false, .val (.int .i64 (x0.f11.length : Int)), .val (.int .i64 (([] : List Int).length : Int)), .b false, .lp (.exit 0) (stL 153 [])] _ rfl (fun _ => rfl) (fun k => by kernel_rfl) (AD (Does.tB (T_s_l01In x0.f0 (1 : Int) (4 : Int)) h0) <| AD (Does.tB (T_s_ConfOk x0.f5 h1) h2) <| AD (Does.tB (T_s_LogOk x0.f6 h3) h4) <| AD (Does.tB (T_s_l01In x0.f1 (0 : Int) (100000 : Int)) h5) <| AD (Does.tB (T_s_l01In x0.f2 (0 : Int) (4 : Int)) h6) <| AD (Does.tB (T_s_l01In x0.f4 (0 : Int) (4 : Int)) h7) <| AD (Does.tB (T_s_l01In x0.f3 (0 : Int) (2 : Int)) h8) <| AD (T_s_LogLast x0.f6 h3) <| AC h9 <| AD (Does.tB (T_s_l01In x0.f7 x0.f6.f0 ((logLast x0.f6).1)) h10) <| AD (Does.tB (T_s_l01In x0.f8 (0 : Int) (20 : Int)) h11) <| AD (Does.tB (T_s_l01In x0.f9 (1 : Int) (20 : Int)) h12) <| AD (Does.tB (T_s_l05Rise x0.f10 (1 : Int) (4 : Int) h13) h14) <| AV (ψ := fun _ => ((x0.f10.map etI).length : Int) = (x0.f10.length : Int)) (Ev.c lenMap) <| AC h15 <| AC h16 <| AV (ψ := fun _ => ((x0.f11.map GPeer.t).length : Int) = (x0.f11.length : Int)) (Ev.c lenMap) <| AV (ψ := fun _ => ((([] : List Int).map etI).length : Int) = (([] : List Int).length : Int)) (Ev.c lenMap) <| AC h17 <| AV (ψ := fun k => LoopK E 22 (lpAt Try.f22 0) (stL 153 [(1, .box () [tI x0.f0, tI x0.f1, tI x0.f2, tI x0.f3, tI x0.f4, .s .far () 1 (x0.f5.map etI), tI x0.f6.f0, tI x0.f6.f1, .s .far () 3 (x0.f6.f2.map GEntry.t), tI x0.f7, tI x0.f8, tI x0.f9, .s .far () 1 (x0.f10.map etI), .s .far () 4 (x0.f11.map GPeer.t)]), (3, .one (tI ((logLast x0.f6).1))), (5, .one (.s .own () 1 (([] : List Int).map etI))), (6, .one (tI (0 : Int)))]) (.exit 0) (stL 153 []) k k) (Loops.ev h18) <| AN)
theorem s_NodeOk_P14 (x0 : GNode) (h0 : (inRange x0.f0 (1 : Int) (4 : Int)) = true) (h1 : x0.f5.length ≤ 1050000) (h2 : (confOk x0.f5) = true) (h3 : Small.sm x0.f6) (h4 : (logOk x0.f6) = true) (h5 : (inRange x0.f1 (0 : Int) (100000 : Int)) = true) (h6 : (inRange x0.f2 (0 : Int) (4 : Int)) = true) (h7 : (inRange x0.f4 (0 : Int) (4 : Int)) = true) (h8 : (inRange x0.f3 (0 : Int) (2 : Int)) = true) (h9 : (decide (x0.f1 < ((logLast x0.f6).2))) = false) (h10 : (inRange x0.f7 x0.f6.f0 ((logLast x0.f6).1)) = true) (h11 : (inRange x0.f8 (0 : Int) (20 : Int)) = true) (h12 : (inRange x0.f9 (1 : Int) (20 : Int)) = true) (h13 : x0.f10.length ≤ 1050000) (h14 : (riseL x0.f10 (1 : Int) (4 : Int)) = false) : Does E 22 [.agg (GNode.t .far x0)] [(false, [tB false])] :=
  Does.path (fn := Try.f22) [rT, rT, rT, rT, rT, rT, rT, .ret [(false, [tI ((logLast x0.f6).1)]), (false, [tI ((logLast x0.f6).2)])], .b false, rT, rT, rT, rF] _ rfl (fun _ => rfl) (fun k => by kernel_rfl) (AD (Does.tB (T_s_l01In x0.f0 (1 : Int) (4 : Int)) h0) <| AD (Does.tB (T_s_ConfOk x0.f5 h1) h2) <| AD (Does.tB (T_s_LogOk x0.f6 h3) h4) <| AD (Does.tB (T_s_l01In x0.f1 (0 : Int) (100000 : Int)) h5) <| AD (Does.tB (T_s_l01In x0.f2 (0 : Int) (4 : Int)) h6) <| AD (Does.tB (T_s_l01In x0.f4 (0 : Int) (4 : Int)) h7) <| AD (Does.tB (T_s_l01In x0.f3 (0 : Int) (2 : Int)) h8) <| AD (T_s_LogLast x0.f6 h3) <| AC h9 <| AD (Does.tB (T_s_l01In x0.f7 x0.f6.f0 ((logLast x0.f6).1)) h10) <| AD (Does.tB (T_s_l01In x0.f8 (0 : Int) (20 : Int)) h11) <| AD (Does.tB (T_s_l01In x0.f9 (1 : Int) (20 : Int)) h12) <| AD (Does.tB (T_s_l05Rise x0.f10 (1 : Int) (4 : Int) h13) h14) <| AN)
theorem s_NodeOk_P15 (x0 : GNode) (h0 : (inRange x0.f0 (1 : Int) (4 : Int)) = true) (h1 : x0.f5.length ≤ 1050000) (h2 : (confOk x0.f5) = true) (h3 : Small.sm x0.f6) (h4 : (logOk x0.f6) = true) (h5 : (inRange x0.f1 (0 : Int) (100000 : Int)) = true) (h6 : (inRange x0.f2 (0 : Int) (4 : Int)) = true) (h7 : (inRange x0.f4 (0 : Int) (4 : Int)) = true) (h8 : (inRange x0.f3 (0 : Int) (2 : Int)) = true) (h9 : (decide (x0.f1 < ((logLast x0.f6).2))) = false) (h10 : (inRange x0.f7 x0.f6.f0 ((logLast x0.f6).1)) = true) (h11 : (inRange x0.f8 (0 : Int) (20 : Int)) = true) (h12 : (inRange x0.f9 (1 : Int) (20 : Int)) = false) : Does E 22 [.agg (GNode.t .far x0)] [(false, [tB false])] :=
  Does.path (fn := Try.f22) [rT, rT, rT, rT, rT, rT, rT, .ret [(false, [tI ((logLast x0.f6).1)]), (false, [tI ((logLast x0.f6).2)])], .b false, rT, rT, rF] _ rfl (fun _ => rfl) (fun k => by kernel_rfl) (AD (Does.tB (T_s_l01In x0.f0 (1 : Int) (4 : Int)) h0) <| AD (Does.tB (T_s_ConfOk x0.f5 h1) h2) <| AD (Does.tB (T_s_LogOk x0.f6 h3) h4) <| AD (Does.tB (T_s_l01In x0.f1 (0 : Int) (100000 : Int)) h5) <| AD (Does.tB (T_s_l01In x0.f2 (0 : Int) (4 : Int)) h6) <| AD (Does.tB (T_s_l01In x0.f4 (0 : Int) (4 : Int)) h7) <| AD (Does.tB (T_s_l01In x0.f3 (0 : Int) (2 : Int)) h8) <| AD (T_s_LogLast x0.f6 h3) <| AC h9 <| AD (Does.tB (T_s_l01In x0.f7 x0.f6.f0 ((logLast x0.f6).1)) h10) <| AD (Does.tB (T_s_l01In x0.f8 (0 : Int) (20 : Int)) h11) <| AD (Does.tB (T_s_l01In x0.f9 (1 : Int) (20 : Int)) h12) <| AN)
theorem s_NodeOk_P16 (x0 : GNode) (h0 : (inRange x0.f0 (1 : Int) (4 : Int)) = true) (h1 : x0.f5.length ≤ 1050000) (h2 : (confOk x0.f5) = true) (h3 : Small.sm x0.f6) (h4 : (logOk x0.f6) = true) (h5 : (inRange x0.f1 (0 : Int) (100000 : Int)) = true) (h6 : (inRange x0.f2 (0 : Int) (4 : Int)) = true) (h7 : (inRange x0.f4 (0 : Int) (4 : Int)) = true) (h8 : (inRange x0.f3 (0 : Int) (2 : Int)) = true) (h9 : (decide (x0.f1 < ((logLast x0.f6).2))) = false) (h10 : (inRange x0.f7 x0.f6.f0 ((logLast x0.f6).1)) = true) (h11 : (inRange x0.f8 (0 : Int) (20 : Int)) = false) : Does E 22 [.agg (GNode.t .far x0)] [(false, [tB false])] :=
  Does.path (fn := Try.f22) [rT, rT, rT, rT, rT, rT, rT, .ret [(false, [tI ((logLast x0.f6).1)]), (false, [tI ((logLast x0.f6).2)])], .b false, rT, rF] _ rfl (fun _ => rfl) (fun k => by kernel_rfl) (AD (Does.tB (T_s_l01In x0.f0 (1 : Int) (4 : Int)) h0) <| AD (Does.tB (T_s_ConfOk x0.f5 h1) h2) <| AD (Does.tB (T_s_LogOk x0.f6 h3) h4) <| AD (Does.tB (T_s_l01In x0.f1 (0 : Int) (100000 : Int)) h5) <| AD (Does.tB (T_s_l01In x0.f2 (0 : Int) (4 : Int)) h6) <| AD (Does.tB (T_s_l01In x0.f4 (0 : Int) (4 : Int)) h7) <| AD (Does.tB (T_s_l01In x0.f3 (0 : Int) (2 : Int)) h8) <| AD (T_s_LogLast x0.f6 h3) <| AC h9 <| AD (Does.tB (T_s_l01In x0.f7 x0.f6.f0 ((logLast x0.f6).1)) h10) <| AD (Does.tB (T_s_l01In x0.f8 (0 : Int) (20 : Int)) h11) <| AN)
theorem s_NodeOk_P17 (x0 : GNode) (h0 : (inRange x0.f0 (1 : Int) (4 : Int)) = true) (h1 : x0.f5.length ≤ 1050000) (h2 : (confOk x0.f5) = true) (h3 : Small.sm x0.f6) (h4 : (logOk x0.f6) = true) (h5 : (inRange x0.f1 (0 : Int) (100000 : Int)) = true) (h6 : (inRange x0.f2 (0 : Int) (4 : Int)) = true) (h7 : (inRange x0.f4 (0 : Int) (4 : Int)) = true) (h8 : (inRange x0.f3 (0 : Int) (2 : Int)) = true) (h9 : (decide (x0.f1 < ((logLast x0.f6).2))) = false) (h10 : (inRange x0.f7 x0.f6.f0 ((logLast x0.f6).1)) = false) : Does E 22 [.agg (GNode.t .far x0)] [(false, [tB false])] :=
  Does.path (fn := Try.f22) [rT, rT, rT, rT, rT, rT, rT, .ret [(false, [tI ((logLast x0.f6).1)]), (false, [tI ((logLast x0.f6).2)])], .b false, rF] _ rfl (fun _ => rfl) (fun k => by kernel_rfl) (AD (Does.tB (T_s_l01In x0.f0 (1 : Int) (4 : Int)) h0) <| AD (Does.tB (T_s_ConfOk x0.f5 h1) h2) <| AD (Does.tB (T_s_LogOk x0.f6 h3) h4) <| AD (Does.tB (T_s_l01In x0.f1 (0 : Int) (100000 : Int)) h5) <| AD (Does.tB (T_s_l01In x0.f2 (0 : Int) (4 : Int)) h6) <| AD (Does.tB (T_s_l01In x0.f4 (0 : Int) (4 : Int)) h7) <| AD (Does.tB (T_s_l01In x0.f3 (0 : Int) (2 : Int)) h8) <| AD (T_s_LogLast x0.f6 h3) <| AC h9 <| AD (Does.tB (T_s_l01In x0.f7 x0.f6.f0 ((logLast x0.f6).1)) h10) <| AN)
theorem s_NodeOk_P18 (x0 : GNode) (h0 : (inRange x0.f0 (1 : Int) (4 : Int)) = true) (h1 : x0.f5.length ≤ 1050000) (h2 : (confOk x0.f5) = true) (h3 : Small.sm x0.f6) (h4 : (logOk x0.f6) = true) (h5 : (inRange x0.f1 (0 : Int) (100000 : Int)) = true) (h6 : (inRange x0.f2 (0 : Int) (4 : Int)) = true) (h7 : (inRange x0.f4 (0 : Int) (4 : Int)) = true) (h8 : (inRange x0.f3 (0 : Int) (2 : Int)) = false) : Does E 22 [.agg (GNode.t .far x0)] [(false, [tB false])] :=
  Does.path (fn := Try.f22) [rT, rT, rT, rT, rT, rT, rF] _ rfl (fun _ => rfl) (fun k => by kernel_rfl) (AD (Does.tB (T_s_l01In x0.f0 (1 : Int) (4 : Int)) h0) <| AD (Does.tB (T_s_ConfOk x0.f5 h1) h2) <| AD (Does.tB (T_s_LogOk x0.f6 h3) h4) <| AD (Does.tB (T_s_l01In x0.f1 (0 : Int) (100000 : Int)) h5) <| AD (Does.tB (T_s_l01In x0.f2 (0 : Int) (4 : Int)) h6) <| AD (Does.tB (T_s_l01In x0.f4 (0 : Int) (4 : Int)) h7) <| AD (Does.tB (T_s_l01In x0.f3 (0 : Int) (2 : Int)) h8) <| AN)
theorem s_NodeOk_P19 (x0 : GNode) (h0 : (inRange x0.f0 (1 : Int) (4 : Int)) = true) (h1 : x0.f5.length ≤ 1050000) (h2 : (confOk x0.f5) = true) (h3 : Small.sm x0.f6) (h4 : (logOk x0.f6) = true) (h5 : (inRange x0.f1 (0 : Int) (100000 : Int)) = true) (h6 : (inRange x0.f2 (0 : Int) (4 : Int)) = true) (h7 : (inRange x0.f4 (0 : Int) (4 : Int)) = false) : Does E 22 [.agg (GNode.t .far x0)] [(false, [tB false])] :=
  Does.path (fn := Try.f22) [rT, rT, rT, rT, rT, rF] _ rfl (fun _ => rfl) (fun k => by kernel_rfl) (AD (Does.tB (T_s_l01In x0.f0 (1 : Int) (4 : Int)) h0) <| AD (Does.tB (T_s_ConfOk x0.f5 h1) h2) <| AD (Does.tB (T_s_LogOk x0.f6 h3) h4) <| AD (Does.tB (T_s_l01In x0.f1 (0 : Int) (100000 : Int)) h5) <| AD (Does.tB (T_s_l01In x0.f2 (0 : Int) (4 : Int)) h6) <| AD (Does.tB (T_s_l01In x0.f4 (0 : Int) (4 : Int)) h7) <| AN)
theorem s_NodeOk_P20 (x0 : GNode) (h0 : (inRange x0.f0 (1 : Int) (4 : Int)) = true) (h1 : x0.f5.length ≤ 1050000) (h2 : (confOk x0.f5) = true) (h3 : Small.sm x0.f6) (h4 : (logOk x0.f6) = true) (h5 : (inRange x0.f1 (0 : Int) (100000 : Int)) = true) (h6 : (inRange x0.f2 (0 : Int) (4 : Int)) = false) : Does E 22 [.agg (GNode.t .far x0)] [(false, [tB false])] :=
  Does.path (fn := Try.f22) [rT, rT, rT, rT, rF] _ rfl (fun _ => rfl) (fun k => by kernel_rfl) (AD (Does.tB (T_s_l01In x0.f0 (1 : Int) (4 : Int)) h0) <| AD (Does.tB (T_s_ConfOk x0.f5 h1) h2) <| AD (Does.tB (T_s_LogOk x0.f6 h3) h4) <| AD (Does.tB (T_s_l01In x0.f1 (0 : Int) (100000 : Int)) h5) <| AD (Does.tB (T_s_l01In x0.f2 (0 : Int) (4 : Int)) h6) <| AN)
theorem s_NodeOk_P21 (x0 : GNode) (h0 : (inRange x0.f0 (1 : Int) (4 : Int)) = true) (h1 : x0.f5.length ≤ 1050000) (h2 : (confOk x0.f5) = true) (h3 : Small.sm x0.f6) (h4 : (logOk x0.f6) = true) (h5 : (inRange x0.f1 (0 : Int) (100000 : Int)) = false) : Does E 22 [.agg (GNode.t .far x0)] [(false, [tB false])] :=
  Does.path (fn := Try.f22) [rT, rT, rT, rF] _ rfl (fun _ => rfl) (fun k => by kernel_rfl) (AD (Does.tB (T_s_l01In x0.f0 (1 : Int) (4 : Int)) h0) <| AD (Does.tB (T_s_ConfOk x0.f5 h1) h2) <| AD (Does.tB (T_s_LogOk x0.f6 h3) h4) <| AD (Does.tB (T_s_l01In x0.f1 (0 : Int) (100000 : Int)) h5) <| AN)
theorem s_NodeOk_P22 (x0 : GNode) (h0 : (inRange x0.f0 (1 : Int) (4 : Int)) = true) (h1 : x0.f5.length ≤ 1050000) (h2 : (confOk x0.f5) = true) (h3 : Small.sm x0.f6) (h4 : (logOk x0.f6) = false) : Does E 22 [.agg (GNode.t .far x0)] [(false, [tB false])] :=
  Does.path (fn := Try.f22) [rT, rT, rF] _ rfl (fun _ => rfl) (fun k => by kernel_rfl) (AD (Does.tB (T_s_l01In x0.f0 (1 : Int) (4 : Int)) h0) <| AD (Does.tB (T_s_ConfOk x0.f5 h1) h2) <| AD (Does.tB (T_s_LogOk x0.f6 h3) h4) <| AN)
theorem s_NodeOk_P23 (x0 : GNode) (h0 : (inRange x0.f0 (1 : Int) (4 : Int)) = true) (h1 : x0.f5.length ≤ 1050000) (h2 : (confOk x0.f5) = false) : Does E 22 [.agg (GNode.t .far x0)] [(false, [tB false])] :=
  Does.path (fn := Try.f22) [rT, rF] _ rfl (fun _ => rfl) (fun k => by kernel_rfl) (AD (Does.tB (T_s_l01In x0.f0 (1 : Int) (4 : Int)) h0) <| AD (Does.tB (T_s_ConfOk x0.f5 h1) h2) <| AN)
theorem s_NodeOk_P24 (x0 : GNode) (h0 : (inRange x0.f0 (1 : Int) (4 : Int)) = false) : Does E 22 [.agg (GNode.t .far x0)] [(false, [tB false])] :=
  Does.path (fn := Try.f22) [rF] _ rfl (fun _ => rfl) (fun k => by kernel_rfl) (AD (Does.tB (T_s_l01In x0.f0 (1 : Int) (4 : Int)) h0) <| AN)
noncomputable def s_NodeOk_F (x0 : GNode) : Option (Bool) :=
    cond (inRange x0.f0 (1 : Int) (4 : Int))
      (if x0.f5.length ≤ 1050000 then cond (confOk x0.f5)
        (if Small.sm x0.f6 then cond (logOk x0.f6)
          (cond (inRange x0.f1 (0 : Int) (100000 : Int))
            (cond (inRange x0.f2 (0 : Int) (4 : Int))
              (cond (inRange x0.f4 (0 : Int) (4 : Int))
                (cond (inRange x0.f3 (0 : Int) (2 : Int))
                  (cond (decide (x0.f1 < ((logLast x0.f6).2)))
                    (some (false))
                    (cond (inRange x0.f7 x0.f6.f0 ((logLast x0.f6).1))
                      (cond (inRange x0.f8 (0 : Int) (20 : Int))
                        (cond (inRange x0.f9 (1 : Int) (20 : Int))
                          (if x0.f10.length ≤ 1050000 then cond (riseL x0.f10 (1 : Int) (4 : Int))
                            (cond (decide ((x0.f10.length : Int) > (0 : Int)))
                              (cond (x0.f3 != (1 : Int))
                                (some (false))
                                (cond (x0.f3 == (2 : Int))
                                  (if Small.sm x0 then if logOk x0.f6 = true then if (confOf x0).length ≤ 1050000 then cond ((x0.f11.length : Int) != ((othersL (confOf x0) x0.f0).length : Int))
                                    (some (false))
                                    (if (othersL (confOf x0) x0.f0).length ≤ 9223372036854775807 then (s_NodeOk_l0 x0.f11 ((logLast x0.f6).1) (othersL (confOf x0) x0.f0) 0).bind fun y => match y with
                                      | .ret w0_2 => (some (w0_2))
                                      | .x0 => (some (true)) else none) else none else none else none)
                                  (cond ((x0.f11.length : Int) != (([] : List Int).length : Int))
                                    (some (false))
                                    (if ([] : List Int).length ≤ 9223372036854775807 then (s_NodeOk_l0 x0.f11 ((logLast x0.f6).1) ([]) 0).bind fun y => match y with
                                      | .ret w0_2 => (some (w0_2))
                                      | .x0 => (some (true)) else none))))
                              (cond (x0.f3 == (2 : Int))
                                (if Small.sm x0 then if logOk x0.f6 = true then if (confOf x0).length ≤ 1050000 then cond ((x0.f11.length : Int) != ((othersL (confOf x0) x0.f0).length : Int))
                                  (some (false))
                                  (if (othersL (confOf x0) x0.f0).length ≤ 9223372036854775807 then (s_NodeOk_l0 x0.f11 ((logLast x0.f6).1) (othersL (confOf x0) x0.f0) 0).bind fun y => match y with
                                    | .ret w0_2 => (some (w0_2))
                                    | .x0 => (some (true)) else none) else none else none else none)
                                (cond ((x0.f11.length : Int) != (([] : List Int).length : Int))
                                  (some (false))
                                  (if ([] : List Int).length ≤ 9223372036854775807 then (s_NodeOk_l0 x0.f11 ((logLast x0.f6).1) ([]) 0).bind fun y => match y with
                                    | .ret w0_2 => (some (w0_2))
                                    | .x0 => (some (true)) else none))))
                            (some (false)) else none)
                          (some (false)))
                        (some (false)))
                      (some (false))))
                  (some (false)))
                (some (false)))
              (some (false)))
            (some (false)))
          (some (false)) else none)
        (some (false)) else none)
      (some (false))
theorem s_NodeOk_D (x0 : GNode) : Ans (s_NodeOk_F x0) (fun r => Does E 22 [.agg (GNode.t .far x0)] [(false, [tB r])]) := by
  unfold s_NodeOk_F
  refine Ans.ite (fun h0 => ?_) (fun h0 => ?_)
  · refine Ans.pre (fun h1 => ?_)
    refine Ans.ite (fun h2 => ?_) (fun h2 => ?_)
    · refine Ans.pre (fun h3 => ?_)
      refine Ans.ite (fun h4 => ?_) (fun h4 => ?_)
      · refine Ans.ite (fun h5 => ?_) (fun h5 => ?_)
        · refine Ans.ite (fun h6 => ?_) (fun h6 => ?_)
          · refine Ans.ite (fun h7 => ?_) (fun h7 => ?_)
            · refine Ans.ite (fun h8 => ?_) (fun h8 => ?_)
              · refine Ans.ite (fun h9 => ?_) (fun h9 => ?_)
                · exact Ans.some (s_NodeOk_P0 x0 h0 h1 h2 h3 h4 h5 h6 h7 h8 h9)
                · refine Ans.ite (fun h10 => ?_) (fun h10 => ?_)
                  · refine Ans.ite (fun h11 => ?_) (fun h11 => ?_)
                    · refine Ans.ite (fun h12 => ?_) (fun h12 => ?_)
                      · refine Ans.pre (fun h13 => ?_)
                        refine Ans.ite (fun h14 => ?_) (fun h14 => ?_)
                        · refine Ans.ite (fun h15 => ?_) (fun h15 => ?_)
                          · refine Ans.ite (fun h16 => ?_) (fun h16 => ?_)
                            · exact Ans.some (s_NodeOk_P1 x0 h0 h1 h2 h3 h4 h5 h6 h7 h8 h9 h10 h11 h12 h13 h14 h15 h16)
                            · refine Ans.ite (fun h17 => ?_) (fun h17 => ?_)
                              · refine Ans.pre (fun h18 => ?_)
                                refine Ans.pre (fun h19 => ?_)
                                refine Ans.pre (fun h20 => ?_)
                                refine Ans.ite (fun h21 => ?_) (fun h21 => ?_)
                                · exact Ans.some (s_NodeOk_P2 x0 h0 h1 h2 h3 h4 h5 h6 h7 h8 h9 h10 h11 h12 h13 h14 h15 h16 h17 h18 h19 h20 h21)
                                · refine Ans.pre (fun hl17 => ?_)
                                  refine Ans.bind (fun y hy => ?_)
                                  replace hy := s_NodeOk_L0 x0.f0 x0.f1 x0.f2 x0.f3 x0.f4 x0.f5 x0.f6.f0 x0.f6.f1 x0.f6.f2 x0.f7 x0.f8 x0.f9 x0.f10 x0.f11 ((logLast x0.f6).1) (othersL (confOf x0) x0.f0) (othersL (confOf x0) x0.f0) 0 rfl hl17 y hy
                                  cases y with
                                  | ret w0_2 =>
                                    have h22 := hy
                                    exact Ans.some (s_NodeOk_P3 x0 w0_2 h0 h1 h2 h3 h4 h5 h6 h7 h8 h9 h10 h11 h12 h13 h14 h15 h16 h17 h18 h19 h20 h21 h22)
                                  | x0 =>
                                    have h22 := hy
                                    exact Ans.some (s_NodeOk_P4 x0 h0 h1 h2 h3 h4 h5 h6 h7 h8 h9 h10 h11 h12 h13 h14 h15 h16 h17 h18 h19 h20 h21 h22)
                              · refine Ans.ite (fun h18 => ?_) (fun h18 => ?_)
                                · exact Ans.some (s_NodeOk_P5 x0 h0 h1 h2 h3 h4 h5 h6 h7 h8 h9 h10 h11 h12 h13 h14 h15 h16 h17 h18)
                                · refine Ans.pre (fun hl17 => ?_)
                                  refine Ans.bind (fun y hy => ?_)
                                  replace hy := s_NodeOk_L0 x0.f0 x0.f1 x0.f2 x0.f3 x0.f4 x0.f5 x0.f6.f0 x0.f6.f1 x0.f6.f2 x0.f7 x0.f8 x0.f9 x0.f10 x0.f11 ((logLast x0.f6).1) ([]) ([]) 0 rfl hl17 y hy
                                  cases y with
                                  | ret w0_2 =>
                                    have h19 := hy
                                    exact Ans.some (s_NodeOk_P6 x0 w0_2 h0 h1 h2 h3 h4 h5 h6 h7 h8 h9 h10 h11 h12 h13 h14 h15 h16 h17 h18 h19)
                                  | x0 =>
                                    have h19 := hy
                                    exact Ans.some (s_NodeOk_P7 x0 h0 h1 h2 h3 h4 h5 h6 h7 h8 h9 h10 h11 h12 h13 h14 h15 h16 h17 h18 h19)
                          · refine Ans.ite (fun h16 => ?_) (fun h16 => ?_)
                            · refine Ans.pre (fun h17 => ?_)
                              refine Ans.pre (fun h18 => ?_)
                              refine Ans.pre (fun h19 => ?_)
                              refine Ans.ite (fun h20 => ?_) (fun h20 => ?_)
                              · exact Ans.some (s_NodeOk_P8 x0 h0 h1 h2 h3 h4 h5 h6 h7 h8 h9 h10 h11 h12 h13 h14 h15 h16 h17 h18 h19 h20)
                              · refine Ans.pre (fun hl16 => ?_)
                                refine Ans.bind (fun y hy => ?_)
                                replace hy := s_NodeOk_L0 x0.f0 x0.f1 x0.f2 x0.f3 x0.f4 x0.f5 x0.f6.f0 x0.f6.f1 x0.f6.f2 x0.f7 x0.f8 x0.f9 x0.f10 x0.f11 ((logLast x0.f6).1) (othersL (confOf x0) x0.f0) (othersL (confOf x0) x0.f0) 0 rfl hl16 y hy
                                cases y with
                                | ret w0_2 =>
                                  have h21 := hy
                                  exact Ans.some (s_NodeOk_P9 x0 w0_2 h0 h1 h2 h3 h4 h5 h6 h7 h8 h9 h10 h11 h12 h13 h14 h15 h16 h17 h18 h19 h20 h21)
                                | x0 =>
                                  have h21 := hy
                                  exact Ans.some (s_NodeOk_P10 x0 h0 h1 h2 h3 h4 h5 h6 h7 h8 h9 h10 h11 h12 h13 h14 h15 h16 h17 h18 h19 h20 h21)
                            · refine Ans.ite (fun h17 => ?_) (fun h17 => ?_)
                              · exact Ans.some (s_NodeOk_P11 x0 h0 h1 h2 h3 h4 h5 h6 h7 h8 h9 h10 h11 h12 h13 h14 h15 h16 h17)
                              · refine Ans.pre (fun hl16 => ?_)
                                refine Ans.bind (fun y hy => ?_)
                                replace hy := s_NodeOk_L0 x0.f0 x0.f1 x0.f2 x0.f3 x0.f4 x0.f5 x0.f6.f0 x0.f6.f1 x0.f6.f2 x0.f7 x0.f8 x0.f9 x0.f10 x0.f11 ((logLast x0.f6).1) ([]) ([]) 0 rfl hl16 y hy
                                cases y with
                                | ret w0_2 =>
                                  have h18 := hy
                                  exact Ans.some (s_NodeOk_P12 x0 w0_2 h0 h1 h2 h3 h4 h5 h6 h7 h8 h9 h10 h11 h12 h13 h14 h15 h16 h17 h18)
                                | x0 =>
                                  have h18 := hy
                                  exact Ans.some (s_NodeOk_P13 x0 h0 h1 h2 h3 h4 h5 h6 h7 h8 h9 h10 h11 h12 h13 h14 h15 h16 h17 h18)
                        · exact Ans.some (s_NodeOk_P14 x0 h0 h1 h2 h3 h4 h5 h6 h7 h8 h9 h10 h11 h12 h13 h14)
                      · exact Ans.some (s_NodeOk_P15 x0 h0 h1 h2 h3 h4 h5 h6 h7 h8 h9 h10 h11 h12)
                    · exact Ans.some (s_NodeOk_P16 x0 h0 h1 h2 h3 h4 h5 h6 h7 h8 h9 h10 h11)
                  · exact Ans.some (s_NodeOk_P17 x0 h0 h1 h2 h3 h4 h5 h6 h7 h8 h9 h10)
              · exact Ans.some (s_NodeOk_P18 x0 h0 h1 h2 h3 h4 h5 h6 h7 h8)
            · exact Ans.some (s_NodeOk_P19 x0 h0 h1 h2 h3 h4 h5 h6 h7)
          · exact Ans.some (s_NodeOk_P20 x0 h0 h1 h2 h3 h4 h5 h6)
        · exact Ans.some (s_NodeOk_P21 x0 h0 h1 h2 h3 h4 h5)
      · exact Ans.some (s_NodeOk_P22 x0 h0 h1 h2 h3 h4)
    · exact Ans.some (s_NodeOk_P23 x0 h0 h1 h2)
  · exact Ans.some (s_NodeOk_P24 x0 h0)
noncomputable def nodeOk (n : GNode) : Bool := inRange n.f0 1 4 && confOk n.f5 && logOk n.f6 && inRange n.f1 0 100000 && !decide (n.f1 < (logLast n.f6).2) && inRange n.f2 0 4 && inRange n.f4 0 4 && inRange n.f3 0 2 && inRange n.f7 n.f6.f0 (logLast n.f6).1 && inRange n.f8 0 20 && inRange n.f9 1 20 && riseL n.f10 1 4 && ((n.f3 == 1) || ((n.f10.length : Int) == 0)) && peersOk n
theorem sn_l (last : Int) (ps : List GPeer) : ∀ (rest : List Int) (i : Nat), (ps.drop i).length = rest.length → s_NodeOk_l0 ps last rest i = some (if ((ps.drop i).all (peerOk last) && decide ((ps.drop i).map GPeer.f0 = rest)) = true then .x0 else .ret false)
  | [], i, h => by
    have : ps.drop i = [] := List.length_eq_zero_iff.1 h
    rw [this]; unfold s_NodeOk_l0; simp
  | x :: rest, i, h => by
    cases g : ps.drop i with
    | nil => rw [g] at h; simp at h
    | cons p q =>
      unfold s_NodeOk_l0
      rw [foldGet g, Option.bind_some]
      have hq := foldRest g
      have ih := sn_l last ps rest (i + 1) (by rw [hq]; rw [g] at h; simpa using h)
      rw [ih, hq, List.all_cons, List.map_cons]
      have e : decide (p.f0 :: q.map GPeer.f0 = x :: rest) = ((p.f0 == x) && decide (q.map GPeer.f0 = rest)) := by
        by_cases a : p.f0 = x <;> by_cases b : q.map GPeer.f0 = rest <;> simp [a, b]
      rw [e]
      unfold peerOk
      have e2 : (p.f0 != x) = !(p.f0 == x) := rfl
      rw [e2]
      cases p.f0 == x <;> cases inRange p.f1 1 (inc last) <;> cases inRange p.f2 0 (IntKind.wrap .i64 (p.f1 - 1)) <;> cases inRange p.f3 0 20000 <;> cases q.all (fun p => inRange p.f1 1 (inc last) && inRange p.f2 0 (IntKind.wrap .i64 (p.f1 - 1)) && inRange p.f3 0 20000) <;> simp
theorem sn_tail (n : GNode) (h : Small.sm n) (h1 : logOk n.f6 = true) : (cond (n.f3 == 2) (cond ((n.f11.length : Int) != ((othersL (confOf n) n.f0).length : Int)) (some false) ((s_NodeOk_l0 n.f11 (logLast n.f6).1 (othersL (confOf n) n.f0) 0).bind fun y => match y with | .ret w => some w | .x0 => some true))
    (cond ((n.f11.length : Int) != (([] : List Int).length : Int)) (some false) ((s_NodeOk_l0 n.f11 (logLast n.f6).1 [] 0).bind fun y => match y with | .ret w => some w | .x0 => some true))) = some (peersOk n) := by
  obtain ⟨_, _, _, e3⟩ := logOk_in h1
  unfold peersOk
  have e2 : (n.f3 != 2) = !(n.f3 == 2) := rfl
  rw [e2, e3]
  cases n.f3 == 2 with
  | false =>
    rw [Bool.not_false, cond_true, cond_false]
    by_cases q : (n.f11.length : Int) = 0
    · have e : n.f11 = [] := List.length_eq_zero_iff.1 (by omega)
      rw [e]; rfl
    · rw [show ((n.f11.length : Int) != (([] : List Int).length : Int)) = true by simpa using q, show ((n.f11.length : Int) == 0) = false by simpa using q]; rfl
  | true =>
    rw [Bool.not_true, cond_false, cond_true]
    unfold eqL others
    by_cases q : (n.f11.length : Int) = ((othersL (confOf n) n.f0).length : Int)
    · rw [show ((n.f11.length : Int) != ((othersL (confOf n) n.f0).length : Int)) = false by simp; omega, cond_false, sn_l _ n.f11 _ 0 (by simp; omega), List.drop_zero]
      cases (n.f11.all (peerOk (logEnd n.f6)) && decide (n.f11.map GPeer.f0 = othersL (confOf n) n.f0)) <;> rfl
    · rw [show ((n.f11.length : Int) != ((othersL (confOf n) n.f0).length : Int)) = true by simp; omega, decide_eq_false (fun e => q (by rw [← e]; simp)), Bool.and_false]; rfl
theorem s_NodeOk_all (n : GNode) (h : Small.sm n) : s_NodeOk_F n = some (nodeOk n) := by
  have h5 : n.f5.length ≤ 1050000 := h.1.1
  have h6 : Small.sm n.f6 := h.2.1
  have h10 : n.f10.length ≤ 1050000 := h.2.2.1.1
  unfold s_NodeOk_F nodeOk
  try simp only [isNode, isTerm, areNodes]
  simp only [h, h5, h6, h10, if_true, true_and]
  cases inRange n.f0 1 4 with
  | false => rfl
  | true =>
    cases hc : confOk n.f5 with
    | false => rfl
    | true =>
      cases hl : logOk n.f6 with
      | false => rfl
      | true =>
        have ht := sn_tail n h hl
        have ho : (confOf n).length ≤ 1050000 := (confOf_sm n h).1
        have ho2 : (othersL (confOf n) n.f0).length ≤ 9223372036854775807 := Nat.le_trans (List.length_filter_le _ _) (by omega)
        have ho3 : ([] : List Int).length ≤ 9223372036854775807 := by decide
        simp only [cond_true, ho, ho2, ho3, if_true, ht, Bool.true_and]
        have e0 : decide ((n.f10.length : Int) > 0) = !((n.f10.length : Int) == 0) := by
          by_cases q : (n.f10.length : Int) = 0
          · simp [q]
          · rw [decide_eq_true (by omega), show ((n.f10.length : Int) == 0) = false by simpa using q]; rfl
        have e1 : (n.f3 != 1) = !(n.f3 == 1) := rfl
        rw [e0, e1]
        cases inRange n.f1 0 100000 <;> cases inRange n.f2 0 4 <;> cases inRange n.f4 0 4 <;> cases inRange n.f3 0 2 <;> cases decide (n.f1 < (logLast n.f6).2) <;> try rfl
        cases inRange n.f7 n.f6.f0 (logLast n.f6).1 <;> cases inRange n.f8 0 20 <;> cases inRange n.f9 1 20 <;> cases riseL n.f10 1 4 <;> cases (n.f10.length : Int) == 0 <;> cases n.f3 == 1 <;> rfl
theorem T_s_NodeOk (x0 : GNode) (h : Small.sm x0) : Does E 22 [.agg (GNode.t .far x0)] [(false, [tB (nodeOk x0)])] := by
  exact s_NodeOk_D x0 _ (s_NodeOk_all x0 h)
theorem i_NodeOk_P0 (x0 : GNode) (h0 : (isNode x0.f0) = true) (h1 : x0.f5.length ≤ 1050000) (h2 : (confOk x0.f5) = true) (h3 : Small.sm x0.f6) (h4 : (logOk x0.f6) = true) (h5 : (isTerm x0.f1) = true) (h6 : (decide (x0.f1 < ((logLast x0.f6).2))) = true) : Does E 23 [.agg (GNode.t .far x0)] [(false, [tB false])] :=
  Does.path (fn := Try.f23) [rT, rT, rT, rT, .ret [(false, [tI ((logLast x0.f6).1)]), (false, [tI ((logLast x0.f6).2)])], .b true] _ rfl (fun _ => rfl) (fun k => by kernel_rfl) (AD (Does.tB (T_i_isNode x0.f0) h0) <| AD (Does.tB (T_i_ConfOk x0.f5 h1) h2) <| AD (Does.tB (T_i_LogOk x0.f6 h3) h4) <| AD (Does.tB (T_i_isTerm x0.f1) h5) <| AD (T_i_LogLast x0.f6 h3) <| AC h6 <| AN)
theorem i_NodeOk_P1 (x0 : GNode) (h0 : (isNode x0.f0) = true) (h1 : x0.f5.length ≤ 1050000) (h2 : (confOk x0.f5) = true) (h3 : Small.sm x0.f6) (h4 : (logOk x0.f6) = true) (h5 : (isTerm x0.f1) = true) (h6 : (decide (x0.f1 < ((logLast x0.f6).2))) = false) (h7 : (inRange x0.f2 (0 : Int) (4 : Int)) = true) (h8 : (inRange x0.f4 (0 : Int) (4 : Int)) = true) (h9 : (inRange x0.f3 (0 : Int) (2 : Int)) = true) (h10 : (inRange x0.f7 x0.f6.f0 ((logLast x0.f6).1)) = true) (h11 : (inRange x0.f8 (0 : Int) (20 : Int)) = true) (h12 : (inRange x0.f9 (1 : Int) (20 : Int)) = true) (h13 : x0.f10.length ≤ 1050000) (h14 : (areNodes x0.f10) = true) (h15 : (x0.f3 == (1 : Int)) = true) (h16 : Small.sm x0) (h17 : logOk x0.f6 = true) (h18 : confOk x0.f5 = true) : Does E 23 [.agg (GNode.t .far x0)] [(false, [tB (peersOk x0)])] :=
  Does.path (fn := Try.f23) [rT, rT, rT, rT, .ret [(false, [tI ((logLast x0.f6).1)]), (false, [tI ((logLast x0.f6).2)])], .b false, rT, rT, rT, rT, rT, rT, rT, .b true, .ret [(false, [tB (peersOk x0)])]] _ rfl (fun _ => rfl) (fun k => by kernel_rfl) (AD (Does.tB (T_i_isNode x0.f0) h0) <| AD (Does.tB (T_i_ConfOk x0.f5 h1) h2) <| AD (Does.tB (T_i_LogOk x0.f6 h3) h4) <| AD (Does.tB (T_i_isTerm x0.f1) h5) <| AD (T_i_LogLast x0.f6 h3) <| AC h6 <| AD (Does.tB (T_i_inRange x0.f2 (0 : Int) (4 : Int)) h7) <| AD (Does.tB (T_i_inRange x0.f4 (0 : Int) (4 : Int)) h8) <| AD (Does.tB (T_i_inRange x0.f3 (0 : Int) (2 : Int)) h9) <| AD (Does.tB (T_i_inRange x0.f7 x0.f6.f0 ((logLast x0.f6).1)) h10) <| AD (Does.tB (T_i_inRange x0.f8 (0 : Int) (20 : Int)) h11) <| AD (Does.tB (T_i_inRange x0.f9 (1 : Int) (20 : Int)) h12) <| AD (Does.tB (T_i_areNodes x0.f10 h13) h14) <| AC h15 <| AD (T_i_peersOk x0 h16 h17 h18) <| AN)
theorem i_NodeOk_P2 (x0 : GNode) (h0 : (isNode x0.f0) = true) (h1 : x0.f5.length ≤ 1050000) (h2 : (confOk x0.f5) = true) (h3 : Small.sm x0.f6) (h4 : (logOk x0.f6) = true) (h5 : (isTerm x0.f1) = true) (h6 : (decide (x0.f1 < ((logLast x0.f6).2))) = false) (h7 : (inRange x0.f2 (0 : Int) (4 : Int)) = true) (h8 : (inRange x0.f4 (0 : Int) (4 : Int)) = true) (h9 : (inRange x0.f3 (0 : Int) (2 : Int)) = true) (h10 : (inRange x0.f7 x0.f6.f0 ((logLast x0.f6).1)) = true) (h11 : (inRange x0.f8 (0 : Int) (20 : Int)) = true) (h12 : (inRange x0.f9 (1 : Int) (20 : Int)) = true) (h13 : x0.f10.length ≤ 1050000) (h14 : (areNodes x0.f10) = true) (h15 : (x0.f3 == (1 : Int)) = false) (h16 : ((x0.f10.length : Int) == (0 : Int)) = true) (h17 : Small.sm x0) (h18 : logOk x0.f6 = true) (h19 : confOk x0.f5 = true) : Does E 23 [.agg (GNode.t .far x0)] [(false, [tB (peersOk x0)])] :=
  Does.path (fn := Try.f23) [rT, rT, rT, rT, .ret [(false, [tI ((logLast x0.f6).1)]), (false, [tI ((logLast x0.f6).2)])], .b false, rT, rT, rT, rT, rT, rT, rT, .b false, .val (.int .i64 (x0.f10.length : Int)), .b true, .ret [(false, [tB (peersOk x0)])]] _ rfl (fun _ => rfl) (fun k => by kernel_rfl) (AD (Does.tB (T_i_isNode x0.f0) h0) <| AD (Does.tB (T_i_ConfOk x0.f5 h1) h2) <| AD (Does.tB (T_i_LogOk x0.f6 h3) h4) <| AD (Does.tB (T_i_isTerm x0.f1) h5) <| AD (T_i_LogLast x0.f6 h3) <| AC h6 <| AD (Does.tB (T_i_inRange x0.f2 (0 : Int) (4 : Int)) h7) <| AD (Does.tB (T_i_inRange x0.f4 (0 : Int) (4 : Int)) h8) <| AD (Does.tB (T_i_inRange x0.f3 (0 : Int) (2 : Int)) h9) <| AD (Does.tB (T_i_inRange x0.f7 x0.f6.f0 ((logLast x0.f6).1)) h10) <| AD (Does.tB (T_i_inRange x0.f8 (0 : Int) (20 : Int)) h11) <| AD (Does.tB (T_i_inRange x0.f9 (1 : Int) (20 : Int)) h12) <| AD (Does.tB (T_i_areNodes x0.f10 h13) h14) <| AC h15 <| AV (ψ := fun _ => ((x0.f10.map etI).length : Int) = (x0.f10.length : Int)) (Ev.c lenMap) <| AC h16 <| AD (T_i_peersOk x0 h17 h18 h19) <| AN)
theorem i_NodeOk_P3 (x0 : GNode) (h0 : (isNode x0.f0) = true) (h1 : x0.f5.length ≤ 1050000) (h2 : (confOk x0.f5) = true) (h3 : Small.sm x0.f6) (h4 : (logOk x0.f6) = true) (h5 : (isTerm x0.f1) = true) (h6 : (decide (x0.f1 < ((logLast x0.f6).2))) = false) (h7 : (inRange x0.f2 (0 : Int) (4 : Int)) = true) (h8 : (inRange x0.f4 (0 : Int) (4 : Int)) = true) (h9 : (inRange x0.f3 (0 : Int) (2 : Int)) = true) (h10 : (inRange x0.f7 x0.f6.f0 ((logLast x0.f6).1)) = true) (h11 : (inRange x0.f8 (0 : Int) (20 : Int)) = true) (h12 : (inRange x0.f9 (1 : Int) (20 : Int)) = true) (h13 : x0.f10.length ≤ 1050000) (h14 : (areNodes x0.f10) = true) (h15 : (x0.f3 == (1 : Int)) = false) (h16 : ((x0.f10.length : Int) == (0 : Int)) = false) : Does E 23 [.agg (GNode.t .far x0)] [(false, [tB false])] :=
  Does.path (fn := Try.f23) [rT, rT, rT, rT, .ret [(false, [tI ((logLast x0.f6).1)]), (false, [tI ((logLast x0.f6).2)])], .b false, rT, rT, rT, rT, rT, rT, rT, .b false, .val (.int .i64 (x0.f10.length : Int)), .b false] _ rfl (fun _ => rfl) (fun k => by kernel_rfl) (AD (Does.tB (T_i_isNode x0.f0) h0) <| AD (Does.tB (T_i_ConfOk x0.f5 h1) h2) <| AD (Does.tB (T_i_LogOk x0.f6 h3) h4) <| AD (Does.tB (T_i_isTerm x0.f1) h5) <| AD (T_i_LogLast x0.f6 h3) <| AC h6 <| AD (Does.tB (T_i_inRange x0.f2 (0 : Int) (4 : Int)) h7) <| AD (Does.tB (T_i_inRange x0.f4 (0 : Int) (4 : Int)) h8) <| AD (Does.tB (T_i_inRange x0.f3 (0 : Int) (2 : Int)) h9) <| AD (Does.tB (T_i_inRange x0.f7 x0.f6.f0 ((logLast x0.f6).1)) h10) <| AD (Does.tB (T_i_inRange x0.f8 (0 : Int) (20 : Int)) h11) <| AD (Does.tB (T_i_inRange x0.f9 (1 : Int) (20 : Int)) h12) <| AD (Does.tB (T_i_areNodes x0.f10 h13) h14) <| AC h15 <| AV (ψ := fun _ => ((x0.f10.map etI).length : Int) = (x0.f10.length : Int)) (Ev.c lenMap) <| AC h16 <| AN)
theorem i_NodeOk_P4 (x0 : GNode) (h0 : (isNode x0.f0) = true) (h1 : x0.f5.length ≤ 1050000) (h2 : (confOk x0.f5) = true) (h3 : Small.sm x0.f6) (h4 : (logOk x0.f6) = true) (h5 : (isTerm x0.f1) = true) (h6 : (decide (x0.f1 < ((logLast x0.f6).2))) = false) (h7 : (inRange x0.f2 (0 : Int) (4 : Int)) = true) (h8 : (inRange x0.f4 (0 : Int) (4 : Int)) = true) (h9 : (inRange x0.f3 (0 : Int) (2 : Int)) = true) (h10 : (inRange x0.f7 x0.f6.f0 ((logLast x0.f6).1)) = true) (h11 : (inRange x0.f8 (0 : Int) (20 : Int)) = true) (h12 : (inRange x0.f9 (1 : Int) (20 : Int)) = true) (h13 : x0.f10.length ≤ 1050000) (h14 : (areNodes x0.f10) = false) : Does E 23 [.agg (GNode.t .far x0)] [(false, [tB false])] :=
  Does.path (fn := Try.f23) [rT, rT, rT, rT, .ret [(false, [tI ((logLast x0.f6).1)]), (false, [tI ((logLast x0.f6).2)])], .b false, rT, rT, rT, rT, rT, rT, rF] _ rfl (fun _ => rfl) (fun k => by kernel_rfl) (AD (Does.tB (T_i_isNode x0.f0) h0) <| AD (Does.tB (T_i_ConfOk x0.f5 h1) h2) <| AD (Does.tB (T_i_LogOk x0.f6 h3) h4) <| AD (Does.tB (T_i_isTerm x0.f1) h5) <| AD (T_i_LogLast x0.f6 h3) <| AC h6 <| AD (Does.tB (T_i_inRange x0.f2 (0 : Int) (4 : Int)) h7) <| AD (Does.tB (T_i_inRange x0.f4 (0 : Int) (4 : Int)) h8) <| AD (Does.tB (T_i_inRange x0.f3 (0 : Int) (2 : Int)) h9) <| AD (Does.tB (T_i_inRange x0.f7 x0.f6.f0 ((logLast x0.f6).1)) h10) <| AD (Does.tB (T_i_inRange x0.f8 (0 : Int) (20 : Int)) h11) <| AD (Does.tB (T_i_inRange x0.f9 (1 : Int) (20 : Int)) h12) <| AD (Does.tB (T_i_areNodes x0.f10 h13) h14) <| AN)
theorem i_NodeOk_P5 (x0 : GNode) (h0 : (isNode x0.f0) = true) (h1 : x0.f5.length ≤ 1050000) (h2 : (confOk x0.f5) = true) (h3 : Small.sm x0.f6) (h4 : (logOk x0.f6) = true) (h5 : (isTerm x0.f1) = true) (h6 : (decide (x0.f1 < ((logLast x0.f6).2))) = false) (h7 : (inRange x0.f2 (0 : Int) (4 : Int)) = true) (h8 : (inRange x0.f4 (0 : Int) (4 : Int)) = true) (h9 : (inRange x0.f3 (0 : Int) (2 : Int)) = true) (h10 : (inRange x0.f7 x0.f6.f0 ((logLast x0.f6).1)) = true) (h11 : (inRange x0.f8 (0 : Int) (20 : Int)) = true) (h12 : (inRange x0.f9 (1 : Int) (20 : Int)) = false) : Does E 23 [.agg (GNode.t .far x0)] [(false, [tB false])] :=
  Does.path (fn := Try.f23) [rT, rT, rT, rT, .ret [(false, [tI ((logLast x0.f6).1)]), (false, [tI ((logLast x0.f6).2)])], .b false, rT, rT, rT, rT, rT, rF] _ rfl (fun _ => rfl) (fun k => by kernel_rfl) (AD (Does.tB (T_i_isNode x0.f0) h0) <| AD (Does.tB (T_i_ConfOk x0.f5 h1) h2) <| AD (Does.tB (T_i_LogOk x0.f6 h3) h4) <| AD (Does.tB (T_i_isTerm x0.f1) h5) <| AD (T_i_LogLast x0.f6 h3) <| AC h6 <| AD (Does.tB (T_i_inRange x0.f2 (0 : Int) (4 : Int)) h7) <| AD (Does.tB (T_i_inRange x0.f4 (0 : Int) (4 : Int)) h8) <| AD (Does.tB (T_i_inRange x0.f3 (0 : Int) (2 : Int)) h9) <| AD (Does.tB (T_i_inRange x0.f7 x0.f6.f0 ((logLast x0.f6).1)) h10) <| AD (Does.tB (T_i_inRange x0.f8 (0 : Int) (20 : Int)) h11) <| AD (Does.tB (T_i_inRange x0.f9 (1 : Int) (20 : Int)) h12) <| AN)
theorem i_NodeOk_P6 (x0 : GNode) (h0 : (isNode x0.f0) = true) (h1 : x0.f5.length ≤ 1050000) (h2 : (confOk x0.f5) = true) (h3 : Small.sm x0.f6) (h4 : (logOk x0.f6) = true) (h5 : (isTerm x0.f1) = true) (h6 : (decide (x0.f1 < ((logLast x0.f6).2))) = false) (h7 : (inRange x0.f2 (0 : Int) (4 : Int)) = true) (h8 : (inRange x0.f4 (0 : Int) (4 : Int)) = true) (h9 : (inRange x0.f3 (0 : Int) (2 : Int)) = true) (h10 : (inRange x0.f7 x0.f6.f0 ((logLast x0.f6).1)) = true) (h11 : (inRange x0.f8 (0 : Int) (20 : Int)) = false) : Does E 23 [.agg (GNode.t .far x0)] [(false, [tB false])] :=
  Does.path (fn := Try.f23) [rT, rT, rT, rT, .ret [(false, [tI ((logLast x0.f6).1)]), (false, [tI ((logLast x0.f6).2)])], .b false, rT, rT, rT, rT, rF] _ rfl (fun _ => rfl) (fun k => by kernel_rfl) (AD (Does.tB (T_i_isNode x0.f0) h0) <| AD (Does.tB (T_i_ConfOk x0.f5 h1) h2) <| AD (Does.tB (T_i_LogOk x0.f6 h3) h4) <| AD (Does.tB (T_i_isTerm x0.f1) h5) <| AD (T_i_LogLast x0.f6 h3) <| AC h6 <| AD (Does.tB (T_i_inRange x0.f2 (0 : Int) (4 : Int)) h7) <| AD (Does.tB (T_i_inRange x0.f4 (0 : Int) (4 : Int)) h8) <| AD (Does.tB (T_i_inRange x0.f3 (0 : Int) (2 : Int)) h9) <| AD (Does.tB (T_i_inRange x0.f7 x0.f6.f0 ((logLast x0.f6).1)) h10) <| AD (Does.tB (T_i_inRange x0.f8 (0 : Int) (20 : Int)) h11) <| AN)
theorem i_NodeOk_P7 (x0 : GNode) (h0 : (isNode x0.f0) = true) (h1 : x0.f5.length ≤ 1050000) (h2 : (confOk x0.f5) = true) (h3 : Small.sm x0.f6) (h4 : (logOk x0.f6) = true) (h5 : (isTerm x0.f1) = true) (h6 : (decide (x0.f1 < ((logLast x0.f6).2))) = false) (h7 : (inRange x0.f2 (0 : Int) (4 : Int)) = true) (h8 : (inRange x0.f4 (0 : Int) (4 : Int)) = true) (h9 : (inRange x0.f3 (0 : Int) (2 : Int)) = true) (h10 : (inRange x0.f7 x0.f6.f0 ((logLast x0.f6).1)) = false) : Does E 23 [.agg (GNode.t .far x0)] [(false, [tB false])] :=
  Does.path (fn := Try.f23) [rT, rT, rT, rT, .ret [(false, [tI ((logLast x0.f6).1)]), (false, [tI ((logLast x0.f6).2)])], .b false, rT, rT, rT, rF] _ rfl (fun _ => rfl) (fun k => by kernel_rfl) (AD (Does.tB (T_i_isNode x0.f0) h0) <| AD (Does.tB (T_i_ConfOk x0.f5 h1) h2) <| AD (Does.tB (T_i_LogOk x0.f6 h3) h4) <| AD (Does.tB (T_i_isTerm x0.f1) h5) <| AD (T_i_LogLast x0.f6 h3) <| AC h6 <| AD (Does.tB (T_i_inRange x0.f2 (0 : Int) (4 : Int)) h7) <| AD (Does.tB (T_i_inRange x0.f4 (0 : Int) (4 : Int)) h8) <| AD (Does.tB (T_i_inRange x0.f3 (0 : Int) (2 : Int)) h9) <| AD (Does.tB (T_i_inRange x0.f7 x0.f6.f0 ((logLast x0.f6).1)) h10) <| AN)
theorem i_NodeOk_P8 (x0 : GNode) (h0 : (isNode x0.f0) = true) (h1 : x0.f5.length ≤ 1050000) (h2 : (confOk x0.f5) = true) (h3 : Small.sm x0.f6) (h4 : (logOk x0.f6) = true) (h5 : (isTerm x0.f1) = true) (h6 : (decide (x0.f1 < ((logLast x0.f6).2))) = false) (h7 : (inRange x0.f2 (0 : Int) (4 : Int)) = true) (h8 : (inRange x0.f4 (0 : Int) (4 : Int)) = true) (h9 : (inRange x0.f3 (0 : Int) (2 : Int)) = false) : Does E 23 [.agg (GNode.t .far x0)] [(false, [tB false])] :=
  Does.path (fn := Try.f23) [rT, rT, rT, rT, .ret [(false, [tI ((logLast x0.f6).1)]), (false, [tI ((logLast x0.f6).2)])], .b false, rT, rT, rF] _ rfl (fun _ => rfl) (fun k => by kernel_rfl) (AD (Does.tB (T_i_isNode x0.f0) h0) <| AD (Does.tB (T_i_ConfOk x0.f5 h1) h2) <| AD (Does.tB (T_i_LogOk x0.f6 h3) h4) <| AD (Does.tB (T_i_isTerm x0.f1) h5) <| AD (T_i_LogLast x0.f6 h3) <| AC h6 <| AD (Does.tB (T_i_inRange x0.f2 (0 : Int) (4 : Int)) h7) <| AD (Does.tB (T_i_inRange x0.f4 (0 : Int) (4 : Int)) h8) <| AD (Does.tB (T_i_inRange x0.f3 (0 : Int) (2 : Int)) h9) <| AN)
theorem i_NodeOk_P9 (x0 : GNode) (h0 : (isNode x0.f0) = true) (h1 : x0.f5.length ≤ 1050000) (h2 : (confOk x0.f5) = true) (h3 : Small.sm x0.f6) (h4 : (logOk x0.f6) = true) (h5 : (isTerm x0.f1) = true) (h6 : (decide (x0.f1 < ((logLast x0.f6).2))) = false) (h7 : (inRange x0.f2 (0 : Int) (4 : Int)) = true) (h8 : (inRange x0.f4 (0 : Int) (4 : Int)) = false) : Does E 23 [.agg (GNode.t .far x0)] [(false, [tB false])] :=
  Does.path (fn := Try.f23) [rT, rT, rT, rT, .ret [(false, [tI ((logLast x0.f6).1)]), (false, [tI ((logLast x0.f6).2)])], .b false, rT, rF] _ rfl (fun _ => rfl) (fun k => by kernel_rfl) (AD (Does.tB (T_i_isNode x0.f0) h0) <| AD (Does.tB (T_i_ConfOk x0.f5 h1) h2) <| AD (Does.tB (T_i_LogOk x0.f6 h3) h4) <| AD (Does.tB (T_i_isTerm x0.f1) h5) <| AD (T_i_LogLast x0.f6 h3) <| AC h6 <| AD (Does.tB (T_i_inRange x0.f2 (0 : Int) (4 : Int)) h7) <| AD (Does.tB (T_i_inRange x0.f4 (0 : Int) (4 : Int)) h8) <| AN)
theorem i_NodeOk_P10 (x0 : GNode) (h0 : (isNode x0.f0) = true) (h1 : x0.f5.length ≤ 1050000) (h2 : (confOk x0.f5) = true) (h3 : Small.sm x0.f6) (h4 : (logOk x0.f6) = true) (h5 : (isTerm x0.f1) = true) (h6 : (decide (x0.f1 < ((logLast x0.f6).2))) = false) (h7 : (inRange x0.f2 (0 : Int) (4 : Int)) = false) : Does E 23 [.agg (GNode.t .far x0)] [(false, [tB false])] :=
  Does.path (fn := Try.f23) [rT, rT, rT, rT, .ret [(false, [tI ((logLast x0.f6).1)]), (false, [tI ((logLast x0.f6).2)])], .b false, rF] _ rfl (fun _ => rfl) (fun k => by kernel_rfl) (AD (Does.tB (T_i_isNode x0.f0) h0) <| AD (Does.tB (T_i_ConfOk x0.f5 h1) h2) <| AD (Does.tB (T_i_LogOk x0.f6 h3) h4) <| AD (Does.tB (T_i_isTerm x0.f1) h5) <| AD (T_i_LogLast x0.f6 h3) <| AC h6 <| AD (Does.tB (T_i_inRange x0.f2 (0 : Int) (4 : Int)) h7) <| AN)
theorem i_NodeOk_P11 (x0 : GNode) (h0 : (isNode x0.f0) = true) (h1 : x0.f5.length ≤ 1050000) (h2 : (confOk x0.f5) = true) (h3 : Small.sm x0.f6) (h4 : (logOk x0.f6) = true) (h5 : (isTerm x0.f1) = false) : Does E 23 [.agg (GNode.t .far x0)] [(false, [tB false])] :=
  Does.path (fn := Try.f23) [rT, rT, rT, rF] _ rfl (fun _ => rfl) (fun k => by kernel_rfl) (AD (Does.tB (T_i_isNode x0.f0) h0) <| AD (Does.tB (T_i_ConfOk x0.f5 h1) h2) <| AD (Does.tB (T_i_LogOk x0.f6 h3) h4) <| AD (Does.tB (T_i_isTerm x0.f1) h5) <| AN)
theorem i_NodeOk_P12 (x0 : GNode) (h0 : (isNode x0.f0) = true) (h1 : x0.f5.length ≤ 1050000) (h2 : (confOk x0.f5) = true) (h3 : Small.sm x0.f6) (h4 : (logOk x0.f6) = false) : Does E 23 [.agg (GNode.t .far x0)] [(false, [tB false])] :=
  Does.path (fn := Try.f23) [rT, rT, rF] _ rfl (fun _ => rfl) (fun k => by kernel_rfl) (AD (Does.tB (T_i_isNode x0.f0) h0) <| AD (Does.tB (T_i_ConfOk x0.f5 h1) h2) <| AD (Does.tB (T_i_LogOk x0.f6 h3) h4) <| AN)
theorem i_NodeOk_P13 (x0 : GNode) (h0 : (isNode x0.f0) = true) (h1 : x0.f5.length ≤ 1050000) (h2 : (confOk x0.f5) = false) : Does E 23 [.agg (GNode.t .far x0)] [(false, [tB false])] :=
  Does.path (fn := Try.f23) [rT, rF] _ rfl (fun _ => rfl) (fun k => by kernel_rfl) (AD (Does.tB (T_i_isNode x0.f0) h0) <| AD (Does.tB (T_i_ConfOk x0.f5 h1) h2) <| AN)
theorem i_NodeOk_P14 (x0 : GNode) (h0 : (isNode x0.f0) = false) : Does E 23 [.agg (GNode.t .far x0)] [(false, [tB false])] :=
  Does.path (fn := Try.f23) [rF] _ rfl (fun _ => rfl) (fun k => by kernel_rfl) (AD (Does.tB (T_i_isNode x0.f0) h0) <| AN)
noncomputable def i_NodeOk_F (x0 : GNode) : Option (Bool) :=
    cond (isNode x0.f0)
      (if x0.f5.length ≤ 1050000 then cond (confOk x0.f5)
        (if Small.sm x0.f6 then cond (logOk x0.f6)
          (cond (isTerm x0.f1)
            (cond (decide (x0.f1 < ((logLast x0.f6).2)))
              (some (false))
              (cond (inRange x0.f2 (0 : Int) (4 : Int))
                (cond (inRange x0.f4 (0 : Int) (4 : Int))
                  (cond (inRange x0.f3 (0 : Int) (2 : Int))
                    (cond (inRange x0.f7 x0.f6.f0 ((logLast x0.f6).1))
                      (cond (inRange x0.f8 (0 : Int) (20 : Int))
                        (cond (inRange x0.f9 (1 : Int) (20 : Int))
                          (if x0.f10.length ≤ 1050000 then cond (areNodes x0.f10)
                            (cond (x0.f3 == (1 : Int))
                              (if Small.sm x0 then if logOk x0.f6 = true then if confOk x0.f5 = true then some (peersOk x0) else none else none else none)
                              (cond ((x0.f10.length : Int) == (0 : Int))
                                (if Small.sm x0 then if logOk x0.f6 = true then if confOk x0.f5 = true then some (peersOk x0) else none else none else none)
                                (some (false))))
                            (some (false)) else none)
                          (some (false)))
                        (some (false)))
                      (some (false)))
                    (some (false)))
                  (some (false)))
                (some (false))))
            (some (false)))
          (some (false)) else none)
        (some (false)) else none)
      (some (false))
theorem i_NodeOk_D (x0 : GNode) : Ans (i_NodeOk_F x0) (fun r => Does E 23 [.agg (GNode.t .far x0)] [(false, [tB r])]) := by
  unfold i_NodeOk_F
  refine Ans.ite (fun h0 => ?_) (fun h0 => ?_)
  · refine Ans.pre (fun h1 => ?_)
    refine Ans.ite (fun h2 => ?_) (fun h2 => ?_)
    · refine Ans.pre (fun h3 => ?_)
      refine Ans.ite (fun h4 => ?_) (fun h4 => ?_)
      · refine Ans.ite (fun h5 => ?_) (fun h5 => ?_)
        · refine Ans.ite (fun h6 => ?_) (fun h6 => ?_)
          · exact Ans.some (i_NodeOk_P0 x0 h0 h1 h2 h3 h4 h5 h6)
          · refine Ans.ite (fun h7 => ?_) (fun h7 => ?_)
            · refine Ans.ite (fun h8 => ?_) (fun h8 => ?_)
              · refine Ans.ite (fun h9 => ?_) (fun h9 => ?_)
                · refine Ans.ite (fun h10 => ?_) (fun h10 => ?_)
                  · refine Ans.ite (fun h11 => ?_) (fun h11 => ?_)
                    · refine Ans.ite (fun h12 => ?_) (fun h12 => ?_)
                      · refine Ans.pre (fun h13 => ?_)
                        refine Ans.ite (fun h14 => ?_) (fun h14 => ?_)
                        · refine Ans.ite (fun h15 => ?_) (fun h15 => ?_)
                          · refine Ans.pre (fun h16 => ?_)
                            refine Ans.pre (fun h17 => ?_)
                            refine Ans.pre (fun h18 => ?_)
                            exact Ans.some (i_NodeOk_P1 x0 h0 h1 h2 h3 h4 h5 h6 h7 h8 h9 h10 h11 h12 h13 h14 h15 h16 h17 h18)
                          · refine Ans.ite (fun h16 => ?_) (fun h16 => ?_)
                            · refine Ans.pre (fun h17 => ?_)
                              refine Ans.pre (fun h18 => ?_)
                              refine Ans.pre (fun h19 => ?_)
                              exact Ans.some (i_NodeOk_P2 x0 h0 h1 h2 h3 h4 h5 h6 h7 h8 h9 h10 h11 h12 h13 h14 h15 h16 h17 h18 h19)
                            · exact Ans.some (i_NodeOk_P3 x0 h0 h1 h2 h3 h4 h5 h6 h7 h8 h9 h10 h11 h12 h13 h14 h15 h16)
                        · exact Ans.some (i_NodeOk_P4 x0 h0 h1 h2 h3 h4 h5 h6 h7 h8 h9 h10 h11 h12 h13 h14)
                      · exact Ans.some (i_NodeOk_P5 x0 h0 h1 h2 h3 h4 h5 h6 h7 h8 h9 h10 h11 h12)
                    · exact Ans.some (i_NodeOk_P6 x0 h0 h1 h2 h3 h4 h5 h6 h7 h8 h9 h10 h11)
                  · exact Ans.some (i_NodeOk_P7 x0 h0 h1 h2 h3 h4 h5 h6 h7 h8 h9 h10)
                · exact Ans.some (i_NodeOk_P8 x0 h0 h1 h2 h3 h4 h5 h6 h7 h8 h9)
              · exact Ans.some (i_NodeOk_P9 x0 h0 h1 h2 h3 h4 h5 h6 h7 h8)
            · exact Ans.some (i_NodeOk_P10 x0 h0 h1 h2 h3 h4 h5 h6 h7)
        · exact Ans.some (i_NodeOk_P11 x0 h0 h1 h2 h3 h4 h5)
      · exact Ans.some (i_NodeOk_P12 x0 h0 h1 h2 h3 h4)
    · exact Ans.some (i_NodeOk_P13 x0 h0 h1 h2)
  · exact Ans.some (i_NodeOk_P14 x0 h0)
theorem i_NodeOk_all (n : GNode) (h : Small.sm n) : i_NodeOk_F n = some (nodeOk n) := by
  have h5 : n.f5.length ≤ 1050000 := h.1.1
  have h6 : Small.sm n.f6 := h.2.1
  have h10 : n.f10.length ≤ 1050000 := h.2.2.1.1
  unfold i_NodeOk_F nodeOk
  try simp only [isNode, isTerm, areNodes]
  simp only [h, h5, h6, h10, if_true, true_and]
  cases inRange n.f0 1 4 with
  | false => rfl
  | true =>
    cases hc : confOk n.f5 with
    | false => rfl
    | true =>
      cases hl : logOk n.f6 with
      | false => rfl
      | true =>
        simp only [cond_true, hc, if_true, Bool.true_and]
        cases inRange n.f1 0 100000 <;> cases decide (n.f1 < (logLast n.f6).2) <;> cases inRange n.f2 0 4 <;> cases inRange n.f4 0 4 <;> cases inRange n.f3 0 2 <;> try rfl
        cases inRange n.f7 n.f6.f0 (logLast n.f6).1 <;> cases inRange n.f8 0 20 <;> cases inRange n.f9 1 20 <;> cases riseL n.f10 1 4 <;> cases n.f3 == 1 <;> cases (n.f10.length : Int) == 0 <;> rfl
theorem T_i_NodeOk (x0 : GNode) (h : Small.sm x0) : Does E 23 [.agg (GNode.t .far x0)] [(false, [tB (nodeOk x0)])] := by
  exact i_NodeOk_D x0 _ (i_NodeOk_all x0 h)
end Go.Proofs.Ytgpllfmogdpapaa.Am
