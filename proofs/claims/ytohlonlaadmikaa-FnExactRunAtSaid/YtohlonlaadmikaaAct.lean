/- What the functions of RunAt do. Conditions: none. -/
import Derived.Test.YtohlonlaadmikaaBoards
namespace Go.Proofs.Ytohlonlaadmikaa.Am
set_option linter.unusedVariables false
set_option linter.unusedSimpArgs false
open Go Go.Proofs Classical
set_option maxRecDepth 100000
set_option linter.unusedVariables false
set_option linter.unusedSimpArgs false
-- loop.example/g00188/spec.RunAt
inductive s_RunAt_X0 where
  | ret (v6 : Int)
  | x0 
def s_RunAt_Q0 {q0 : Kd} (v1 : ByteArray) (v2 : Int) (v3_0 : List GSession) (v3_1 : List GPlan) (v3_2 : List GRun) (v3_3 : Int) (v3_4 : Int) (v7 : Int) : s_RunAt_X0 → Prop
  | .ret zv6 => Loops E 17 (lpAt Try.f17 0) (stL 35 [(1, .one (tS v1)), (2, .one (tI v2)), (3, .box () [.s .far () 3 (v3_0.map GSession.t), .s .far () 9 (v3_1.map (GPlan.t q0 q0)), .s .far () 5 (v3_2.map (GRun.t q0)), tI v3_3, tI v3_4]), (7, .one (tI v7))]) .ret (stL 35 [(6, .one (tI zv6))])
  | .x0 => Loops E 17 (lpAt Try.f17 0) (stL 35 [(1, .one (tS v1)), (2, .one (tI v2)), (3, .box () [.s .far () 3 (v3_0.map GSession.t), .s .far () 9 (v3_1.map (GPlan.t q0 q0)), .s .far () 5 (v3_2.map (GRun.t q0)), tI v3_3, tI v3_4]), (7, .one (tI v7))]) (.exit 0) (stL 35 [])
theorem s_RunAt_R0_0 {q0 : Kd} (v1 : ByteArray) (v2 : Int) (v3_0 : List GSession) (v3_1 : List GPlan) (v3_2 : List GRun) (v3_3 : Int) (v3_4 : Int) (v7 : Int) (g0 : GRun) (h0 : (decide (v7 < (v3_2.length : Int))) = true) (h1 : getI v3_2 v7 = some g0) (h2 : (g0.f0.toList == v1.toList) = true) (h3 : (g0.f1.f0 == v2) = true) : Round E 17 (lpAt Try.f17 0) (stL 35 [(1, .one (tS v1)), (2, .one (tI v2)), (3, .box () [.s .far () 3 (v3_0.map GSession.t), .s .far () 9 (v3_1.map (GPlan.t q0 q0)), .s .far () 5 (v3_2.map (GRun.t q0)), tI v3_3, tI v3_4]), (7, .one (tI v7))]) .ret (stL 35 [(6, .one (tI v7))]) :=
  Round.path [.val (.int .i64 (v3_2.length : Int)), .b true, .row ((GRun.t q0) g0), .b true, .row ((GRun.t q0) g0), .b true] [fun _ => ((v3_2.map (GRun.t q0)).length : Int) = (v3_2.length : Int), fun _ => (decide (v7 < (v3_2.length : Int))) = true, fun _ => 0 ≤ v7 ∧ (v3_2.map (GRun.t q0))[v7.toNat]? = some ((GRun.t q0) g0), fun _ => (g0.f0.toList == v1.toList) = true, fun _ => 0 ≤ v7 ∧ (v3_2.map (GRun.t q0))[v7.toNat]? = some ((GRun.t q0) g0), fun _ => (g0.f1.f0 == v2) = true] (fun k => by kernel_rfl) ⟨Ev.c lenMap, Ev.c h0, Ev.c (getRow h1), Ev.c h2, Ev.c (getRow h1), Ev.c h3, trivial⟩
theorem s_RunAt_R0_1 {q0 : Kd} (v1 : ByteArray) (v2 : Int) (v3_0 : List GSession) (v3_1 : List GPlan) (v3_2 : List GRun) (v3_3 : Int) (v3_4 : Int) (v7 : Int) (g0 : GRun) (h0 : (decide (v7 < (v3_2.length : Int))) = true) (h1 : getI v3_2 v7 = some g0) (h2 : (g0.f0.toList == v1.toList) = true) (h3 : (g0.f1.f0 == v2) = false) : Round E 17 (lpAt Try.f17 0) (stL 35 [(1, .one (tS v1)), (2, .one (tI v2)), (3, .box () [.s .far () 3 (v3_0.map GSession.t), .s .far () 9 (v3_1.map (GPlan.t q0 q0)), .s .far () 5 (v3_2.map (GRun.t q0)), tI v3_3, tI v3_4]), (7, .one (tI v7))]) .normal (stL 35 [(1, .one (tS v1)), (2, .one (tI v2)), (3, .box () [.s .far () 3 (v3_0.map GSession.t), .s .far () 9 (v3_1.map (GPlan.t q0 q0)), .s .far () 5 (v3_2.map (GRun.t q0)), tI v3_3, tI v3_4]), (7, .one (tI (IntKind.wrap .i64 (v7 + (1 : Int)))))]) :=
  Round.path [.val (.int .i64 (v3_2.length : Int)), .b true, .row ((GRun.t q0) g0), .b true, .row ((GRun.t q0) g0), .b false] [fun _ => ((v3_2.map (GRun.t q0)).length : Int) = (v3_2.length : Int), fun _ => (decide (v7 < (v3_2.length : Int))) = true, fun _ => 0 ≤ v7 ∧ (v3_2.map (GRun.t q0))[v7.toNat]? = some ((GRun.t q0) g0), fun _ => (g0.f0.toList == v1.toList) = true, fun _ => 0 ≤ v7 ∧ (v3_2.map (GRun.t q0))[v7.toNat]? = some ((GRun.t q0) g0), fun _ => (g0.f1.f0 == v2) = false] (fun k => by kernel_rfl) ⟨Ev.c lenMap, Ev.c h0, Ev.c (getRow h1), Ev.c h2, Ev.c (getRow h1), Ev.c h3, trivial⟩
theorem s_RunAt_R0_2 {q0 : Kd} (v1 : ByteArray) (v2 : Int) (v3_0 : List GSession) (v3_1 : List GPlan) (v3_2 : List GRun) (v3_3 : Int) (v3_4 : Int) (v7 : Int) (g0 : GRun) (h0 : (decide (v7 < (v3_2.length : Int))) = true) (h1 : getI v3_2 v7 = some g0) (h2 : (g0.f0.toList == v1.toList) = false) : Round E 17 (lpAt Try.f17 0) (stL 35 [(1, .one (tS v1)), (2, .one (tI v2)), (3, .box () [.s .far () 3 (v3_0.map GSession.t), .s .far () 9 (v3_1.map (GPlan.t q0 q0)), .s .far () 5 (v3_2.map (GRun.t q0)), tI v3_3, tI v3_4]), (7, .one (tI v7))]) .normal (stL 35 [(1, .one (tS v1)), (2, .one (tI v2)), (3, .box () [.s .far () 3 (v3_0.map GSession.t), .s .far () 9 (v3_1.map (GPlan.t q0 q0)), .s .far () 5 (v3_2.map (GRun.t q0)), tI v3_3, tI v3_4]), (7, .one (tI (IntKind.wrap .i64 (v7 + (1 : Int)))))]) :=
  Round.path [.val (.int .i64 (v3_2.length : Int)), .b true, .row ((GRun.t q0) g0), .b false] [fun _ => ((v3_2.map (GRun.t q0)).length : Int) = (v3_2.length : Int), fun _ => (decide (v7 < (v3_2.length : Int))) = true, fun _ => 0 ≤ v7 ∧ (v3_2.map (GRun.t q0))[v7.toNat]? = some ((GRun.t q0) g0), fun _ => (g0.f0.toList == v1.toList) = false] (fun k => by kernel_rfl) ⟨Ev.c lenMap, Ev.c h0, Ev.c (getRow h1), Ev.c h2, trivial⟩
theorem s_RunAt_R0_3 {q0 : Kd} (v1 : ByteArray) (v2 : Int) (v3_0 : List GSession) (v3_1 : List GPlan) (v3_2 : List GRun) (v3_3 : Int) (v3_4 : Int) (v7 : Int) (h0 : (decide (v7 < (v3_2.length : Int))) = false) : Round E 17 (lpAt Try.f17 0) (stL 35 [(1, .one (tS v1)), (2, .one (tI v2)), (3, .box () [.s .far () 3 (v3_0.map GSession.t), .s .far () 9 (v3_1.map (GPlan.t q0 q0)), .s .far () 5 (v3_2.map (GRun.t q0)), tI v3_3, tI v3_4]), (7, .one (tI v7))]) (.exit 0) (stL 35 []) :=
  Round.path [.val (.int .i64 (v3_2.length : Int)), .b false] [fun _ => ((v3_2.map (GRun.t q0)).length : Int) = (v3_2.length : Int), fun _ => (decide (v7 < (v3_2.length : Int))) = false] (fun k => by kernel_rfl) ⟨Ev.c lenMap, Ev.c h0, trivial⟩
noncomputable def s_RunAt_l0 (v1 : ByteArray) (v2 : Int) : List GRun → Nat → Option s_RunAt_X0
  | [], i => some (.x0)
  | hd :: rest, i => cond (hd.f0.toList == v1.toList)
    (cond (hd.f1.f0 == v2)
      (some (.ret (i : Int)))
      (s_RunAt_l0 v1 v2 rest (i + 1)))
    (s_RunAt_l0 v1 v2 rest (i + 1))
theorem s_RunAt_L0 {q0 : Kd} (v1 : ByteArray) (v2 : Int) (v3_0 : List GSession) (v3_1 : List GPlan) (v3_2 : List GRun) (v3_3 : Int) (v3_4 : Int) (rest : List GRun) : ∀ (i : Nat) , (v3_2).drop i = rest → v3_2.length ≤ 9223372036854775807 → Ans (s_RunAt_l0 v1 v2 rest i) (s_RunAt_Q0 (q0 := q0) v1 v2 v3_0 v3_1 v3_2 v3_3 v3_4 (i : Int)) := by
  induction rest with
  | nil =>
    intro i hE hl
    have hb := foldEnd hE
    unfold s_RunAt_l0
    exact Ans.some (Loops.stop (s_RunAt_R0_3 (q0 := q0) v1 v2 v3_0 v3_1 v3_2 v3_3 v3_4 (i : Int) hb) (by intro h; cases h))
  | cons hd rest ih =>
    intro i hE hl
    have hb := foldMore hE
    have hw := foldNext hE hl
    have hE2 := foldRest hE
    have hg := foldGet hE
    unfold s_RunAt_l0
    refine Ans.ite (fun h2 => ?_) (fun h2 => ?_)
    · refine Ans.ite (fun h3 => ?_) (fun h3 => ?_)
      · exact Ans.some (Loops.stop (s_RunAt_R0_0 (q0 := q0) v1 v2 v3_0 v3_1 v3_2 v3_3 v3_4 (i : Int) hd hb hg h2 h3) (by intro h; cases h))
      · exact (ih (i + 1) hE2 hl).mono fun y hy => by
                have r := s_RunAt_R0_1 (q0 := q0) v1 v2 v3_0 v3_1 v3_2 v3_3 v3_4 (i : Int) hd hb hg h2 h3
                rw [hw] at r
                cases y <;> exact Loops.next r hy
    · exact (ih (i + 1) hE2 hl).mono fun y hy => by
                have r := s_RunAt_R0_2 (q0 := q0) v1 v2 v3_0 v3_1 v3_2 v3_3 v3_4 (i : Int) hd hb hg h2
                rw [hw] at r
                cases y <;> exact Loops.next r hy
theorem s_RunAt_P0 {q0 : Kd} (x0 : GBoard) (x1 : ByteArray) (x2 : Int) (w0_6 : Int) (h0 : Loops E 17 (lpAt Try.f17 0) (stL 35 [(1, .one (tS x1)), (2, .one (tI x2)), (3, .box () [.s .far () 3 (x0.f0.map GSession.t), .s .far () 9 (x0.f1.map (GPlan.t q0 q0)), .s .far () 5 (x0.f2.map (GRun.t q0)), tI x0.f3, tI x0.f4]), (7, .one (tI (0 : Int)))]) .ret (stL 35 [(6, .one (tI w0_6))])) : Does E 17 [.agg (GBoard.t .far q0 x0), .one (tS x1), .one (tI x2)] [(false, [tI w0_6])] :=
  Does.path (fn := Try.f17) [.lp .ret (stL 35 [(6, .one (tI w0_6))])] [fun k => LoopK E 17 (lpAt Try.f17 0) (stL 35 [(1, .one (tS x1)), (2, .one (tI x2)), (3, .box () [.s .far () 3 (x0.f0.map GSession.t), .s .far () 9 (x0.f1.map (GPlan.t q0 q0)), .s .far () 5 (x0.f2.map (GRun.t q0)), tI x0.f3, tI x0.f4]), (7, .one (tI (0 : Int)))]) .ret (stL 35 [(6, .one (tI w0_6))]) k k] rfl rfl (fun k => by kernel_rfl) ⟨Loops.ev h0, trivial⟩
theorem s_RunAt_P1 {q0 : Kd} (x0 : GBoard) (x1 : ByteArray) (x2 : Int) (h0 : Loops E 17 (lpAt Try.f17 0) (stL 35 [(1, .one (tS x1)), (2, .one (tI x2)), (3, .box () [.s .far () 3 (x0.f0.map GSession.t), .s .far () 9 (x0.f1.map (GPlan.t q0 q0)), .s .far () 5 (x0.f2.map (GRun.t q0)), tI x0.f3, tI x0.f4]), (7, .one (tI (0 : Int)))]) (.exit 0) (stL 35 [])) : Does E 17 [.agg (GBoard.t .far q0 x0), .one (tS x1), .one (tI x2)] [(false, [tI (-1 : Int)])] :=
  Does.path (fn := Try.f17) [.lp (.exit 0) (stL 35 [])] [fun k => LoopK E 17 (lpAt Try.f17 0) (stL 35 [(1, .one (tS x1)), (2, .one (tI x2)), (3, .box () [.s .far () 3 (x0.f0.map GSession.t), .s .far () 9 (x0.f1.map (GPlan.t q0 q0)), .s .far () 5 (x0.f2.map (GRun.t q0)), tI x0.f3, tI x0.f4]), (7, .one (tI (0 : Int)))]) (.exit 0) (stL 35 []) k k] rfl rfl (fun k => by kernel_rfl) ⟨Loops.ev h0, trivial⟩
noncomputable def s_RunAt_F (x0 : GBoard) (x1 : ByteArray) (x2 : Int) : Option (Int) :=
    if x0.f2.length ≤ 9223372036854775807 then (s_RunAt_l0 x1 x2 x0.f2 0).bind fun y => match y with
      | .ret w0_6 => (some (w0_6))
      | .x0 => (some ((-1 : Int))) else none
theorem s_RunAt_D {q0 : Kd} (x0 : GBoard) (x1 : ByteArray) (x2 : Int) : Ans (s_RunAt_F x0 x1 x2) (fun r => Does E 17 [.agg (GBoard.t .far q0 x0), .one (tS x1), .one (tI x2)] [(false, [tI r])]) := by
  unfold s_RunAt_F
  refine Ans.pre (fun hl1 => ?_)
  refine Ans.bind (fun y hy => ?_)
  replace hy := s_RunAt_L0 (q0 := q0) x1 x2 x0.f0 x0.f1 x0.f2 x0.f3 x0.f4 x0.f2 0 rfl hl1 y hy
  cases y with
  | ret w0_6 =>
    have h0 := hy
    exact Ans.some (s_RunAt_P0 (q0 := q0) x0 x1 x2 w0_6 h0)
  | x0 =>
    have h0 := hy
    exact Ans.some (s_RunAt_P1 (q0 := q0) x0 x1 x2 h0)
-- loop.example/g00188/impl.RunAt$1
theorem i_RunAt_1_P0 (x0 : GRun) (y0 : ByteArray) (y1 : Int) (h0 : (x0.f0.toList == y0.toList) = true) : Does E 47 [.agg (GRun.t .far x0), .im .far () [tS y0] 0, .im .far () [tI y1] 0] [(false, [tB (x0.f1.f0 == y1)])] :=
  Does.path (fn := Try.f47) [.b true] [fun _ => (x0.f0.toList == y0.toList) = true] rfl rfl (fun k => by kernel_rfl) ⟨Ev.c h0, trivial⟩
theorem i_RunAt_1_P1 (x0 : GRun) (y0 : ByteArray) (y1 : Int) (h0 : (x0.f0.toList == y0.toList) = false) : Does E 47 [.agg (GRun.t .far x0), .im .far () [tS y0] 0, .im .far () [tI y1] 0] [(false, [tB false])] :=
  Does.path (fn := Try.f47) [.b false] [fun _ => (x0.f0.toList == y0.toList) = false] rfl rfl (fun k => by kernel_rfl) ⟨Ev.c h0, trivial⟩
noncomputable def i_RunAt_1_F (x0 : GRun) (y0 : ByteArray) (y1 : Int) : Option (Bool) :=
    cond (x0.f0.toList == y0.toList)
      (some (x0.f1.f0 == y1))
      (some (false))
theorem i_RunAt_1_D (x0 : GRun) (y0 : ByteArray) (y1 : Int) : Ans (i_RunAt_1_F x0 y0 y1) (fun r => Does E 47 [.agg (GRun.t .far x0), .im .far () [tS y0] 0, .im .far () [tI y1] 0] [(false, [tB r])]) := by
  unfold i_RunAt_1_F
  refine Ans.ite (fun h0 => ?_) (fun h0 => ?_)
  · exact Ans.some (i_RunAt_1_P0 x0 y0 y1 h0)
  · exact Ans.some (i_RunAt_1_P1 x0 y0 y1 h0)
def runHas (x : GRun) (n : ByteArray) (k : Int) : Bool := x.f0.toList == n.toList && x.f1.f0 == k
theorem T_i_RunAt_1 (x0 : GRun) (y0 : ByteArray) (y1 : Int) : Does E 47 [.agg (GRun.t .far x0), .im .far () [tS y0] 0, .im .far () [tI y1] 0] [(false, [tB (runHas x0 y0 y1)])] := by
  exact i_RunAt_1_D x0 y0 y1 _ (by unfold i_RunAt_1_F runHas; cases x0.f0.toList == y0.toList <;> rfl)
-- slices.IndexFunc[[]loop.example/g00188/impl.Run,loop.example/g00188/impl.Run]
inductive slices_IndexFunc_Run_i_RunAt_1_X0 where
  | ret (v4 : Int)
  | x0 
def slices_IndexFunc_Run_i_RunAt_1_Q0 {q0 : Kd} (v0 : List GRun) (v1_0_0 : ByteArray) (v1_1_0 : Int) (v7 : Int) (v8 : Int) : slices_IndexFunc_Run_i_RunAt_1_X0 → Prop
  | .ret zv4 => Loops E 46 (lpAt Try.f46 0) (stL 19 [(0, .one (.s .far () 5 (v0.map (GRun.t q0)))), (1, .fni 47 [((), [tS v1_0_0]), ((), [tI v1_1_0])]), (7, .one (tI v7)), (8, .one (tI v8))]) .ret (stL 19 [(4, .one (tI zv4))])
  | .x0 => Loops E 46 (lpAt Try.f46 0) (stL 19 [(0, .one (.s .far () 5 (v0.map (GRun.t q0)))), (1, .fni 47 [((), [tS v1_0_0]), ((), [tI v1_1_0])]), (7, .one (tI v7)), (8, .one (tI v8))]) (.exit 0) (stL 19 [])
theorem slices_IndexFunc_Run_i_RunAt_1_R0_0 {q0 : Kd} (v0 : List GRun) (v1_0_0 : ByteArray) (v1_1_0 : Int) (v7 : Int) (v8 : Int) (g0 : GRun) (h0 : (decide (v8 < v7)) = true) (h1 : getI v0 v8 = some g0) (h2 : (runHas g0 v1_0_0 v1_1_0) = true) : Round E 46 (lpAt Try.f46 0) (stL 19 [(0, .one (.s .far () 5 (v0.map (GRun.t q0)))), (1, .fni 47 [((), [tS v1_0_0]), ((), [tI v1_1_0])]), (7, .one (tI v7)), (8, .one (tI v8))]) .ret (stL 19 [(4, .one (tI v8))]) :=
  Round.path [.b true, .row ((GRun.t q0) g0), .ret [(false, [tB true])]] [fun _ => (decide (v8 < v7)) = true, fun _ => 0 ≤ v8 ∧ (v0.map (GRun.t q0))[v8.toNat]? = some ((GRun.t q0) g0), fun k => E.C k 47 [.agg (GRun.t .far g0), .im .far () [tS v1_0_0] 0, .im .far () [tI v1_1_0] 0] = some [(false, [tB true])]] (fun k => by kernel_rfl) ⟨Ev.c h0, Ev.c (getRow h1), Does.to (T_i_RunAt_1 g0 v1_0_0 v1_1_0) (by rw [h2]), trivial⟩
theorem slices_IndexFunc_Run_i_RunAt_1_R0_1 {q0 : Kd} (v0 : List GRun) (v1_0_0 : ByteArray) (v1_1_0 : Int) (v7 : Int) (v8 : Int) (g0 : GRun) (h0 : (decide (v8 < v7)) = true) (h1 : getI v0 v8 = some g0) (h2 : (runHas g0 v1_0_0 v1_1_0) = false) : Round E 46 (lpAt Try.f46 0) (stL 19 [(0, .one (.s .far () 5 (v0.map (GRun.t q0)))), (1, .fni 47 [((), [tS v1_0_0]), ((), [tI v1_1_0])]), (7, .one (tI v7)), (8, .one (tI v8))]) .normal (stL 19 [(0, .one (.s .far () 5 (v0.map (GRun.t q0)))), (1, .fni 47 [((), [tS v1_0_0]), ((), [tI v1_1_0])]), (7, .one (tI v7)), (8, .one (tI (IntKind.wrap .i64 (v8 + (1 : Int)))))]) :=
  Round.path [.b true, .row ((GRun.t q0) g0), .ret [(false, [tB false])]] [fun _ => (decide (v8 < v7)) = true, fun _ => 0 ≤ v8 ∧ (v0.map (GRun.t q0))[v8.toNat]? = some ((GRun.t q0) g0), fun k => E.C k 47 [.agg (GRun.t .far g0), .im .far () [tS v1_0_0] 0, .im .far () [tI v1_1_0] 0] = some [(false, [tB false])]] (fun k => by kernel_rfl) ⟨Ev.c h0, Ev.c (getRow h1), Does.to (T_i_RunAt_1 g0 v1_0_0 v1_1_0) (by rw [h2]), trivial⟩
theorem slices_IndexFunc_Run_i_RunAt_1_R0_2 {q0 : Kd} (v0 : List GRun) (v1_0_0 : ByteArray) (v1_1_0 : Int) (v7 : Int) (v8 : Int) (h0 : (decide (v8 < v7)) = false) : Round E 46 (lpAt Try.f46 0) (stL 19 [(0, .one (.s .far () 5 (v0.map (GRun.t q0)))), (1, .fni 47 [((), [tS v1_0_0]), ((), [tI v1_1_0])]), (7, .one (tI v7)), (8, .one (tI v8))]) (.exit 0) (stL 19 []) :=
  Round.path [.b false] [fun _ => (decide (v8 < v7)) = false] (fun k => by kernel_rfl) ⟨Ev.c h0, trivial⟩
noncomputable def slices_IndexFunc_Run_i_RunAt_1_l0 (v1_0_0 : ByteArray) (v1_1_0 : Int) : List GRun → Nat → Option slices_IndexFunc_Run_i_RunAt_1_X0
  | [], i => some (.x0)
  | hd :: rest, i => cond (runHas hd v1_0_0 v1_1_0)
    (some (.ret (i : Int)))
    (slices_IndexFunc_Run_i_RunAt_1_l0 v1_0_0 v1_1_0 rest (i + 1))
theorem slices_IndexFunc_Run_i_RunAt_1_L0 {q0 : Kd} (v0 : List GRun) (v1_0_0 : ByteArray) (v1_1_0 : Int) (rest : List GRun) : ∀ (i : Nat) , (v0).drop i = rest → v0.length ≤ 9223372036854775807 → Ans (slices_IndexFunc_Run_i_RunAt_1_l0 v1_0_0 v1_1_0 rest i) (slices_IndexFunc_Run_i_RunAt_1_Q0 (q0 := q0) v0 v1_0_0 v1_1_0 (v0.length : Int) (i : Int)) := by
  induction rest with
  | nil =>
    intro i hE hl
    have hb := foldEnd hE
    unfold slices_IndexFunc_Run_i_RunAt_1_l0
    exact Ans.some (Loops.stop (slices_IndexFunc_Run_i_RunAt_1_R0_2 (q0 := q0) v0 v1_0_0 v1_1_0 (v0.length : Int) (i : Int) hb) (by intro h; cases h))
  | cons hd rest ih =>
    intro i hE hl
    have hb := foldMore hE
    have hw := foldNext hE hl
    have hE2 := foldRest hE
    have hg := foldGet hE
    unfold slices_IndexFunc_Run_i_RunAt_1_l0
    refine Ans.ite (fun h2 => ?_) (fun h2 => ?_)
    · exact Ans.some (Loops.stop (slices_IndexFunc_Run_i_RunAt_1_R0_0 (q0 := q0) v0 v1_0_0 v1_1_0 (v0.length : Int) (i : Int) hd hb hg h2) (by intro h; cases h))
    · exact (ih (i + 1) hE2 hl).mono fun y hy => by
                have r := slices_IndexFunc_Run_i_RunAt_1_R0_1 (q0 := q0) v0 v1_0_0 v1_1_0 (v0.length : Int) (i : Int) hd hb hg h2
                rw [hw] at r
                cases y <;> exact Loops.next r hy
theorem slices_IndexFunc_Run_i_RunAt_1_P0 {q0 : Kd} (x0 : List GRun) (c1_0 : ByteArray) (c1_1 : Int) (w0_4 : Int) (h0 : Loops E 46 (lpAt Try.f46 0) (stL 19 [(0, .one (.s .far () 5 (x0.map (GRun.t q0)))), (1, .fni 47 [((), [tS c1_0]), ((), [tI c1_1])]), (7, .one (tI (x0.length : Int))), (8, .one (tI (0 : Int)))]) .ret (stL 19 [(4, .one (tI w0_4))])) : Does E 46 [.one (.s .far () 5 (x0.map (GRun.t q0))), .fni 47 [((), [tS c1_0]), ((), [tI c1_1])]] [(false, [tI w0_4])] :=
  Does.path (fn := Try.f46) [.val (.int .i64 (x0.length : Int)), .lp .ret (stL 19 [(4, .one (tI w0_4))])] [fun _ => ((x0.map (GRun.t q0)).length : Int) = (x0.length : Int), fun k => LoopK E 46 (lpAt Try.f46 0) (stL 19 [(0, .one (.s .far () 5 (x0.map (GRun.t q0)))), (1, .fni 47 [((), [tS c1_0]), ((), [tI c1_1])]), (7, .one (tI (x0.length : Int))), (8, .one (tI (0 : Int)))]) .ret (stL 19 [(4, .one (tI w0_4))]) k k] rfl rfl (fun k => by kernel_rfl) ⟨Ev.c lenMap, Loops.ev h0, trivial⟩
theorem slices_IndexFunc_Run_i_RunAt_1_P1 {q0 : Kd} (x0 : List GRun) (c1_0 : ByteArray) (c1_1 : Int) (h0 : Loops E 46 (lpAt Try.f46 0) (stL 19 [(0, .one (.s .far () 5 (x0.map (GRun.t q0)))), (1, .fni 47 [((), [tS c1_0]), ((), [tI c1_1])]), (7, .one (tI (x0.length : Int))), (8, .one (tI (0 : Int)))]) (.exit 0) (stL 19 [])) : Does E 46 [.one (.s .far () 5 (x0.map (GRun.t q0))), .fni 47 [((), [tS c1_0]), ((), [tI c1_1])]] [(false, [tI (-1 : Int)])] :=
  Does.path (fn := Try.f46) [.val (.int .i64 (x0.length : Int)), .lp (.exit 0) (stL 19 [])] [fun _ => ((x0.map (GRun.t q0)).length : Int) = (x0.length : Int), fun k => LoopK E 46 (lpAt Try.f46 0) (stL 19 [(0, .one (.s .far () 5 (x0.map (GRun.t q0)))), (1, .fni 47 [((), [tS c1_0]), ((), [tI c1_1])]), (7, .one (tI (x0.length : Int))), (8, .one (tI (0 : Int)))]) (.exit 0) (stL 19 []) k k] rfl rfl (fun k => by kernel_rfl) ⟨Ev.c lenMap, Loops.ev h0, trivial⟩
noncomputable def slices_IndexFunc_Run_i_RunAt_1_F (x0 : List GRun) (c1_0 : ByteArray) (c1_1 : Int) : Option (Int) :=
    if x0.length ≤ 9223372036854775807 then (slices_IndexFunc_Run_i_RunAt_1_l0 c1_0 c1_1 x0 0).bind fun y => match y with
      | .ret w0_4 => (some (w0_4))
      | .x0 => (some ((-1 : Int))) else none
theorem slices_IndexFunc_Run_i_RunAt_1_D {q0 : Kd} (x0 : List GRun) (c1_0 : ByteArray) (c1_1 : Int) : Ans (slices_IndexFunc_Run_i_RunAt_1_F x0 c1_0 c1_1) (fun r => Does E 46 [.one (.s .far () 5 (x0.map (GRun.t q0))), .fni 47 [((), [tS c1_0]), ((), [tI c1_1])]] [(false, [tI r])]) := by
  unfold slices_IndexFunc_Run_i_RunAt_1_F
  refine Ans.pre (fun hl1 => ?_)
  refine Ans.bind (fun y hy => ?_)
  replace hy := slices_IndexFunc_Run_i_RunAt_1_L0 (q0 := q0) x0 c1_0 c1_1 x0 0 rfl hl1 y hy
  cases y with
  | ret w0_4 =>
    have h0 := hy
    exact Ans.some (slices_IndexFunc_Run_i_RunAt_1_P0 (q0 := q0) x0 c1_0 c1_1 w0_4 h0)
  | x0 =>
    have h0 := hy
    exact Ans.some (slices_IndexFunc_Run_i_RunAt_1_P1 (q0 := q0) x0 c1_0 c1_1 h0)
noncomputable def runIdx (l : List GRun) (n : ByteArray) (k : Int) : Int := (slices_IndexFunc_Run_i_RunAt_1_F l n k).getD (-1)
noncomputable def runAt (b : GBoard) (n : ByteArray) (k : Int) : Int := runIdx b.f2 n k
theorem run_l (n : ByteArray) (p : Int) : ∀ (rest : List GRun) (i : Nat),
    (∃ k : Nat, s_RunAt_l0 n p rest i = some (.ret (k : Int)) ∧ slices_IndexFunc_Run_i_RunAt_1_l0 n p rest i = some (.ret (k : Int)) ∧ k < i + rest.length) ∨ s_RunAt_l0 n p rest i = some .x0 ∧ slices_IndexFunc_Run_i_RunAt_1_l0 n p rest i = some .x0
  | [], i => .inr ⟨rfl, rfl⟩
  | x :: rest, i => by
    have ih : (∃ k : Nat, s_RunAt_l0 n p rest (i + 1) = some (.ret (k : Int)) ∧ slices_IndexFunc_Run_i_RunAt_1_l0 n p rest (i + 1) = some (.ret (k : Int)) ∧ k < i + (x :: rest).length) ∨ s_RunAt_l0 n p rest (i + 1) = some .x0 ∧ slices_IndexFunc_Run_i_RunAt_1_l0 n p rest (i + 1) = some .x0 := by
      rcases run_l n p rest (i + 1) with ⟨k, h1, h2, h3⟩ | h
      · exact .inl ⟨k, h1, h2, by simp; omega⟩
      · exact .inr h
    unfold s_RunAt_l0 slices_IndexFunc_Run_i_RunAt_1_l0 runHas
    cases x.f0.toList == n.toList with
    | true =>
      cases x.f1.f0 == p with
      | true => exact .inl ⟨i, rfl, rfl, by simp⟩
      | false => exact ih
    | false => exact ih
theorem run_ok (b : GBoard) (n : ByteArray) (p : Int) (h : b.f2.length ≤ 1050000) : s_RunAt_F b n p = some (runAt b n p) ∧ slices_IndexFunc_Run_i_RunAt_1_F b.f2 n p = some (runAt b n p) ∧ -1 ≤ runAt b n p ∧ runAt b n p < (b.f2.length : Int) := by
  unfold runAt runIdx s_RunAt_F slices_IndexFunc_Run_i_RunAt_1_F
  rw [if_pos (by omega), if_pos (by omega)]
  rcases run_l n p b.f2 0 with ⟨k, h1, h2, h3⟩ | ⟨h1, h2⟩
  · rw [h1, h2]; exact ⟨rfl, rfl, show (-1 : Int) ≤ (k : Int) by omega, show (k : Int) < _ by omega⟩
  · rw [h1, h2]; exact ⟨rfl, rfl, show (-1 : Int) ≤ -1 by omega, show (-1 : Int) < _ by omega⟩
theorem T_s_RunAt {q0 : Kd} (x0 : GBoard) (x1 : ByteArray) (x2 : Int) (h : Small.sm x0) : Does E 17 [.agg (GBoard.t .far q0 x0), .one (tS x1), .one (tI x2)] [(false, [tI (runAt x0 x1 x2)])] := by
  exact s_RunAt_D x0 x1 x2 _ (run_ok x0 x1 x2 h.2.2.1).1
theorem T_slices_IndexFunc_Run_i_RunAt_1 {q0 : Kd} (x0 : List GRun) (c1_0 : ByteArray) (c1_1 : Int) (h : x0.length ≤ 1050000) : Does E 46 [.one (.s .far () 5 (x0.map (GRun.t q0))), .fni 47 [((), [tS c1_0]), ((), [tI c1_1])]] [(false, [tI (runIdx x0 c1_0 c1_1)])] := by
  exact slices_IndexFunc_Run_i_RunAt_1_D x0 c1_0 c1_1 _ (run_ok ⟨[], [], x0, 0, 0⟩ c1_0 c1_1 h).2.1
-- loop.example/g00188/impl.RunAt
theorem i_RunAt_P0 {q0 : Kd} (x0 : GBoard) (x1 : ByteArray) (x2 : Int) (h0 : x0.f2.length ≤ 1050000) : Does E 18 [.agg (GBoard.t .far q0 x0), .one (tS x1), .one (tI x2)] [(false, [tI (runIdx x0.f2 x1 x2)])] :=
  Does.path (fn := Try.f18) [.ret [(false, [tI (runIdx x0.f2 x1 x2)])]] [fun k => E.C k 46 [.one (.s .far () 5 (x0.f2.map (GRun.t q0))), .fni 47 [((), [tS x1]), ((), [tI x2])]] = some [(false, [tI (runIdx x0.f2 x1 x2)])]] rfl rfl (fun k => by kernel_rfl) ⟨T_slices_IndexFunc_Run_i_RunAt_1 x0.f2 x1 x2 h0, trivial⟩
noncomputable def i_RunAt_F (x0 : GBoard) (x1 : ByteArray) (x2 : Int) : Option (Int) :=
    if x0.f2.length ≤ 1050000 then some (runIdx x0.f2 x1 x2) else none
theorem i_RunAt_D {q0 : Kd} (x0 : GBoard) (x1 : ByteArray) (x2 : Int) : Ans (i_RunAt_F x0 x1 x2) (fun r => Does E 18 [.agg (GBoard.t .far q0 x0), .one (tS x1), .one (tI x2)] [(false, [tI r])]) := by
  unfold i_RunAt_F
  refine Ans.pre (fun h0 => ?_)
  exact Ans.some (i_RunAt_P0 (q0 := q0) x0 x1 x2 h0)
theorem T_i_RunAt {q0 : Kd} (x0 : GBoard) (x1 : ByteArray) (x2 : Int) (h : Small.sm x0) : Does E 18 [.agg (GBoard.t .far q0 x0), .one (tS x1), .one (tI x2)] [(false, [tI (runAt x0 x1 x2)])] := by
  exact i_RunAt_D x0 x1 x2 _ (by unfold i_RunAt_F; rw [if_pos h.2.2.1]; rfl)
end Go.Proofs.Ytohlonlaadmikaa.Am
namespace Go.Proofs.Ytohlonlaadmikaa.Am
set_option linter.unusedVariables false
set_option linter.unusedSimpArgs false
open Go Go.Proofs Classical
set_option maxRecDepth 100000
set_option linter.unusedVariables false
set_option linter.unusedSimpArgs false
-- loop.example/g00188/laws.FnExactRunAt
theorem l_FnExactRunAt_P0 {q0 : Kd} (x0 : LBoard) (x1 : ByteArray) (x2 : Int) (h0 : (decide ((x1.size : Int) > (1048576 : Int))) = true) : Does E 4 [.agg (LBoard.t .far q0 x0), .one (tS x1), .one (tI x2)] [(false, [tB true])] :=
  Does.path (fn := Try.f4) [.b true] [fun _ => (decide ((x1.size : Int) > (1048576 : Int))) = true] rfl rfl (fun k => by kernel_rfl) ⟨Ev.c h0, trivial⟩
theorem l_FnExactRunAt_P1 {q0 : Kd} (x0 : LBoard) (x1 : ByteArray) (x2 : Int) (h0 : (decide ((x1.size : Int) > (1048576 : Int))) = false) (h1 : Wf.wf x0) (h2 : (decide ((p_l_szBoard x0 (1048576 : Int)) < (0 : Int))) = true) : Does E 4 [.agg (LBoard.t .far q0 x0), .one (tS x1), .one (tI x2)] [(false, [tB true])] :=
  Does.path (fn := Try.f4) [.b false, .ret [(false, [tI (p_l_szBoard x0 (1048576 : Int))])], .b true] [fun _ => (decide ((x1.size : Int) > (1048576 : Int))) = false, fun k => E.C k 12 [.agg (LBoard.t .far q0 x0), .one (tI (1048576 : Int))] = some [(false, [tI (p_l_szBoard x0 (1048576 : Int))])], fun _ => (decide ((p_l_szBoard x0 (1048576 : Int)) < (0 : Int))) = true] rfl rfl (fun k => by kernel_rfl) ⟨Ev.c h0, T_l_szBoard x0 (1048576 : Int) h1, Ev.c h2, trivial⟩
theorem l_FnExactRunAt_P2 {q0 : Kd} (x0 : LBoard) (x1 : ByteArray) (x2 : Int) (h0 : (decide ((x1.size : Int) > (1048576 : Int))) = false) (h1 : Wf.wf x0) (h2 : (decide ((p_l_szBoard x0 (1048576 : Int)) < (0 : Int))) = false) (h3 : Small.sm x0) (h4 : Small.sm (p_l_toBoard x0)) (h5 : ((runAt (p_l_toBoard x0) x1 x2) != (runAt (p_l_toBoard x0) x1 x2)) = true) : Does E 4 [.agg (LBoard.t .far q0 x0), .one (tS x1), .one (tI x2)] [(false, [tB false])] :=
  Does.path (fn := Try.f4) [.b false, .ret [(false, [tI (p_l_szBoard x0 (1048576 : Int))])], .b false, .ret [(true, GBoard.t .own .own (p_l_toBoard x0))], .ret [(false, [tI (runAt (p_l_toBoard x0) x1 x2)])], .ret [(true, GBoard.t .own .own (p_l_toBoard x0))], .ret [(false, [tI (runAt (p_l_toBoard x0) x1 x2)])], .b true] [fun _ => (decide ((x1.size : Int) > (1048576 : Int))) = false, fun k => E.C k 12 [.agg (LBoard.t .far q0 x0), .one (tI (1048576 : Int))] = some [(false, [tI (p_l_szBoard x0 (1048576 : Int))])], fun _ => (decide ((p_l_szBoard x0 (1048576 : Int)) < (0 : Int))) = false, fun k => E.C k 14 [.agg (LBoard.t .far q0 x0)] = some [(true, GBoard.t .own .own (p_l_toBoard x0))], fun k => E.C k 17 [.agg (GBoard.t .far .own (p_l_toBoard x0)), .one (tS x1), .one (tI x2)] = some [(false, [tI (runAt (p_l_toBoard x0) x1 x2)])], fun k => E.C k 14 [.agg (LBoard.t .far q0 x0)] = some [(true, GBoard.t .own .own (p_l_toBoard x0))], fun k => E.C k 18 [.agg (GBoard.t .far .own (p_l_toBoard x0)), .one (tS x1), .one (tI x2)] = some [(false, [tI (runAt (p_l_toBoard x0) x1 x2)])], fun _ => ((runAt (p_l_toBoard x0) x1 x2) != (runAt (p_l_toBoard x0) x1 x2)) = true] rfl rfl (fun k => by kernel_rfl) ⟨Ev.c h0, T_l_szBoard x0 (1048576 : Int) h1, Ev.c h2, T_l_toBoard x0 h3, T_s_RunAt (p_l_toBoard x0) x1 x2 h4, T_l_toBoard x0 h3, T_i_RunAt (p_l_toBoard x0) x1 x2 h4, Ev.c h5, trivial⟩
theorem l_FnExactRunAt_P3 {q0 : Kd} (x0 : LBoard) (x1 : ByteArray) (x2 : Int) (h0 : (decide ((x1.size : Int) > (1048576 : Int))) = false) (h1 : Wf.wf x0) (h2 : (decide ((p_l_szBoard x0 (1048576 : Int)) < (0 : Int))) = false) (h3 : Small.sm x0) (h4 : Small.sm (p_l_toBoard x0)) (h5 : ((runAt (p_l_toBoard x0) x1 x2) != (runAt (p_l_toBoard x0) x1 x2)) = false) (h6 : (p_l_toBoard x0) = (p_l_toBoard x0)) (h7 : (yes (p_l_toBoard x0) (p_l_toBoard x0)) = true) : Does E 4 [.agg (LBoard.t .far q0 x0), .one (tS x1), .one (tI x2)] [(false, [tB true])] :=
  Does.path (fn := Try.f4) [.b false, .ret [(false, [tI (p_l_szBoard x0 (1048576 : Int))])], .b false, .ret [(true, GBoard.t .own .own (p_l_toBoard x0))], .ret [(false, [tI (runAt (p_l_toBoard x0) x1 x2)])], .ret [(true, GBoard.t .own .own (p_l_toBoard x0))], .ret [(false, [tI (runAt (p_l_toBoard x0) x1 x2)])], .b false, .ret [(true, GBoard.t .own .own (p_l_toBoard x0))], .ret [(false, [tB true])]] [fun _ => (decide ((x1.size : Int) > (1048576 : Int))) = false, fun k => E.C k 12 [.agg (LBoard.t .far q0 x0), .one (tI (1048576 : Int))] = some [(false, [tI (p_l_szBoard x0 (1048576 : Int))])], fun _ => (decide ((p_l_szBoard x0 (1048576 : Int)) < (0 : Int))) = false, fun k => E.C k 14 [.agg (LBoard.t .far q0 x0)] = some [(true, GBoard.t .own .own (p_l_toBoard x0))], fun k => E.C k 17 [.agg (GBoard.t .far .own (p_l_toBoard x0)), .one (tS x1), .one (tI x2)] = some [(false, [tI (runAt (p_l_toBoard x0) x1 x2)])], fun k => E.C k 14 [.agg (LBoard.t .far q0 x0)] = some [(true, GBoard.t .own .own (p_l_toBoard x0))], fun k => E.C k 18 [.agg (GBoard.t .far .own (p_l_toBoard x0)), .one (tS x1), .one (tI x2)] = some [(false, [tI (runAt (p_l_toBoard x0) x1 x2)])], fun _ => ((runAt (p_l_toBoard x0) x1 x2) != (runAt (p_l_toBoard x0) x1 x2)) = false, fun k => E.C k 14 [.agg (LBoard.t .far q0 x0)] = some [(true, GBoard.t .own .own (p_l_toBoard x0))], fun k => E.C k 16 [.agg (GBoard.t .far .own (p_l_toBoard x0)), .agg (GBoard.t .far .own (p_l_toBoard x0))] = some [(false, [tB true])]] rfl rfl (fun k => by kernel_rfl) ⟨Ev.c h0, T_l_szBoard x0 (1048576 : Int) h1, Ev.c h2, T_l_toBoard x0 h3, T_s_RunAt (p_l_toBoard x0) x1 x2 h4, T_l_toBoard x0 h3, T_i_RunAt (p_l_toBoard x0) x1 x2 h4, Ev.c h5, T_l_toBoard x0 h3, Does.to (T_l_eqBoard (p_l_toBoard x0) (p_l_toBoard x0) h6 h4) (by rw [h7]), trivial⟩
theorem l_FnExactRunAt_P4 {q0 : Kd} (x0 : LBoard) (x1 : ByteArray) (x2 : Int) (h0 : (decide ((x1.size : Int) > (1048576 : Int))) = false) (h1 : Wf.wf x0) (h2 : (decide ((p_l_szBoard x0 (1048576 : Int)) < (0 : Int))) = false) (h3 : Small.sm x0) (h4 : Small.sm (p_l_toBoard x0)) (h5 : ((runAt (p_l_toBoard x0) x1 x2) != (runAt (p_l_toBoard x0) x1 x2)) = false) (h6 : (p_l_toBoard x0) = (p_l_toBoard x0)) (h7 : (yes (p_l_toBoard x0) (p_l_toBoard x0)) = false) : Does E 4 [.agg (LBoard.t .far q0 x0), .one (tS x1), .one (tI x2)] [(false, [tB false])] :=
  Does.path (fn := Try.f4) [.b false, .ret [(false, [tI (p_l_szBoard x0 (1048576 : Int))])], .b false, .ret [(true, GBoard.t .own .own (p_l_toBoard x0))], .ret [(false, [tI (runAt (p_l_toBoard x0) x1 x2)])], .ret [(true, GBoard.t .own .own (p_l_toBoard x0))], .ret [(false, [tI (runAt (p_l_toBoard x0) x1 x2)])], .b false, .ret [(true, GBoard.t .own .own (p_l_toBoard x0))], .ret [(false, [tB false])]] [fun _ => (decide ((x1.size : Int) > (1048576 : Int))) = false, fun k => E.C k 12 [.agg (LBoard.t .far q0 x0), .one (tI (1048576 : Int))] = some [(false, [tI (p_l_szBoard x0 (1048576 : Int))])], fun _ => (decide ((p_l_szBoard x0 (1048576 : Int)) < (0 : Int))) = false, fun k => E.C k 14 [.agg (LBoard.t .far q0 x0)] = some [(true, GBoard.t .own .own (p_l_toBoard x0))], fun k => E.C k 17 [.agg (GBoard.t .far .own (p_l_toBoard x0)), .one (tS x1), .one (tI x2)] = some [(false, [tI (runAt (p_l_toBoard x0) x1 x2)])], fun k => E.C k 14 [.agg (LBoard.t .far q0 x0)] = some [(true, GBoard.t .own .own (p_l_toBoard x0))], fun k => E.C k 18 [.agg (GBoard.t .far .own (p_l_toBoard x0)), .one (tS x1), .one (tI x2)] = some [(false, [tI (runAt (p_l_toBoard x0) x1 x2)])], fun _ => ((runAt (p_l_toBoard x0) x1 x2) != (runAt (p_l_toBoard x0) x1 x2)) = false, fun k => E.C k 14 [.agg (LBoard.t .far q0 x0)] = some [(true, GBoard.t .own .own (p_l_toBoard x0))], fun k => E.C k 16 [.agg (GBoard.t .far .own (p_l_toBoard x0)), .agg (GBoard.t .far .own (p_l_toBoard x0))] = some [(false, [tB false])]] rfl rfl (fun k => by kernel_rfl) ⟨Ev.c h0, T_l_szBoard x0 (1048576 : Int) h1, Ev.c h2, T_l_toBoard x0 h3, T_s_RunAt (p_l_toBoard x0) x1 x2 h4, T_l_toBoard x0 h3, T_i_RunAt (p_l_toBoard x0) x1 x2 h4, Ev.c h5, T_l_toBoard x0 h3, Does.to (T_l_eqBoard (p_l_toBoard x0) (p_l_toBoard x0) h6 h4) (by rw [h7]), trivial⟩
noncomputable def l_FnExactRunAt_F (x0 : LBoard) (x1 : ByteArray) (x2 : Int) : Option (Bool) :=
    cond (decide ((x1.size : Int) > (1048576 : Int)))
      (some (true))
      (if Wf.wf x0 then cond (decide ((p_l_szBoard x0 (1048576 : Int)) < (0 : Int)))
        (some (true))
        (if Small.sm x0 then if Small.sm (p_l_toBoard x0) then cond ((runAt (p_l_toBoard x0) x1 x2) != (runAt (p_l_toBoard x0) x1 x2))
          (some (false))
          (if (p_l_toBoard x0) = (p_l_toBoard x0) then cond (yes (p_l_toBoard x0) (p_l_toBoard x0))
            (some (true))
            (some (false)) else none) else none else none) else none)
theorem l_FnExactRunAt_D {q0 : Kd} (x0 : LBoard) (x1 : ByteArray) (x2 : Int) : Ans (l_FnExactRunAt_F x0 x1 x2) (fun r => Does E 4 [.agg (LBoard.t .far q0 x0), .one (tS x1), .one (tI x2)] [(false, [tB r])]) := by
  unfold l_FnExactRunAt_F
  refine Ans.ite (fun h0 => ?_) (fun h0 => ?_)
  · exact Ans.some (l_FnExactRunAt_P0 (q0 := q0) x0 x1 x2 h0)
  · refine Ans.pre (fun h1 => ?_)
    refine Ans.ite (fun h2 => ?_) (fun h2 => ?_)
    · exact Ans.some (l_FnExactRunAt_P1 (q0 := q0) x0 x1 x2 h0 h1 h2)
    · refine Ans.pre (fun h3 => ?_)
      refine Ans.pre (fun h4 => ?_)
      refine Ans.ite (fun h5 => ?_) (fun h5 => ?_)
      · exact Ans.some (l_FnExactRunAt_P2 (q0 := q0) x0 x1 x2 h0 h1 h2 h3 h4 h5)
      · refine Ans.pre (fun h6 => ?_)
        refine Ans.ite (fun h7 => ?_) (fun h7 => ?_)
        · exact Ans.some (l_FnExactRunAt_P3 (q0 := q0) x0 x1 x2 h0 h1 h2 h3 h4 h5 h6 h7)
        · exact Ans.some (l_FnExactRunAt_P4 (q0 := q0) x0 x1 x2 h0 h1 h2 h3 h4 h5 h6 h7)
theorem T_law_RunAt {q0 : Kd} (x0 : LBoard) (x1 : ByteArray) (x2 : Int) (h : Wf.wf x0) : Does E 4 [.agg (LBoard.t .far q0 x0), .one (tS x1), .one (tI x2)] [(false, [tB true])] := by
  have hs := le_l_szBoard x0 1048576 h (by omega) (by omega)
  exact l_FnExactRunAt_D x0 x1 x2 _ (by
    unfold l_FnExactRunAt_F
    refine lawCond fun _ => ?_
    refine lawPre h (lawSz fun q => ?_)
    have hs := (hs q).2
    have ht := sm_l_toBoard hs
    simp [hs, ht, yes])
end Go.Proofs.Ytohlonlaadmikaa.Am
