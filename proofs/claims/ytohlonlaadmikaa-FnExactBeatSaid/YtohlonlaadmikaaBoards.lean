/- What the functions that measure, copy and compare boards do. Conditions: none. -/
import Derived.Test.YtohlonlaadmikaaEnv
namespace Go.Proofs.Ytohlonlaadmikaa.Am
set_option linter.unusedVariables false
set_option linter.unusedSimpArgs false
open Go Go.Proofs Classical
set_option maxRecDepth 100000
set_option linter.unusedVariables false
set_option linter.unusedSimpArgs false
structure GSession where
  f0 : Int
  f1 : Int
  f2 : ByteArray
def GSession.t (x : GSession) : List (T Unit) := [tI x.f0, tI x.f1, tS x.f2]
instance : Small GSession := ⟨fun x => Small.sm x.f2⟩
instance : Wf GSession := ⟨fun x => Wf.wf x.f2⟩
structure GTask where
  f0 : ByteArray
  f1 : ByteArray
  f2 : Int
  f3 : Bool
  f4 : List ByteArray
def GTask.t (k : Kd) (x : GTask) : List (T Unit) := [tS x.f0, tS x.f1, tI x.f2, tB x.f3, .s k () 1 (x.f4.map etS)]
instance : Small GTask := ⟨fun x => Small.sm x.f0 ∧ Small.sm x.f1 ∧ Small.sm x.f4⟩
instance : Wf GTask := ⟨fun x => Wf.wf x.f0 ∧ Wf.wf x.f1 ∧ Wf.wf x.f4⟩
structure GDag where
  f0 : ByteArray
  f1 : ByteArray
  f2 : Int
  f3 : Int
  f4 : Bool
  f5 : List GTask
def GDag.t (k q : Kd) (x : GDag) : List (T Unit) := [tS x.f0, tS x.f1, tI x.f2, tI x.f3, tB x.f4, .s k () 5 (x.f5.map (GTask.t q))]
instance : Small GDag := ⟨fun x => Small.sm x.f0 ∧ Small.sm x.f1 ∧ Small.sm x.f5⟩
instance : Wf GDag := ⟨fun x => Wf.wf x.f0 ∧ Wf.wf x.f1 ∧ Wf.wf x.f5⟩
structure GPlan where
  f0 : GDag
  f1 : Bool
  f2 : Int
  f3 : Int
def GPlan.t (k q : Kd) (x : GPlan) : List (T Unit) := GDag.t k q x.f0 ++ [tB x.f1] ++ [tI x.f2] ++ [tI x.f3]
instance : Small GPlan := ⟨fun x => Small.sm x.f0⟩
instance : Wf GPlan := ⟨fun x => Wf.wf x.f0⟩
structure GSpan where
  f0 : Int
  f1 : Int
def GSpan.t (x : GSpan) : List (T Unit) := [tI x.f0, tI x.f1]
instance : Small GSpan := ⟨fun x => True⟩
instance : Wf GSpan := ⟨fun x => True⟩
structure GState where
  f0 : Int
  f1 : Int
  f2 : Int
  f3 : Int
def GState.t (x : GState) : List (T Unit) := [tI x.f0, tI x.f1, tI x.f2, tI x.f3]
instance : Small GState := ⟨fun x => True⟩
instance : Wf GState := ⟨fun x => True⟩
structure GRun where
  f0 : ByteArray
  f1 : GSpan
  f2 : Int
  f3 : List GState
def GRun.t (k : Kd) (x : GRun) : List (T Unit) := [tS x.f0] ++ GSpan.t x.f1 ++ [tI x.f2] ++ [.s k () 4 (x.f3.map GState.t)]
instance : Small GRun := ⟨fun x => Small.sm x.f0 ∧ Small.sm x.f1 ∧ Small.sm x.f3⟩
instance : Wf GRun := ⟨fun x => Wf.wf x.f0 ∧ Wf.wf x.f1 ∧ Wf.wf x.f3⟩
structure GBoard where
  f0 : List GSession
  f1 : List GPlan
  f2 : List GRun
  f3 : Int
  f4 : Int
def GBoard.t (k q : Kd) (x : GBoard) : List (T Unit) := [.s k () 3 (x.f0.map GSession.t), .s k () 9 (x.f1.map (GPlan.t q q)), .s k () 5 (x.f2.map (GRun.t q)), tI x.f3, tI x.f4]
instance : Small GBoard := ⟨fun x => Small.sm x.f0 ∧ Small.sm x.f1 ∧ Small.sm x.f2⟩
instance : Wf GBoard := ⟨fun x => Wf.wf x.f0 ∧ Wf.wf x.f1 ∧ Wf.wf x.f2⟩
structure LDag where
  f0 : ByteArray
  f1 : ByteArray
  f2 : Int
  f3 : Int
  f4 : Bool
  f5 : List GTask
def LDag.t (k q : Kd) (x : LDag) : List (T Unit) := [tS x.f0, tS x.f1, tI x.f2, tI x.f3, tB x.f4, .s k () 5 (x.f5.map (GTask.t q))]
instance : Small LDag := ⟨fun x => Small.sm x.f0 ∧ Small.sm x.f1 ∧ Small.sm x.f5⟩
instance : Wf LDag := ⟨fun x => Wf.wf x.f0 ∧ Wf.wf x.f1 ∧ Wf.wf x.f5⟩
structure LPlan where
  f0 : LDag
  f1 : Bool
  f2 : Int
  f3 : Int
def LPlan.t (k q : Kd) (x : LPlan) : List (T Unit) := LDag.t k q x.f0 ++ [tB x.f1] ++ [tI x.f2] ++ [tI x.f3]
instance : Small LPlan := ⟨fun x => Small.sm x.f0⟩
instance : Wf LPlan := ⟨fun x => Wf.wf x.f0⟩
structure LRun where
  f0 : ByteArray
  f1 : GSpan
  f2 : Int
  f3 : List GState
def LRun.t (k : Kd) (x : LRun) : List (T Unit) := [tS x.f0] ++ GSpan.t x.f1 ++ [tI x.f2] ++ [.s k () 4 (x.f3.map GState.t)]
instance : Small LRun := ⟨fun x => Small.sm x.f0 ∧ Small.sm x.f1 ∧ Small.sm x.f3⟩
instance : Wf LRun := ⟨fun x => Wf.wf x.f0 ∧ Wf.wf x.f1 ∧ Wf.wf x.f3⟩
structure LBoard where
  f0 : List GSession
  f1 : List LPlan
  f2 : List LRun
  f3 : Int
  f4 : Int
def LBoard.t (k q : Kd) (x : LBoard) : List (T Unit) := [.s k () 3 (x.f0.map GSession.t), .s k () 9 (x.f1.map (LPlan.t q q)), .s k () 5 (x.f2.map (LRun.t q)), tI x.f3, tI x.f4]
instance : Small LBoard := ⟨fun x => Small.sm x.f0 ∧ Small.sm x.f1 ∧ Small.sm x.f2⟩
instance : Wf LBoard := ⟨fun x => Wf.wf x.f0 ∧ Wf.wf x.f1 ∧ Wf.wf x.f2⟩
theorem l_szSession_P0 (x0 : GSession) (x1 : Int) (h0 : (decide ((IntKind.wrap .i64 (x1 - (x0.f2.size : Int))) < (0 : Int))) = true) : Does E 69 [.agg (GSession.t x0), .one (tI x1)] [(false, [tI (-1 : Int)])] :=
  Does.path (fn := Try.f69) [.no, .b true] [fun _ => (decide ((IntKind.wrap .i64 (x1 - (x0.f2.size : Int))) < (0 : Int))) = true] rfl rfl (fun k => by kernel_rfl) ⟨Ev.c h0, trivial⟩
theorem l_szSession_P1 (x0 : GSession) (x1 : Int) (h0 : (decide ((IntKind.wrap .i64 (x1 - (x0.f2.size : Int))) < (0 : Int))) = false) : Does E 69 [.agg (GSession.t x0), .one (tI x1)] [(false, [tI (IntKind.wrap .i64 (x1 - (x0.f2.size : Int)))])] :=
  Does.path (fn := Try.f69) [.no, .b false] [fun _ => (decide ((IntKind.wrap .i64 (x1 - (x0.f2.size : Int))) < (0 : Int))) = false] rfl rfl (fun k => by kernel_rfl) ⟨Ev.c h0, trivial⟩
noncomputable def l_szSession_F (x0 : GSession) (x1 : Int) : Option (Int) :=
    cond (decide ((IntKind.wrap .i64 (x1 - (x0.f2.size : Int))) < (0 : Int)))
      (some ((-1 : Int)))
      (some (IntKind.wrap .i64 (x1 - (x0.f2.size : Int))))
theorem l_szSession_D (x0 : GSession) (x1 : Int) : Ans (l_szSession_F x0 x1) (fun r => Does E 69 [.agg (GSession.t x0), .one (tI x1)] [(false, [tI r])]) := by
  unfold l_szSession_F
  refine Ans.ite (fun h0 => ?_) (fun h0 => ?_)
  · exact Ans.some (l_szSession_P0 x0 x1 h0)
  · exact Ans.some (l_szSession_P1 x0 x1 h0)
noncomputable def p_l_szSession (x : GSession) (n : Int) : Int := (l_szSession_F x n).getD (-1)
theorem tot_l_szSession (x : GSession) (n : Int) (h : Wf.wf x) : l_szSession_F x n = some (p_l_szSession x n) := by
  have w2 : Wf.wf x.f2 := h
  refine Tot.getD ?_ _
  unfold l_szSession_F
  repeat' (first | exact Tot.some _ | apply Tot.cond | refine Tot.ite (by assumption) ?_)
theorem T_l_szSession (x0 : GSession) (x1 : Int) (h : Wf.wf x0) : Does E 69 [.agg (GSession.t x0), .one (tI x1)] [(false, [tI (p_l_szSession x0 x1)])] := by
  exact l_szSession_D x0 x1 _ (tot_l_szSession x0 x1 h)
theorem le_l_szSession (x : GSession) (n : Int) (hw : Wf.wf x) (h0 : 0 ≤ n) (h1 : n ≤ 1048576) (h : 0 ≤ p_l_szSession x n) : p_l_szSession x n ≤ n ∧ Small.sm x := by
  have e := tot_l_szSession x n hw
  have w2 : Wf.wf x.f2 := hw
  generalize p_l_szSession x n = r at *
  unfold l_szSession_F at e
  obtain ⟨a1, e⟩ := szStep e h
  obtain ⟨b1, c1⟩ := szStr (n := n) (k := x.f2.size) h0 (by omega) w2 a1
  generalize IntKind.wrap .i64 (n - (x.f2.size : Int)) = m1 at *
  cases e
  exact ⟨by omega, small_of c1⟩
inductive l_szSessionS_X0 where
  | ret (v4 : Int)
  | x0 (v1 : Int)
def l_szSessionS_Q0 (v0 : List GSession) (v1 : Int) (v5 : Int) : l_szSessionS_X0 → Prop
  | .ret zv4 => Loops E 35 (lpAt Try.f35 0) (stL 27 [(0, .one (.s .far () 3 (v0.map GSession.t))), (1, .one (tI v1)), (5, .one (tI v5))]) .ret (stL 27 [(4, .one (tI zv4))])
  | .x0 zv1 => Loops E 35 (lpAt Try.f35 0) (stL 27 [(0, .one (.s .far () 3 (v0.map GSession.t))), (1, .one (tI v1)), (5, .one (tI v5))]) (.exit 0) (stL 27 [(1, .one (tI zv1))])
theorem l_szSessionS_R0_0 (v0 : List GSession) (v1 : Int) (v5 : Int) (g0 : GSession) (h0 : (decide (v5 < (v0.length : Int))) = true) (h1 : getI v0 v5 = some g0) (h2 : Wf.wf g0) (h3 : (decide ((p_l_szSession g0 v1) < (0 : Int))) = true) : Round E 35 (lpAt Try.f35 0) (stL 27 [(0, .one (.s .far () 3 (v0.map GSession.t))), (1, .one (tI v1)), (5, .one (tI v5))]) .ret (stL 27 [(4, .one (tI (-1 : Int)))]) :=
  Round.path [.val (.int .i64 (v0.length : Int)), .b true, .row (GSession.t g0), .ret [(false, [tI (p_l_szSession g0 v1)])], .b true] [fun _ => ((v0.map GSession.t).length : Int) = (v0.length : Int), fun _ => (decide (v5 < (v0.length : Int))) = true, fun _ => 0 ≤ v5 ∧ (v0.map GSession.t)[v5.toNat]? = some (GSession.t g0), fun k => E.C k 69 [.agg (GSession.t g0), .one (tI v1)] = some [(false, [tI (p_l_szSession g0 v1)])], fun _ => (decide ((p_l_szSession g0 v1) < (0 : Int))) = true] (fun k => by kernel_rfl) ⟨Ev.c lenMap, Ev.c h0, Ev.c (getRow h1), T_l_szSession g0 v1 h2, Ev.c h3, trivial⟩
theorem l_szSessionS_R0_1 (v0 : List GSession) (v1 : Int) (v5 : Int) (g0 : GSession) (h0 : (decide (v5 < (v0.length : Int))) = true) (h1 : getI v0 v5 = some g0) (h2 : Wf.wf g0) (h3 : (decide ((p_l_szSession g0 v1) < (0 : Int))) = false) : Round E 35 (lpAt Try.f35 0) (stL 27 [(0, .one (.s .far () 3 (v0.map GSession.t))), (1, .one (tI v1)), (5, .one (tI v5))]) .normal (stL 27 [(0, .one (.s .far () 3 (v0.map GSession.t))), (1, .one (tI (p_l_szSession g0 v1))), (5, .one (tI (inc v5)))]) :=
  Round.path [.val (.int .i64 (v0.length : Int)), .b true, .row (GSession.t g0), .ret [(false, [tI (p_l_szSession g0 v1)])], .b false] [fun _ => ((v0.map GSession.t).length : Int) = (v0.length : Int), fun _ => (decide (v5 < (v0.length : Int))) = true, fun _ => 0 ≤ v5 ∧ (v0.map GSession.t)[v5.toNat]? = some (GSession.t g0), fun k => E.C k 69 [.agg (GSession.t g0), .one (tI v1)] = some [(false, [tI (p_l_szSession g0 v1)])], fun _ => (decide ((p_l_szSession g0 v1) < (0 : Int))) = false] (fun k => by kernel_rfl) ⟨Ev.c lenMap, Ev.c h0, Ev.c (getRow h1), T_l_szSession g0 v1 h2, Ev.c h3, trivial⟩
theorem l_szSessionS_R0_2 (v0 : List GSession) (v1 : Int) (v5 : Int) (h0 : (decide (v5 < (v0.length : Int))) = false) : Round E 35 (lpAt Try.f35 0) (stL 27 [(0, .one (.s .far () 3 (v0.map GSession.t))), (1, .one (tI v1)), (5, .one (tI v5))]) (.exit 0) (stL 27 [(1, .one (tI v1))]) :=
  Round.path [.val (.int .i64 (v0.length : Int)), .b false] [fun _ => ((v0.map GSession.t).length : Int) = (v0.length : Int), fun _ => (decide (v5 < (v0.length : Int))) = false] (fun k => by kernel_rfl) ⟨Ev.c lenMap, Ev.c h0, trivial⟩
noncomputable def l_szSessionS_l0  : List GSession → Nat → Int → Option l_szSessionS_X0
  | [], i, v1 => some (.x0 v1)
  | hd :: rest, i, v1 => if Wf.wf hd then cond (decide ((p_l_szSession hd v1) < (0 : Int)))
    (some (.ret (-1 : Int)))
    (l_szSessionS_l0 rest (i + 1) (p_l_szSession hd v1)) else none
theorem l_szSessionS_L0 (v0 : List GSession) (rest : List GSession) : ∀ (i : Nat) (v1 : Int), (v0).drop i = rest → v0.length ≤ 9223372036854775807 → Ans (l_szSessionS_l0 rest i v1) (l_szSessionS_Q0 v0 v1 (i : Int)) := by
  induction rest with
  | nil =>
    intro i v1 hE hl
    have hb := foldEnd hE
    unfold l_szSessionS_l0
    exact Ans.some (Loops.stop (l_szSessionS_R0_2 v0 v1 (i : Int) hb) (by intro h; cases h))
  | cons hd rest ih =>
    intro i v1 hE hl
    have hb := foldMore hE
    have hw := foldNext hE hl
    have hE2 := foldRest hE
    have hg := foldGet hE
    unfold l_szSessionS_l0
    refine Ans.pre (fun h2 => ?_)
    refine Ans.ite (fun h3 => ?_) (fun h3 => ?_)
    · exact Ans.some (Loops.stop (l_szSessionS_R0_0 v0 v1 (i : Int) hd hb hg h2 h3) (by intro h; cases h))
    · exact (ih (i + 1) (p_l_szSession hd v1) hE2 hl).mono fun y hy => by have r := l_szSessionS_R0_1 v0 v1 (i : Int) hd hb hg h2 h3; rw [hw] at r; cases y <;> exact Loops.next r hy
theorem l_szSessionS_P0 (x0 : List GSession) (x1 : Int) (h0 : (decide ((IntKind.wrap .i64 (x1 - (x0.length : Int))) < (0 : Int))) = true) : Does E 35 [.one (.s .far () 3 (x0.map GSession.t)), .one (tI x1)] [(false, [tI (-1 : Int)])] :=
  Does.path (fn := Try.f35) [.val (.int .i64 (x0.length : Int)), .no, .b true] [fun _ => ((x0.map GSession.t).length : Int) = (x0.length : Int), fun _ => (decide ((IntKind.wrap .i64 (x1 - (x0.length : Int))) < (0 : Int))) = true] rfl rfl (fun k => by kernel_rfl) ⟨Ev.c lenMap, Ev.c h0, trivial⟩
theorem l_szSessionS_P1 (x0 : List GSession) (x1 : Int) (w0_4 : Int) (h0 : (decide ((IntKind.wrap .i64 (x1 - (x0.length : Int))) < (0 : Int))) = false) (h1 : Loops E 35 (lpAt Try.f35 0) (stL 27 [(0, .one (.s .far () 3 (x0.map GSession.t))), (1, .one (tI (IntKind.wrap .i64 (x1 - (x0.length : Int))))), (5, .one (tI (0 : Int)))]) .ret (stL 27 [(4, .one (tI w0_4))])) : Does E 35 [.one (.s .far () 3 (x0.map GSession.t)), .one (tI x1)] [(false, [tI w0_4])] :=
  Does.path (fn := Try.f35) [.val (.int .i64 (x0.length : Int)), .no, .b false, .lp .ret (stL 27 [(4, .one (tI w0_4))])] [fun _ => ((x0.map GSession.t).length : Int) = (x0.length : Int), fun _ => (decide ((IntKind.wrap .i64 (x1 - (x0.length : Int))) < (0 : Int))) = false, fun k => LoopK E 35 (lpAt Try.f35 0) (stL 27 [(0, .one (.s .far () 3 (x0.map GSession.t))), (1, .one (tI (IntKind.wrap .i64 (x1 - (x0.length : Int))))), (5, .one (tI (0 : Int)))]) .ret (stL 27 [(4, .one (tI w0_4))]) k k] rfl rfl (fun k => by kernel_rfl) ⟨Ev.c lenMap, Ev.c h0, Loops.ev h1, trivial⟩
theorem l_szSessionS_P2 (x0 : List GSession) (x1 : Int) (w0_1 : Int) (h0 : (decide ((IntKind.wrap .i64 (x1 - (x0.length : Int))) < (0 : Int))) = false) (h1 : Loops E 35 (lpAt Try.f35 0) (stL 27 [(0, .one (.s .far () 3 (x0.map GSession.t))), (1, .one (tI (IntKind.wrap .i64 (x1 - (x0.length : Int))))), (5, .one (tI (0 : Int)))]) (.exit 0) (stL 27 [(1, .one (tI w0_1))])) : Does E 35 [.one (.s .far () 3 (x0.map GSession.t)), .one (tI x1)] [(false, [tI w0_1])] :=
  Does.path (fn := Try.f35) [.val (.int .i64 (x0.length : Int)), .no, .b false, .lp (.exit 0) (stL 27 [(1, .one (tI w0_1))])] [fun _ => ((x0.map GSession.t).length : Int) = (x0.length : Int), fun _ => (decide ((IntKind.wrap .i64 (x1 - (x0.length : Int))) < (0 : Int))) = false, fun k => LoopK E 35 (lpAt Try.f35 0) (stL 27 [(0, .one (.s .far () 3 (x0.map GSession.t))), (1, .one (tI (IntKind.wrap .i64 (x1 - (x0.length : Int))))), (5, .one (tI (0 : Int)))]) (.exit 0) (stL 27 [(1, .one (tI w0_1))]) k k] rfl rfl (fun k => by kernel_rfl) ⟨Ev.c lenMap, Ev.c h0, Loops.ev h1, trivial⟩
noncomputable def l_szSessionS_F (x0 : List GSession) (x1 : Int) : Option (Int) :=
    cond (decide ((IntKind.wrap .i64 (x1 - (x0.length : Int))) < (0 : Int)))
      (some ((-1 : Int)))
      (if x0.length ≤ 9223372036854775807 then (l_szSessionS_l0 x0 0 (IntKind.wrap .i64 (x1 - (x0.length : Int)))).bind fun y => match y with
        | .ret w0_4 => (some (w0_4))
        | .x0 w0_1 => (some (w0_1)) else none)
theorem l_szSessionS_D (x0 : List GSession) (x1 : Int) : Ans (l_szSessionS_F x0 x1) (fun r => Does E 35 [.one (.s .far () 3 (x0.map GSession.t)), .one (tI x1)] [(false, [tI r])]) := by
  unfold l_szSessionS_F
  refine Ans.ite (fun h0 => ?_) (fun h0 => ?_)
  · exact Ans.some (l_szSessionS_P0 x0 x1 h0)
  · refine Ans.pre (fun hl2 => ?_)
    refine Ans.bind (fun y hy => ?_)
    replace hy := l_szSessionS_L0 x0 x0 0 (IntKind.wrap .i64 (x1 - (x0.length : Int))) rfl hl2 y hy
    cases y with
    | ret w0_4 =>
      have h1 := hy
      exact Ans.some (l_szSessionS_P1 x0 x1 w0_4 h0 h1)
    | x0 w0_1 =>
      have h1 := hy
      exact Ans.some (l_szSessionS_P2 x0 x1 w0_1 h0 h1)
noncomputable def p_l_szSessionS (x : List GSession) (n : Int) : Int := (l_szSessionS_F x n).getD (-1)
theorem tl_l_szSessionS : ∀ (rest : List GSession) (i : Nat) (n : Int), (∀ y ∈ rest, Wf.wf y) → Tot (l_szSessionS_l0 rest i n)
  | [], i, n, _ => Tot.some _
  | x :: rest, i, n, h => by
    have hx := h x (by simp)
    have ih := fun i n => tl_l_szSessionS rest i n fun y hy => h y (by simp [hy])
    unfold l_szSessionS_l0
    repeat' (first | exact Tot.some _ | exact ih _ _ | apply Tot.cond | refine Tot.ite (by assumption) ?_)
theorem tot_l_szSessionS (x : List GSession) (n : Int) (h : Wf.wf x) : l_szSessionS_F x n = some (p_l_szSessionS x n) := by
  refine Tot.getD ?_ _
  unfold l_szSessionS_F
  refine Tot.cond (Tot.some _) ?_
  refine Tot.ite h.1 (Tot.bind (tl_l_szSessionS x 0 _ h.2) fun y hy => ?_)
  cases y <;> exact Tot.some _
theorem T_l_szSessionS (x0 : List GSession) (x1 : Int) (h : Wf.wf x0) : Does E 35 [.one (.s .far () 3 (x0.map GSession.t)), .one (tI x1)] [(false, [tI (p_l_szSessionS x0 x1)])] := by
  exact l_szSessionS_D x0 x1 _ (tot_l_szSessionS x0 x1 h)
theorem lel_l_szSessionS : ∀ (rest : List GSession) (i : Nat) (n : Int), (∀ y ∈ rest, Wf.wf y) → 0 ≤ n → n ≤ 1048576 → ∀ y, l_szSessionS_l0 rest i n = some y →
    (∃ m, y = .x0 m ∧ 0 ≤ m ∧ m ≤ n ∧ ∀ z ∈ rest, Small.sm z) ∨ ∃ m, y = .ret m ∧ m < 0
  | [], i, n, _, h0, h1, y, e => by cases e; exact .inl ⟨n, rfl, h0, Int.le_refl _, fun z hz => by cases hz⟩
  | x :: rest, i, n, h, h0, h1, y, e => by
    have hx := h x (by simp)
    unfold l_szSessionS_l0 at e
    try rw [if_pos hx] at e
    by_cases q : p_l_szSession x n < 0
    · rw [decide_eq_true q, cond_true] at e
      cases e
      exact .inr ⟨_, rfl, by omega⟩
    · rw [decide_eq_false q, cond_false] at e
      try rw [if_pos hx] at e
      obtain ⟨b, c⟩ := le_l_szSession x n hx h0 h1 (by omega)
      rcases lel_l_szSessionS rest _ _ (fun y hy => h y (by simp [hy])) (by omega) (by omega) y e with ⟨m, g1, g2, g3, g4⟩ | g
      · refine .inl ⟨m, g1, g2, by omega, fun z hz => ?_⟩
        rcases List.mem_cons.1 hz with rfl | hz
        · exact c
        · exact g4 z hz
      · exact .inr g
theorem le_l_szSessionS (x : List GSession) (n : Int) (hw : Wf.wf x) (h0 : 0 ≤ n) (h1 : n ≤ 1048576) (h : 0 ≤ p_l_szSessionS x n) : p_l_szSessionS x n ≤ n ∧ Small.sm x := by
  have e := tot_l_szSessionS x n hw
  generalize p_l_szSessionS x n = r at *
  unfold l_szSessionS_F at e
  obtain ⟨a1, e⟩ := szStep e h
  obtain ⟨b1, c1⟩ := szStr (n := n) (k := x.length) h0 h1 hw.1 a1
  rw [if_pos hw.1, Option.bind_eq_some_iff] at e
  obtain ⟨y, e1, e2⟩ := e
  rcases lel_l_szSessionS x 0 _ hw.2 a1 (by omega) y e1 with ⟨m, rfl, g2, g3, g4⟩ | ⟨m, rfl, g⟩
  · cases e2; exact ⟨by omega, small_of c1, g4⟩
  · cases e2; omega
inductive l_szStringS_X0 where
  | ret (v4 : Int)
  | x0 (v1 : Int)
def l_szStringS_Q0 (v0 : List ByteArray) (v1 : Int) (v5 : Int) : l_szStringS_X0 → Prop
  | .ret zv4 => Loops E 122 (lpAt Try.f122 0) (stL 28 [(0, .one (.s .far () 1 (v0.map etS))), (1, .one (tI v1)), (5, .one (tI v5))]) .ret (stL 28 [(4, .one (tI zv4))])
  | .x0 zv1 => Loops E 122 (lpAt Try.f122 0) (stL 28 [(0, .one (.s .far () 1 (v0.map etS))), (1, .one (tI v1)), (5, .one (tI v5))]) (.exit 0) (stL 28 [(1, .one (tI zv1))])
theorem l_szStringS_R0_0 (v0 : List ByteArray) (v1 : Int) (v5 : Int) (g0 : ByteArray) (h0 : (decide (v5 < (v0.length : Int))) = true) (h1 : getI v0 v5 = some g0) (h2 : (decide ((IntKind.wrap .i64 (v1 - (g0.size : Int))) < (0 : Int))) = true) : Round E 122 (lpAt Try.f122 0) (stL 28 [(0, .one (.s .far () 1 (v0.map etS))), (1, .one (tI v1)), (5, .one (tI v5))]) .ret (stL 28 [(4, .one (tI (-1 : Int)))]) :=
  Round.path [.val (.int .i64 (v0.length : Int)), .b true, .row (etS g0), .no, .b true] [fun _ => ((v0.map etS).length : Int) = (v0.length : Int), fun _ => (decide (v5 < (v0.length : Int))) = true, fun _ => 0 ≤ v5 ∧ (v0.map etS)[v5.toNat]? = some (etS g0), fun _ => (decide ((IntKind.wrap .i64 (v1 - (g0.size : Int))) < (0 : Int))) = true] (fun k => by kernel_rfl) ⟨Ev.c lenMap, Ev.c h0, Ev.c (getRow h1), Ev.c h2, trivial⟩
theorem l_szStringS_R0_1 (v0 : List ByteArray) (v1 : Int) (v5 : Int) (g0 : ByteArray) (h0 : (decide (v5 < (v0.length : Int))) = true) (h1 : getI v0 v5 = some g0) (h2 : (decide ((IntKind.wrap .i64 (v1 - (g0.size : Int))) < (0 : Int))) = false) : Round E 122 (lpAt Try.f122 0) (stL 28 [(0, .one (.s .far () 1 (v0.map etS))), (1, .one (tI v1)), (5, .one (tI v5))]) .normal (stL 28 [(0, .one (.s .far () 1 (v0.map etS))), (1, .one (tI (IntKind.wrap .i64 (v1 - (g0.size : Int))))), (5, .one (tI (inc v5)))]) :=
  Round.path [.val (.int .i64 (v0.length : Int)), .b true, .row (etS g0), .no, .b false] [fun _ => ((v0.map etS).length : Int) = (v0.length : Int), fun _ => (decide (v5 < (v0.length : Int))) = true, fun _ => 0 ≤ v5 ∧ (v0.map etS)[v5.toNat]? = some (etS g0), fun _ => (decide ((IntKind.wrap .i64 (v1 - (g0.size : Int))) < (0 : Int))) = false] (fun k => by kernel_rfl) ⟨Ev.c lenMap, Ev.c h0, Ev.c (getRow h1), Ev.c h2, trivial⟩
theorem l_szStringS_R0_2 (v0 : List ByteArray) (v1 : Int) (v5 : Int) (h0 : (decide (v5 < (v0.length : Int))) = false) : Round E 122 (lpAt Try.f122 0) (stL 28 [(0, .one (.s .far () 1 (v0.map etS))), (1, .one (tI v1)), (5, .one (tI v5))]) (.exit 0) (stL 28 [(1, .one (tI v1))]) :=
  Round.path [.val (.int .i64 (v0.length : Int)), .b false] [fun _ => ((v0.map etS).length : Int) = (v0.length : Int), fun _ => (decide (v5 < (v0.length : Int))) = false] (fun k => by kernel_rfl) ⟨Ev.c lenMap, Ev.c h0, trivial⟩
noncomputable def l_szStringS_l0  : List ByteArray → Nat → Int → Option l_szStringS_X0
  | [], i, v1 => some (.x0 v1)
  | hd :: rest, i, v1 => cond (decide ((IntKind.wrap .i64 (v1 - (hd.size : Int))) < (0 : Int)))
    (some (.ret (-1 : Int)))
    (l_szStringS_l0 rest (i + 1) (IntKind.wrap .i64 (v1 - (hd.size : Int))))
theorem l_szStringS_L0 (v0 : List ByteArray) (rest : List ByteArray) : ∀ (i : Nat) (v1 : Int), (v0).drop i = rest → v0.length ≤ 9223372036854775807 → Ans (l_szStringS_l0 rest i v1) (l_szStringS_Q0 v0 v1 (i : Int)) := by
  induction rest with
  | nil =>
    intro i v1 hE hl
    have hb := foldEnd hE
    unfold l_szStringS_l0
    exact Ans.some (Loops.stop (l_szStringS_R0_2 v0 v1 (i : Int) hb) (by intro h; cases h))
  | cons hd rest ih =>
    intro i v1 hE hl
    have hb := foldMore hE
    have hw := foldNext hE hl
    have hE2 := foldRest hE
    have hg := foldGet hE
    unfold l_szStringS_l0
    refine Ans.ite (fun h2 => ?_) (fun h2 => ?_)
    · exact Ans.some (Loops.stop (l_szStringS_R0_0 v0 v1 (i : Int) hd hb hg h2) (by intro h; cases h))
    · exact (ih (i + 1) (IntKind.wrap .i64 (v1 - (hd.size : Int))) hE2 hl).mono fun y hy => by have r := l_szStringS_R0_1 v0 v1 (i : Int) hd hb hg h2; rw [hw] at r; cases y <;> exact Loops.next r hy
theorem l_szStringS_P0 (x0 : List ByteArray) (x1 : Int) (h0 : (decide ((IntKind.wrap .i64 (x1 - (x0.length : Int))) < (0 : Int))) = true) : Does E 122 [.one (.s .far () 1 (x0.map etS)), .one (tI x1)] [(false, [tI (-1 : Int)])] :=
  Does.path (fn := Try.f122) [.val (.int .i64 (x0.length : Int)), .no, .b true] [fun _ => ((x0.map etS).length : Int) = (x0.length : Int), fun _ => (decide ((IntKind.wrap .i64 (x1 - (x0.length : Int))) < (0 : Int))) = true] rfl rfl (fun k => by kernel_rfl) ⟨Ev.c lenMap, Ev.c h0, trivial⟩
theorem l_szStringS_P1 (x0 : List ByteArray) (x1 : Int) (w0_4 : Int) (h0 : (decide ((IntKind.wrap .i64 (x1 - (x0.length : Int))) < (0 : Int))) = false) (h1 : Loops E 122 (lpAt Try.f122 0) (stL 28 [(0, .one (.s .far () 1 (x0.map etS))), (1, .one (tI (IntKind.wrap .i64 (x1 - (x0.length : Int))))), (5, .one (tI (0 : Int)))]) .ret (stL 28 [(4, .one (tI w0_4))])) : Does E 122 [.one (.s .far () 1 (x0.map etS)), .one (tI x1)] [(false, [tI w0_4])] :=
  Does.path (fn := Try.f122) [.val (.int .i64 (x0.length : Int)), .no, .b false, .lp .ret (stL 28 [(4, .one (tI w0_4))])] [fun _ => ((x0.map etS).length : Int) = (x0.length : Int), fun _ => (decide ((IntKind.wrap .i64 (x1 - (x0.length : Int))) < (0 : Int))) = false, fun k => LoopK E 122 (lpAt Try.f122 0) (stL 28 [(0, .one (.s .far () 1 (x0.map etS))), (1, .one (tI (IntKind.wrap .i64 (x1 - (x0.length : Int))))), (5, .one (tI (0 : Int)))]) .ret (stL 28 [(4, .one (tI w0_4))]) k k] rfl rfl (fun k => by kernel_rfl) ⟨Ev.c lenMap, Ev.c h0, Loops.ev h1, trivial⟩
theorem l_szStringS_P2 (x0 : List ByteArray) (x1 : Int) (w0_1 : Int) (h0 : (decide ((IntKind.wrap .i64 (x1 - (x0.length : Int))) < (0 : Int))) = false) (h1 : Loops E 122 (lpAt Try.f122 0) (stL 28 [(0, .one (.s .far () 1 (x0.map etS))), (1, .one (tI (IntKind.wrap .i64 (x1 - (x0.length : Int))))), (5, .one (tI (0 : Int)))]) (.exit 0) (stL 28 [(1, .one (tI w0_1))])) : Does E 122 [.one (.s .far () 1 (x0.map etS)), .one (tI x1)] [(false, [tI w0_1])] :=
  Does.path (fn := Try.f122) [.val (.int .i64 (x0.length : Int)), .no, .b false, .lp (.exit 0) (stL 28 [(1, .one (tI w0_1))])] [fun _ => ((x0.map etS).length : Int) = (x0.length : Int), fun _ => (decide ((IntKind.wrap .i64 (x1 - (x0.length : Int))) < (0 : Int))) = false, fun k => LoopK E 122 (lpAt Try.f122 0) (stL 28 [(0, .one (.s .far () 1 (x0.map etS))), (1, .one (tI (IntKind.wrap .i64 (x1 - (x0.length : Int))))), (5, .one (tI (0 : Int)))]) (.exit 0) (stL 28 [(1, .one (tI w0_1))]) k k] rfl rfl (fun k => by kernel_rfl) ⟨Ev.c lenMap, Ev.c h0, Loops.ev h1, trivial⟩
noncomputable def l_szStringS_F (x0 : List ByteArray) (x1 : Int) : Option (Int) :=
    cond (decide ((IntKind.wrap .i64 (x1 - (x0.length : Int))) < (0 : Int)))
      (some ((-1 : Int)))
      (if x0.length ≤ 9223372036854775807 then (l_szStringS_l0 x0 0 (IntKind.wrap .i64 (x1 - (x0.length : Int)))).bind fun y => match y with
        | .ret w0_4 => (some (w0_4))
        | .x0 w0_1 => (some (w0_1)) else none)
theorem l_szStringS_D (x0 : List ByteArray) (x1 : Int) : Ans (l_szStringS_F x0 x1) (fun r => Does E 122 [.one (.s .far () 1 (x0.map etS)), .one (tI x1)] [(false, [tI r])]) := by
  unfold l_szStringS_F
  refine Ans.ite (fun h0 => ?_) (fun h0 => ?_)
  · exact Ans.some (l_szStringS_P0 x0 x1 h0)
  · refine Ans.pre (fun hl2 => ?_)
    refine Ans.bind (fun y hy => ?_)
    replace hy := l_szStringS_L0 x0 x0 0 (IntKind.wrap .i64 (x1 - (x0.length : Int))) rfl hl2 y hy
    cases y with
    | ret w0_4 =>
      have h1 := hy
      exact Ans.some (l_szStringS_P1 x0 x1 w0_4 h0 h1)
    | x0 w0_1 =>
      have h1 := hy
      exact Ans.some (l_szStringS_P2 x0 x1 w0_1 h0 h1)
noncomputable def p_l_szStringS (x : List ByteArray) (n : Int) : Int := (l_szStringS_F x n).getD (-1)
theorem tl_l_szStringS : ∀ (rest : List ByteArray) (i : Nat) (n : Int), (∀ y ∈ rest, Wf.wf y) → Tot (l_szStringS_l0 rest i n)
  | [], i, n, _ => Tot.some _
  | x :: rest, i, n, h => by
    have hx := h x (by simp)
    have ih := fun i n => tl_l_szStringS rest i n fun y hy => h y (by simp [hy])
    unfold l_szStringS_l0
    repeat' (first | exact Tot.some _ | exact ih _ _ | apply Tot.cond | refine Tot.ite (by assumption) ?_)
theorem tot_l_szStringS (x : List ByteArray) (n : Int) (h : Wf.wf x) : l_szStringS_F x n = some (p_l_szStringS x n) := by
  refine Tot.getD ?_ _
  unfold l_szStringS_F
  refine Tot.cond (Tot.some _) ?_
  refine Tot.ite h.1 (Tot.bind (tl_l_szStringS x 0 _ h.2) fun y hy => ?_)
  cases y <;> exact Tot.some _
theorem T_l_szStringS (x0 : List ByteArray) (x1 : Int) (h : Wf.wf x0) : Does E 122 [.one (.s .far () 1 (x0.map etS)), .one (tI x1)] [(false, [tI (p_l_szStringS x0 x1)])] := by
  exact l_szStringS_D x0 x1 _ (tot_l_szStringS x0 x1 h)
theorem lel_l_szStringS : ∀ (rest : List ByteArray) (i : Nat) (n : Int), (∀ y ∈ rest, Wf.wf y) → 0 ≤ n → n ≤ 1048576 → ∀ y, l_szStringS_l0 rest i n = some y →
    (∃ m, y = .x0 m ∧ 0 ≤ m ∧ m ≤ n ∧ ∀ z ∈ rest, Small.sm z) ∨ ∃ m, y = .ret m ∧ m < 0
  | [], i, n, _, h0, h1, y, e => by cases e; exact .inl ⟨n, rfl, h0, Int.le_refl _, fun z hz => by cases hz⟩
  | x :: rest, i, n, h, h0, h1, y, e => by
    have hx := h x (by simp)
    unfold l_szStringS_l0 at e
    try rw [if_pos hx] at e
    by_cases q : IntKind.wrap .i64 (n - (x.size : Int)) < 0
    · rw [decide_eq_true q, cond_true] at e
      cases e
      exact .inr ⟨_, rfl, by omega⟩
    · rw [decide_eq_false q, cond_false] at e
      try rw [if_pos hx] at e
      obtain ⟨b, c⟩ := szStr h0 h1 hx (by omega)
      rcases lel_l_szStringS rest _ _ (fun y hy => h y (by simp [hy])) (by omega) (by omega) y e with ⟨m, g1, g2, g3, g4⟩ | g
      · refine .inl ⟨m, g1, g2, by omega, fun z hz => ?_⟩
        rcases List.mem_cons.1 hz with rfl | hz
        · exact small_of c
        · exact g4 z hz
      · exact .inr g
theorem le_l_szStringS (x : List ByteArray) (n : Int) (hw : Wf.wf x) (h0 : 0 ≤ n) (h1 : n ≤ 1048576) (h : 0 ≤ p_l_szStringS x n) : p_l_szStringS x n ≤ n ∧ Small.sm x := by
  have e := tot_l_szStringS x n hw
  generalize p_l_szStringS x n = r at *
  unfold l_szStringS_F at e
  obtain ⟨a1, e⟩ := szStep e h
  obtain ⟨b1, c1⟩ := szStr (n := n) (k := x.length) h0 h1 hw.1 a1
  rw [if_pos hw.1, Option.bind_eq_some_iff] at e
  obtain ⟨y, e1, e2⟩ := e
  rcases lel_l_szStringS x 0 _ hw.2 a1 (by omega) y e1 with ⟨m, rfl, g2, g3, g4⟩ | ⟨m, rfl, g⟩
  · cases e2; exact ⟨by omega, small_of c1, g4⟩
  · cases e2; omega
theorem l_szTask_P0 (x0 : GTask) (x1 : Int) (h0 : (decide ((IntKind.wrap .i64 (x1 - (x0.f0.size : Int))) < (0 : Int))) = true) : Does E 118 [.agg (GTask.t .far x0), .one (tI x1)] [(false, [tI (-1 : Int)])] :=
  Does.path (fn := Try.f118) [.no, .b true] [fun _ => (decide ((IntKind.wrap .i64 (x1 - (x0.f0.size : Int))) < (0 : Int))) = true] rfl rfl (fun k => by kernel_rfl) ⟨Ev.c h0, trivial⟩
theorem l_szTask_P1 (x0 : GTask) (x1 : Int) (h0 : (decide ((IntKind.wrap .i64 (x1 - (x0.f0.size : Int))) < (0 : Int))) = false) (h1 : (decide ((IntKind.wrap .i64 ((IntKind.wrap .i64 (x1 - (x0.f0.size : Int))) - (x0.f1.size : Int))) < (0 : Int))) = true) : Does E 118 [.agg (GTask.t .far x0), .one (tI x1)] [(false, [tI (-1 : Int)])] :=
  Does.path (fn := Try.f118) [.no, .b false, .no, .b true] [fun _ => (decide ((IntKind.wrap .i64 (x1 - (x0.f0.size : Int))) < (0 : Int))) = false, fun _ => (decide ((IntKind.wrap .i64 ((IntKind.wrap .i64 (x1 - (x0.f0.size : Int))) - (x0.f1.size : Int))) < (0 : Int))) = true] rfl rfl (fun k => by kernel_rfl) ⟨Ev.c h0, Ev.c h1, trivial⟩
theorem l_szTask_P2 (x0 : GTask) (x1 : Int) (h0 : (decide ((IntKind.wrap .i64 (x1 - (x0.f0.size : Int))) < (0 : Int))) = false) (h1 : (decide ((IntKind.wrap .i64 ((IntKind.wrap .i64 (x1 - (x0.f0.size : Int))) - (x0.f1.size : Int))) < (0 : Int))) = false) (h2 : Wf.wf x0.f4) (h3 : (decide ((p_l_szStringS x0.f4 (IntKind.wrap .i64 ((IntKind.wrap .i64 (x1 - (x0.f0.size : Int))) - (x0.f1.size : Int)))) < (0 : Int))) = true) : Does E 118 [.agg (GTask.t .far x0), .one (tI x1)] [(false, [tI (-1 : Int)])] :=
  Does.path (fn := Try.f118) [.no, .b false, .no, .b false, .ret [(false, [tI (p_l_szStringS x0.f4 (IntKind.wrap .i64 ((IntKind.wrap .i64 (x1 - (x0.f0.size : Int))) - (x0.f1.size : Int))))])], .b true] [fun _ => (decide ((IntKind.wrap .i64 (x1 - (x0.f0.size : Int))) < (0 : Int))) = false, fun _ => (decide ((IntKind.wrap .i64 ((IntKind.wrap .i64 (x1 - (x0.f0.size : Int))) - (x0.f1.size : Int))) < (0 : Int))) = false, fun k => E.C k 122 [.one (.s .far () 1 (x0.f4.map etS)), .one (tI (IntKind.wrap .i64 ((IntKind.wrap .i64 (x1 - (x0.f0.size : Int))) - (x0.f1.size : Int))))] = some [(false, [tI (p_l_szStringS x0.f4 (IntKind.wrap .i64 ((IntKind.wrap .i64 (x1 - (x0.f0.size : Int))) - (x0.f1.size : Int))))])], fun _ => (decide ((p_l_szStringS x0.f4 (IntKind.wrap .i64 ((IntKind.wrap .i64 (x1 - (x0.f0.size : Int))) - (x0.f1.size : Int)))) < (0 : Int))) = true] rfl rfl (fun k => by kernel_rfl) ⟨Ev.c h0, Ev.c h1, T_l_szStringS x0.f4 (IntKind.wrap .i64 ((IntKind.wrap .i64 (x1 - (x0.f0.size : Int))) - (x0.f1.size : Int))) h2, Ev.c h3, trivial⟩
theorem l_szTask_P3 (x0 : GTask) (x1 : Int) (h0 : (decide ((IntKind.wrap .i64 (x1 - (x0.f0.size : Int))) < (0 : Int))) = false) (h1 : (decide ((IntKind.wrap .i64 ((IntKind.wrap .i64 (x1 - (x0.f0.size : Int))) - (x0.f1.size : Int))) < (0 : Int))) = false) (h2 : Wf.wf x0.f4) (h3 : (decide ((p_l_szStringS x0.f4 (IntKind.wrap .i64 ((IntKind.wrap .i64 (x1 - (x0.f0.size : Int))) - (x0.f1.size : Int)))) < (0 : Int))) = false) : Does E 118 [.agg (GTask.t .far x0), .one (tI x1)] [(false, [tI (p_l_szStringS x0.f4 (IntKind.wrap .i64 ((IntKind.wrap .i64 (x1 - (x0.f0.size : Int))) - (x0.f1.size : Int))))])] :=
  Does.path (fn := Try.f118) [.no, .b false, .no, .b false, .ret [(false, [tI (p_l_szStringS x0.f4 (IntKind.wrap .i64 ((IntKind.wrap .i64 (x1 - (x0.f0.size : Int))) - (x0.f1.size : Int))))])], .b false] [fun _ => (decide ((IntKind.wrap .i64 (x1 - (x0.f0.size : Int))) < (0 : Int))) = false, fun _ => (decide ((IntKind.wrap .i64 ((IntKind.wrap .i64 (x1 - (x0.f0.size : Int))) - (x0.f1.size : Int))) < (0 : Int))) = false, fun k => E.C k 122 [.one (.s .far () 1 (x0.f4.map etS)), .one (tI (IntKind.wrap .i64 ((IntKind.wrap .i64 (x1 - (x0.f0.size : Int))) - (x0.f1.size : Int))))] = some [(false, [tI (p_l_szStringS x0.f4 (IntKind.wrap .i64 ((IntKind.wrap .i64 (x1 - (x0.f0.size : Int))) - (x0.f1.size : Int))))])], fun _ => (decide ((p_l_szStringS x0.f4 (IntKind.wrap .i64 ((IntKind.wrap .i64 (x1 - (x0.f0.size : Int))) - (x0.f1.size : Int)))) < (0 : Int))) = false] rfl rfl (fun k => by kernel_rfl) ⟨Ev.c h0, Ev.c h1, T_l_szStringS x0.f4 (IntKind.wrap .i64 ((IntKind.wrap .i64 (x1 - (x0.f0.size : Int))) - (x0.f1.size : Int))) h2, Ev.c h3, trivial⟩
noncomputable def l_szTask_F (x0 : GTask) (x1 : Int) : Option (Int) :=
    cond (decide ((IntKind.wrap .i64 (x1 - (x0.f0.size : Int))) < (0 : Int)))
      (some ((-1 : Int)))
      (cond (decide ((IntKind.wrap .i64 ((IntKind.wrap .i64 (x1 - (x0.f0.size : Int))) - (x0.f1.size : Int))) < (0 : Int)))
        (some ((-1 : Int)))
        (if Wf.wf x0.f4 then cond (decide ((p_l_szStringS x0.f4 (IntKind.wrap .i64 ((IntKind.wrap .i64 (x1 - (x0.f0.size : Int))) - (x0.f1.size : Int)))) < (0 : Int)))
          (some ((-1 : Int)))
          (some (p_l_szStringS x0.f4 (IntKind.wrap .i64 ((IntKind.wrap .i64 (x1 - (x0.f0.size : Int))) - (x0.f1.size : Int))))) else none))
theorem l_szTask_D (x0 : GTask) (x1 : Int) : Ans (l_szTask_F x0 x1) (fun r => Does E 118 [.agg (GTask.t .far x0), .one (tI x1)] [(false, [tI r])]) := by
  unfold l_szTask_F
  refine Ans.ite (fun h0 => ?_) (fun h0 => ?_)
  · exact Ans.some (l_szTask_P0 x0 x1 h0)
  · refine Ans.ite (fun h1 => ?_) (fun h1 => ?_)
    · exact Ans.some (l_szTask_P1 x0 x1 h0 h1)
    · refine Ans.pre (fun h2 => ?_)
      refine Ans.ite (fun h3 => ?_) (fun h3 => ?_)
      · exact Ans.some (l_szTask_P2 x0 x1 h0 h1 h2 h3)
      · exact Ans.some (l_szTask_P3 x0 x1 h0 h1 h2 h3)
noncomputable def p_l_szTask (x : GTask) (n : Int) : Int := (l_szTask_F x n).getD (-1)
theorem tot_l_szTask (x : GTask) (n : Int) (h : Wf.wf x) : l_szTask_F x n = some (p_l_szTask x n) := by
  obtain ⟨w0, w1, w4⟩ := h
  refine Tot.getD ?_ _
  unfold l_szTask_F
  repeat' (first | exact Tot.some _ | apply Tot.cond | refine Tot.ite (by assumption) ?_)
theorem T_l_szTask (x0 : GTask) (x1 : Int) (h : Wf.wf x0) : Does E 118 [.agg (GTask.t .far x0), .one (tI x1)] [(false, [tI (p_l_szTask x0 x1)])] := by
  exact l_szTask_D x0 x1 _ (tot_l_szTask x0 x1 h)
theorem le_l_szTask (x : GTask) (n : Int) (hw : Wf.wf x) (h0 : 0 ≤ n) (h1 : n ≤ 1048576) (h : 0 ≤ p_l_szTask x n) : p_l_szTask x n ≤ n ∧ Small.sm x := by
  have e := tot_l_szTask x n hw
  obtain ⟨w0, w1, w4⟩ := hw
  generalize p_l_szTask x n = r at *
  unfold l_szTask_F at e
  obtain ⟨a1, e⟩ := szStep e h
  obtain ⟨b1, c1⟩ := szStr (n := n) (k := x.f0.size) h0 (by omega) w0 a1
  generalize IntKind.wrap .i64 (n - (x.f0.size : Int)) = m1 at *
  obtain ⟨a2, e⟩ := szStep e h
  obtain ⟨b2, c2⟩ := szStr (n := m1) (k := x.f1.size) a1 (by omega) w1 a2
  generalize IntKind.wrap .i64 (m1 - (x.f1.size : Int)) = m2 at *
  try rw [if_pos w4] at e
  obtain ⟨a3, e⟩ := szStep e h
  try rw [if_pos w4] at e
  obtain ⟨b3, c3⟩ := le_l_szStringS x.f4 m2 w4 a2 (by omega) a3
  generalize p_l_szStringS x.f4 m2 = m3 at *
  cases e
  exact ⟨by omega, ⟨small_of c1, small_of c2, c3⟩⟩
inductive l_szTaskS_X0 where
  | ret (v4 : Int)
  | x0 (v1 : Int)
def l_szTaskS_Q0 {q0 : Kd} (v0 : List GTask) (v1 : Int) (v5 : Int) : l_szTaskS_X0 → Prop
  | .ret zv4 => Loops E 110 (lpAt Try.f110 0) (stL 27 [(0, .one (.s .far () 5 (v0.map (GTask.t q0)))), (1, .one (tI v1)), (5, .one (tI v5))]) .ret (stL 27 [(4, .one (tI zv4))])
  | .x0 zv1 => Loops E 110 (lpAt Try.f110 0) (stL 27 [(0, .one (.s .far () 5 (v0.map (GTask.t q0)))), (1, .one (tI v1)), (5, .one (tI v5))]) (.exit 0) (stL 27 [(1, .one (tI zv1))])
theorem l_szTaskS_R0_0 {q0 : Kd} (v0 : List GTask) (v1 : Int) (v5 : Int) (g0 : GTask) (h0 : (decide (v5 < (v0.length : Int))) = true) (h1 : getI v0 v5 = some g0) (h2 : Wf.wf g0) (h3 : (decide ((p_l_szTask g0 v1) < (0 : Int))) = true) : Round E 110 (lpAt Try.f110 0) (stL 27 [(0, .one (.s .far () 5 (v0.map (GTask.t q0)))), (1, .one (tI v1)), (5, .one (tI v5))]) .ret (stL 27 [(4, .one (tI (-1 : Int)))]) :=
  Round.path [.val (.int .i64 (v0.length : Int)), .b true, .row ((GTask.t q0) g0), .ret [(false, [tI (p_l_szTask g0 v1)])], .b true] [fun _ => ((v0.map (GTask.t q0)).length : Int) = (v0.length : Int), fun _ => (decide (v5 < (v0.length : Int))) = true, fun _ => 0 ≤ v5 ∧ (v0.map (GTask.t q0))[v5.toNat]? = some ((GTask.t q0) g0), fun k => E.C k 118 [.agg (GTask.t .far g0), .one (tI v1)] = some [(false, [tI (p_l_szTask g0 v1)])], fun _ => (decide ((p_l_szTask g0 v1) < (0 : Int))) = true] (fun k => by kernel_rfl) ⟨Ev.c lenMap, Ev.c h0, Ev.c (getRow h1), T_l_szTask g0 v1 h2, Ev.c h3, trivial⟩
theorem l_szTaskS_R0_1 {q0 : Kd} (v0 : List GTask) (v1 : Int) (v5 : Int) (g0 : GTask) (h0 : (decide (v5 < (v0.length : Int))) = true) (h1 : getI v0 v5 = some g0) (h2 : Wf.wf g0) (h3 : (decide ((p_l_szTask g0 v1) < (0 : Int))) = false) : Round E 110 (lpAt Try.f110 0) (stL 27 [(0, .one (.s .far () 5 (v0.map (GTask.t q0)))), (1, .one (tI v1)), (5, .one (tI v5))]) .normal (stL 27 [(0, .one (.s .far () 5 (v0.map (GTask.t q0)))), (1, .one (tI (p_l_szTask g0 v1))), (5, .one (tI (inc v5)))]) :=
  Round.path [.val (.int .i64 (v0.length : Int)), .b true, .row ((GTask.t q0) g0), .ret [(false, [tI (p_l_szTask g0 v1)])], .b false] [fun _ => ((v0.map (GTask.t q0)).length : Int) = (v0.length : Int), fun _ => (decide (v5 < (v0.length : Int))) = true, fun _ => 0 ≤ v5 ∧ (v0.map (GTask.t q0))[v5.toNat]? = some ((GTask.t q0) g0), fun k => E.C k 118 [.agg (GTask.t .far g0), .one (tI v1)] = some [(false, [tI (p_l_szTask g0 v1)])], fun _ => (decide ((p_l_szTask g0 v1) < (0 : Int))) = false] (fun k => by kernel_rfl) ⟨Ev.c lenMap, Ev.c h0, Ev.c (getRow h1), T_l_szTask g0 v1 h2, Ev.c h3, trivial⟩
theorem l_szTaskS_R0_2 {q0 : Kd} (v0 : List GTask) (v1 : Int) (v5 : Int) (h0 : (decide (v5 < (v0.length : Int))) = false) : Round E 110 (lpAt Try.f110 0) (stL 27 [(0, .one (.s .far () 5 (v0.map (GTask.t q0)))), (1, .one (tI v1)), (5, .one (tI v5))]) (.exit 0) (stL 27 [(1, .one (tI v1))]) :=
  Round.path [.val (.int .i64 (v0.length : Int)), .b false] [fun _ => ((v0.map (GTask.t q0)).length : Int) = (v0.length : Int), fun _ => (decide (v5 < (v0.length : Int))) = false] (fun k => by kernel_rfl) ⟨Ev.c lenMap, Ev.c h0, trivial⟩
noncomputable def l_szTaskS_l0  : List GTask → Nat → Int → Option l_szTaskS_X0
  | [], i, v1 => some (.x0 v1)
  | hd :: rest, i, v1 => if Wf.wf hd then cond (decide ((p_l_szTask hd v1) < (0 : Int)))
    (some (.ret (-1 : Int)))
    (l_szTaskS_l0 rest (i + 1) (p_l_szTask hd v1)) else none
theorem l_szTaskS_L0 {q0 : Kd} (v0 : List GTask) (rest : List GTask) : ∀ (i : Nat) (v1 : Int), (v0).drop i = rest → v0.length ≤ 9223372036854775807 → Ans (l_szTaskS_l0 rest i v1) (l_szTaskS_Q0 (q0 := q0) v0 v1 (i : Int)) := by
  induction rest with
  | nil =>
    intro i v1 hE hl
    have hb := foldEnd hE
    unfold l_szTaskS_l0
    exact Ans.some (Loops.stop (l_szTaskS_R0_2 (q0 := q0) v0 v1 (i : Int) hb) (by intro h; cases h))
  | cons hd rest ih =>
    intro i v1 hE hl
    have hb := foldMore hE
    have hw := foldNext hE hl
    have hE2 := foldRest hE
    have hg := foldGet hE
    unfold l_szTaskS_l0
    refine Ans.pre (fun h2 => ?_)
    refine Ans.ite (fun h3 => ?_) (fun h3 => ?_)
    · exact Ans.some (Loops.stop (l_szTaskS_R0_0 (q0 := q0) v0 v1 (i : Int) hd hb hg h2 h3) (by intro h; cases h))
    · exact (ih (i + 1) (p_l_szTask hd v1) hE2 hl).mono fun y hy => by have r := l_szTaskS_R0_1 (q0 := q0) v0 v1 (i : Int) hd hb hg h2 h3; rw [hw] at r; cases y <;> exact Loops.next r hy
theorem l_szTaskS_P0 {q0 : Kd} (x0 : List GTask) (x1 : Int) (h0 : (decide ((IntKind.wrap .i64 (x1 - (x0.length : Int))) < (0 : Int))) = true) : Does E 110 [.one (.s .far () 5 (x0.map (GTask.t q0))), .one (tI x1)] [(false, [tI (-1 : Int)])] :=
  Does.path (fn := Try.f110) [.val (.int .i64 (x0.length : Int)), .no, .b true] [fun _ => ((x0.map (GTask.t q0)).length : Int) = (x0.length : Int), fun _ => (decide ((IntKind.wrap .i64 (x1 - (x0.length : Int))) < (0 : Int))) = true] rfl rfl (fun k => by kernel_rfl) ⟨Ev.c lenMap, Ev.c h0, trivial⟩
theorem l_szTaskS_P1 {q0 : Kd} (x0 : List GTask) (x1 : Int) (w0_4 : Int) (h0 : (decide ((IntKind.wrap .i64 (x1 - (x0.length : Int))) < (0 : Int))) = false) (h1 : Loops E 110 (lpAt Try.f110 0) (stL 27 [(0, .one (.s .far () 5 (x0.map (GTask.t q0)))), (1, .one (tI (IntKind.wrap .i64 (x1 - (x0.length : Int))))), (5, .one (tI (0 : Int)))]) .ret (stL 27 [(4, .one (tI w0_4))])) : Does E 110 [.one (.s .far () 5 (x0.map (GTask.t q0))), .one (tI x1)] [(false, [tI w0_4])] :=
  Does.path (fn := Try.f110) [.val (.int .i64 (x0.length : Int)), .no, .b false, .lp .ret (stL 27 [(4, .one (tI w0_4))])] [fun _ => ((x0.map (GTask.t q0)).length : Int) = (x0.length : Int), fun _ => (decide ((IntKind.wrap .i64 (x1 - (x0.length : Int))) < (0 : Int))) = false, fun k => LoopK E 110 (lpAt Try.f110 0) (stL 27 [(0, .one (.s .far () 5 (x0.map (GTask.t q0)))), (1, .one (tI (IntKind.wrap .i64 (x1 - (x0.length : Int))))), (5, .one (tI (0 : Int)))]) .ret (stL 27 [(4, .one (tI w0_4))]) k k] rfl rfl (fun k => by kernel_rfl) ⟨Ev.c lenMap, Ev.c h0, Loops.ev h1, trivial⟩
theorem l_szTaskS_P2 {q0 : Kd} (x0 : List GTask) (x1 : Int) (w0_1 : Int) (h0 : (decide ((IntKind.wrap .i64 (x1 - (x0.length : Int))) < (0 : Int))) = false) (h1 : Loops E 110 (lpAt Try.f110 0) (stL 27 [(0, .one (.s .far () 5 (x0.map (GTask.t q0)))), (1, .one (tI (IntKind.wrap .i64 (x1 - (x0.length : Int))))), (5, .one (tI (0 : Int)))]) (.exit 0) (stL 27 [(1, .one (tI w0_1))])) : Does E 110 [.one (.s .far () 5 (x0.map (GTask.t q0))), .one (tI x1)] [(false, [tI w0_1])] :=
  Does.path (fn := Try.f110) [.val (.int .i64 (x0.length : Int)), .no, .b false, .lp (.exit 0) (stL 27 [(1, .one (tI w0_1))])] [fun _ => ((x0.map (GTask.t q0)).length : Int) = (x0.length : Int), fun _ => (decide ((IntKind.wrap .i64 (x1 - (x0.length : Int))) < (0 : Int))) = false, fun k => LoopK E 110 (lpAt Try.f110 0) (stL 27 [(0, .one (.s .far () 5 (x0.map (GTask.t q0)))), (1, .one (tI (IntKind.wrap .i64 (x1 - (x0.length : Int))))), (5, .one (tI (0 : Int)))]) (.exit 0) (stL 27 [(1, .one (tI w0_1))]) k k] rfl rfl (fun k => by kernel_rfl) ⟨Ev.c lenMap, Ev.c h0, Loops.ev h1, trivial⟩
noncomputable def l_szTaskS_F (x0 : List GTask) (x1 : Int) : Option (Int) :=
    cond (decide ((IntKind.wrap .i64 (x1 - (x0.length : Int))) < (0 : Int)))
      (some ((-1 : Int)))
      (if x0.length ≤ 9223372036854775807 then (l_szTaskS_l0 x0 0 (IntKind.wrap .i64 (x1 - (x0.length : Int)))).bind fun y => match y with
        | .ret w0_4 => (some (w0_4))
        | .x0 w0_1 => (some (w0_1)) else none)
theorem l_szTaskS_D {q0 : Kd} (x0 : List GTask) (x1 : Int) : Ans (l_szTaskS_F x0 x1) (fun r => Does E 110 [.one (.s .far () 5 (x0.map (GTask.t q0))), .one (tI x1)] [(false, [tI r])]) := by
  unfold l_szTaskS_F
  refine Ans.ite (fun h0 => ?_) (fun h0 => ?_)
  · exact Ans.some (l_szTaskS_P0 (q0 := q0) x0 x1 h0)
  · refine Ans.pre (fun hl2 => ?_)
    refine Ans.bind (fun y hy => ?_)
    replace hy := l_szTaskS_L0 (q0 := q0) x0 x0 0 (IntKind.wrap .i64 (x1 - (x0.length : Int))) rfl hl2 y hy
    cases y with
    | ret w0_4 =>
      have h1 := hy
      exact Ans.some (l_szTaskS_P1 (q0 := q0) x0 x1 w0_4 h0 h1)
    | x0 w0_1 =>
      have h1 := hy
      exact Ans.some (l_szTaskS_P2 (q0 := q0) x0 x1 w0_1 h0 h1)
noncomputable def p_l_szTaskS (x : List GTask) (n : Int) : Int := (l_szTaskS_F x n).getD (-1)
theorem tl_l_szTaskS : ∀ (rest : List GTask) (i : Nat) (n : Int), (∀ y ∈ rest, Wf.wf y) → Tot (l_szTaskS_l0 rest i n)
  | [], i, n, _ => Tot.some _
  | x :: rest, i, n, h => by
    have hx := h x (by simp)
    have ih := fun i n => tl_l_szTaskS rest i n fun y hy => h y (by simp [hy])
    unfold l_szTaskS_l0
    repeat' (first | exact Tot.some _ | exact ih _ _ | apply Tot.cond | refine Tot.ite (by assumption) ?_)
theorem tot_l_szTaskS (x : List GTask) (n : Int) (h : Wf.wf x) : l_szTaskS_F x n = some (p_l_szTaskS x n) := by
  refine Tot.getD ?_ _
  unfold l_szTaskS_F
  refine Tot.cond (Tot.some _) ?_
  refine Tot.ite h.1 (Tot.bind (tl_l_szTaskS x 0 _ h.2) fun y hy => ?_)
  cases y <;> exact Tot.some _
theorem T_l_szTaskS {q0 : Kd} (x0 : List GTask) (x1 : Int) (h : Wf.wf x0) : Does E 110 [.one (.s .far () 5 (x0.map (GTask.t q0))), .one (tI x1)] [(false, [tI (p_l_szTaskS x0 x1)])] := by
  exact l_szTaskS_D x0 x1 _ (tot_l_szTaskS x0 x1 h)
theorem lel_l_szTaskS : ∀ (rest : List GTask) (i : Nat) (n : Int), (∀ y ∈ rest, Wf.wf y) → 0 ≤ n → n ≤ 1048576 → ∀ y, l_szTaskS_l0 rest i n = some y →
    (∃ m, y = .x0 m ∧ 0 ≤ m ∧ m ≤ n ∧ ∀ z ∈ rest, Small.sm z) ∨ ∃ m, y = .ret m ∧ m < 0
  | [], i, n, _, h0, h1, y, e => by cases e; exact .inl ⟨n, rfl, h0, Int.le_refl _, fun z hz => by cases hz⟩
  | x :: rest, i, n, h, h0, h1, y, e => by
    have hx := h x (by simp)
    unfold l_szTaskS_l0 at e
    try rw [if_pos hx] at e
    by_cases q : p_l_szTask x n < 0
    · rw [decide_eq_true q, cond_true] at e
      cases e
      exact .inr ⟨_, rfl, by omega⟩
    · rw [decide_eq_false q, cond_false] at e
      try rw [if_pos hx] at e
      obtain ⟨b, c⟩ := le_l_szTask x n hx h0 h1 (by omega)
      rcases lel_l_szTaskS rest _ _ (fun y hy => h y (by simp [hy])) (by omega) (by omega) y e with ⟨m, g1, g2, g3, g4⟩ | g
      · refine .inl ⟨m, g1, g2, by omega, fun z hz => ?_⟩
        rcases List.mem_cons.1 hz with rfl | hz
        · exact c
        · exact g4 z hz
      · exact .inr g
theorem le_l_szTaskS (x : List GTask) (n : Int) (hw : Wf.wf x) (h0 : 0 ≤ n) (h1 : n ≤ 1048576) (h : 0 ≤ p_l_szTaskS x n) : p_l_szTaskS x n ≤ n ∧ Small.sm x := by
  have e := tot_l_szTaskS x n hw
  generalize p_l_szTaskS x n = r at *
  unfold l_szTaskS_F at e
  obtain ⟨a1, e⟩ := szStep e h
  obtain ⟨b1, c1⟩ := szStr (n := n) (k := x.length) h0 h1 hw.1 a1
  rw [if_pos hw.1, Option.bind_eq_some_iff] at e
  obtain ⟨y, e1, e2⟩ := e
  rcases lel_l_szTaskS x 0 _ hw.2 a1 (by omega) y e1 with ⟨m, rfl, g2, g3, g4⟩ | ⟨m, rfl, g⟩
  · cases e2; exact ⟨by omega, small_of c1, g4⟩
  · cases e2; omega
theorem l_szDag_P0 {q0 : Kd} (x0 : LDag) (x1 : Int) (h0 : (decide ((IntKind.wrap .i64 (x1 - (x0.f0.size : Int))) < (0 : Int))) = true) : Does E 94 [.agg (LDag.t .far q0 x0), .one (tI x1)] [(false, [tI (-1 : Int)])] :=
  Does.path (fn := Try.f94) [.no, .b true] [fun _ => (decide ((IntKind.wrap .i64 (x1 - (x0.f0.size : Int))) < (0 : Int))) = true] rfl rfl (fun k => by kernel_rfl) ⟨Ev.c h0, trivial⟩
theorem l_szDag_P1 {q0 : Kd} (x0 : LDag) (x1 : Int) (h0 : (decide ((IntKind.wrap .i64 (x1 - (x0.f0.size : Int))) < (0 : Int))) = false) (h1 : (decide ((IntKind.wrap .i64 ((IntKind.wrap .i64 (x1 - (x0.f0.size : Int))) - (x0.f1.size : Int))) < (0 : Int))) = true) : Does E 94 [.agg (LDag.t .far q0 x0), .one (tI x1)] [(false, [tI (-1 : Int)])] :=
  Does.path (fn := Try.f94) [.no, .b false, .no, .b true] [fun _ => (decide ((IntKind.wrap .i64 (x1 - (x0.f0.size : Int))) < (0 : Int))) = false, fun _ => (decide ((IntKind.wrap .i64 ((IntKind.wrap .i64 (x1 - (x0.f0.size : Int))) - (x0.f1.size : Int))) < (0 : Int))) = true] rfl rfl (fun k => by kernel_rfl) ⟨Ev.c h0, Ev.c h1, trivial⟩
theorem l_szDag_P2 {q0 : Kd} (x0 : LDag) (x1 : Int) (h0 : (decide ((IntKind.wrap .i64 (x1 - (x0.f0.size : Int))) < (0 : Int))) = false) (h1 : (decide ((IntKind.wrap .i64 ((IntKind.wrap .i64 (x1 - (x0.f0.size : Int))) - (x0.f1.size : Int))) < (0 : Int))) = false) (h2 : Wf.wf x0.f5) (h3 : (decide ((p_l_szTaskS x0.f5 (IntKind.wrap .i64 ((IntKind.wrap .i64 (x1 - (x0.f0.size : Int))) - (x0.f1.size : Int)))) < (0 : Int))) = true) : Does E 94 [.agg (LDag.t .far q0 x0), .one (tI x1)] [(false, [tI (-1 : Int)])] :=
  Does.path (fn := Try.f94) [.no, .b false, .no, .b false, .ret [(false, [tI (p_l_szTaskS x0.f5 (IntKind.wrap .i64 ((IntKind.wrap .i64 (x1 - (x0.f0.size : Int))) - (x0.f1.size : Int))))])], .b true] [fun _ => (decide ((IntKind.wrap .i64 (x1 - (x0.f0.size : Int))) < (0 : Int))) = false, fun _ => (decide ((IntKind.wrap .i64 ((IntKind.wrap .i64 (x1 - (x0.f0.size : Int))) - (x0.f1.size : Int))) < (0 : Int))) = false, fun k => E.C k 110 [.one (.s .far () 5 (x0.f5.map (GTask.t q0))), .one (tI (IntKind.wrap .i64 ((IntKind.wrap .i64 (x1 - (x0.f0.size : Int))) - (x0.f1.size : Int))))] = some [(false, [tI (p_l_szTaskS x0.f5 (IntKind.wrap .i64 ((IntKind.wrap .i64 (x1 - (x0.f0.size : Int))) - (x0.f1.size : Int))))])], fun _ => (decide ((p_l_szTaskS x0.f5 (IntKind.wrap .i64 ((IntKind.wrap .i64 (x1 - (x0.f0.size : Int))) - (x0.f1.size : Int)))) < (0 : Int))) = true] rfl rfl (fun k => by kernel_rfl) ⟨Ev.c h0, Ev.c h1, T_l_szTaskS x0.f5 (IntKind.wrap .i64 ((IntKind.wrap .i64 (x1 - (x0.f0.size : Int))) - (x0.f1.size : Int))) h2, Ev.c h3, trivial⟩
theorem l_szDag_P3 {q0 : Kd} (x0 : LDag) (x1 : Int) (h0 : (decide ((IntKind.wrap .i64 (x1 - (x0.f0.size : Int))) < (0 : Int))) = false) (h1 : (decide ((IntKind.wrap .i64 ((IntKind.wrap .i64 (x1 - (x0.f0.size : Int))) - (x0.f1.size : Int))) < (0 : Int))) = false) (h2 : Wf.wf x0.f5) (h3 : (decide ((p_l_szTaskS x0.f5 (IntKind.wrap .i64 ((IntKind.wrap .i64 (x1 - (x0.f0.size : Int))) - (x0.f1.size : Int)))) < (0 : Int))) = false) : Does E 94 [.agg (LDag.t .far q0 x0), .one (tI x1)] [(false, [tI (p_l_szTaskS x0.f5 (IntKind.wrap .i64 ((IntKind.wrap .i64 (x1 - (x0.f0.size : Int))) - (x0.f1.size : Int))))])] :=
  Does.path (fn := Try.f94) [.no, .b false, .no, .b false, .ret [(false, [tI (p_l_szTaskS x0.f5 (IntKind.wrap .i64 ((IntKind.wrap .i64 (x1 - (x0.f0.size : Int))) - (x0.f1.size : Int))))])], .b false] [fun _ => (decide ((IntKind.wrap .i64 (x1 - (x0.f0.size : Int))) < (0 : Int))) = false, fun _ => (decide ((IntKind.wrap .i64 ((IntKind.wrap .i64 (x1 - (x0.f0.size : Int))) - (x0.f1.size : Int))) < (0 : Int))) = false, fun k => E.C k 110 [.one (.s .far () 5 (x0.f5.map (GTask.t q0))), .one (tI (IntKind.wrap .i64 ((IntKind.wrap .i64 (x1 - (x0.f0.size : Int))) - (x0.f1.size : Int))))] = some [(false, [tI (p_l_szTaskS x0.f5 (IntKind.wrap .i64 ((IntKind.wrap .i64 (x1 - (x0.f0.size : Int))) - (x0.f1.size : Int))))])], fun _ => (decide ((p_l_szTaskS x0.f5 (IntKind.wrap .i64 ((IntKind.wrap .i64 (x1 - (x0.f0.size : Int))) - (x0.f1.size : Int)))) < (0 : Int))) = false] rfl rfl (fun k => by kernel_rfl) ⟨Ev.c h0, Ev.c h1, T_l_szTaskS x0.f5 (IntKind.wrap .i64 ((IntKind.wrap .i64 (x1 - (x0.f0.size : Int))) - (x0.f1.size : Int))) h2, Ev.c h3, trivial⟩
noncomputable def l_szDag_F (x0 : LDag) (x1 : Int) : Option (Int) :=
    cond (decide ((IntKind.wrap .i64 (x1 - (x0.f0.size : Int))) < (0 : Int)))
      (some ((-1 : Int)))
      (cond (decide ((IntKind.wrap .i64 ((IntKind.wrap .i64 (x1 - (x0.f0.size : Int))) - (x0.f1.size : Int))) < (0 : Int)))
        (some ((-1 : Int)))
        (if Wf.wf x0.f5 then cond (decide ((p_l_szTaskS x0.f5 (IntKind.wrap .i64 ((IntKind.wrap .i64 (x1 - (x0.f0.size : Int))) - (x0.f1.size : Int)))) < (0 : Int)))
          (some ((-1 : Int)))
          (some (p_l_szTaskS x0.f5 (IntKind.wrap .i64 ((IntKind.wrap .i64 (x1 - (x0.f0.size : Int))) - (x0.f1.size : Int))))) else none))
theorem l_szDag_D {q0 : Kd} (x0 : LDag) (x1 : Int) : Ans (l_szDag_F x0 x1) (fun r => Does E 94 [.agg (LDag.t .far q0 x0), .one (tI x1)] [(false, [tI r])]) := by
  unfold l_szDag_F
  refine Ans.ite (fun h0 => ?_) (fun h0 => ?_)
  · exact Ans.some (l_szDag_P0 (q0 := q0) x0 x1 h0)
  · refine Ans.ite (fun h1 => ?_) (fun h1 => ?_)
    · exact Ans.some (l_szDag_P1 (q0 := q0) x0 x1 h0 h1)
    · refine Ans.pre (fun h2 => ?_)
      refine Ans.ite (fun h3 => ?_) (fun h3 => ?_)
      · exact Ans.some (l_szDag_P2 (q0 := q0) x0 x1 h0 h1 h2 h3)
      · exact Ans.some (l_szDag_P3 (q0 := q0) x0 x1 h0 h1 h2 h3)
noncomputable def p_l_szDag (x : LDag) (n : Int) : Int := (l_szDag_F x n).getD (-1)
theorem tot_l_szDag (x : LDag) (n : Int) (h : Wf.wf x) : l_szDag_F x n = some (p_l_szDag x n) := by
  obtain ⟨w0, w1, w5⟩ := h
  refine Tot.getD ?_ _
  unfold l_szDag_F
  repeat' (first | exact Tot.some _ | apply Tot.cond | refine Tot.ite (by assumption) ?_)
theorem T_l_szDag {q0 : Kd} (x0 : LDag) (x1 : Int) (h : Wf.wf x0) : Does E 94 [.agg (LDag.t .far q0 x0), .one (tI x1)] [(false, [tI (p_l_szDag x0 x1)])] := by
  exact l_szDag_D x0 x1 _ (tot_l_szDag x0 x1 h)
theorem le_l_szDag (x : LDag) (n : Int) (hw : Wf.wf x) (h0 : 0 ≤ n) (h1 : n ≤ 1048576) (h : 0 ≤ p_l_szDag x n) : p_l_szDag x n ≤ n ∧ Small.sm x := by
  have e := tot_l_szDag x n hw
  obtain ⟨w0, w1, w5⟩ := hw
  generalize p_l_szDag x n = r at *
  unfold l_szDag_F at e
  obtain ⟨a1, e⟩ := szStep e h
  obtain ⟨b1, c1⟩ := szStr (n := n) (k := x.f0.size) h0 (by omega) w0 a1
  generalize IntKind.wrap .i64 (n - (x.f0.size : Int)) = m1 at *
  obtain ⟨a2, e⟩ := szStep e h
  obtain ⟨b2, c2⟩ := szStr (n := m1) (k := x.f1.size) a1 (by omega) w1 a2
  generalize IntKind.wrap .i64 (m1 - (x.f1.size : Int)) = m2 at *
  try rw [if_pos w5] at e
  obtain ⟨a3, e⟩ := szStep e h
  try rw [if_pos w5] at e
  obtain ⟨b3, c3⟩ := le_l_szTaskS x.f5 m2 w5 a2 (by omega) a3
  generalize p_l_szTaskS x.f5 m2 = m3 at *
  cases e
  exact ⟨by omega, ⟨small_of c1, small_of c2, c3⟩⟩
theorem l_szPlan_P0 {q0 : Kd} (x0 : LPlan) (x1 : Int) (h0 : Wf.wf x0.f0) (h1 : (decide ((p_l_szDag x0.f0 x1) < (0 : Int))) = true) : Does E 70 [.agg (LPlan.t .far q0 x0), .one (tI x1)] [(false, [tI (-1 : Int)])] :=
  Does.path (fn := Try.f70) [.ret [(false, [tI (p_l_szDag x0.f0 x1)])], .b true] [fun k => E.C k 94 [.agg (LDag.t .far q0 x0.f0), .one (tI x1)] = some [(false, [tI (p_l_szDag x0.f0 x1)])], fun _ => (decide ((p_l_szDag x0.f0 x1) < (0 : Int))) = true] rfl rfl (fun k => by kernel_rfl) ⟨T_l_szDag x0.f0 x1 h0, Ev.c h1, trivial⟩
theorem l_szPlan_P1 {q0 : Kd} (x0 : LPlan) (x1 : Int) (h0 : Wf.wf x0.f0) (h1 : (decide ((p_l_szDag x0.f0 x1) < (0 : Int))) = false) : Does E 70 [.agg (LPlan.t .far q0 x0), .one (tI x1)] [(false, [tI (p_l_szDag x0.f0 x1)])] :=
  Does.path (fn := Try.f70) [.ret [(false, [tI (p_l_szDag x0.f0 x1)])], .b false] [fun k => E.C k 94 [.agg (LDag.t .far q0 x0.f0), .one (tI x1)] = some [(false, [tI (p_l_szDag x0.f0 x1)])], fun _ => (decide ((p_l_szDag x0.f0 x1) < (0 : Int))) = false] rfl rfl (fun k => by kernel_rfl) ⟨T_l_szDag x0.f0 x1 h0, Ev.c h1, trivial⟩
noncomputable def l_szPlan_F (x0 : LPlan) (x1 : Int) : Option (Int) :=
    if Wf.wf x0.f0 then cond (decide ((p_l_szDag x0.f0 x1) < (0 : Int)))
      (some ((-1 : Int)))
      (some (p_l_szDag x0.f0 x1)) else none
theorem l_szPlan_D {q0 : Kd} (x0 : LPlan) (x1 : Int) : Ans (l_szPlan_F x0 x1) (fun r => Does E 70 [.agg (LPlan.t .far q0 x0), .one (tI x1)] [(false, [tI r])]) := by
  unfold l_szPlan_F
  refine Ans.pre (fun h0 => ?_)
  refine Ans.ite (fun h1 => ?_) (fun h1 => ?_)
  · exact Ans.some (l_szPlan_P0 (q0 := q0) x0 x1 h0 h1)
  · exact Ans.some (l_szPlan_P1 (q0 := q0) x0 x1 h0 h1)
noncomputable def p_l_szPlan (x : LPlan) (n : Int) : Int := (l_szPlan_F x n).getD (-1)
theorem tot_l_szPlan (x : LPlan) (n : Int) (h : Wf.wf x) : l_szPlan_F x n = some (p_l_szPlan x n) := by
  have w0 : Wf.wf x.f0 := h
  refine Tot.getD ?_ _
  unfold l_szPlan_F
  repeat' (first | exact Tot.some _ | apply Tot.cond | refine Tot.ite (by assumption) ?_)
theorem T_l_szPlan {q0 : Kd} (x0 : LPlan) (x1 : Int) (h : Wf.wf x0) : Does E 70 [.agg (LPlan.t .far q0 x0), .one (tI x1)] [(false, [tI (p_l_szPlan x0 x1)])] := by
  exact l_szPlan_D x0 x1 _ (tot_l_szPlan x0 x1 h)
theorem le_l_szPlan (x : LPlan) (n : Int) (hw : Wf.wf x) (h0 : 0 ≤ n) (h1 : n ≤ 1048576) (h : 0 ≤ p_l_szPlan x n) : p_l_szPlan x n ≤ n ∧ Small.sm x := by
  have e := tot_l_szPlan x n hw
  have w0 : Wf.wf x.f0 := hw
  generalize p_l_szPlan x n = r at *
  unfold l_szPlan_F at e
  try rw [if_pos w0] at e
  obtain ⟨a1, e⟩ := szStep e h
  try rw [if_pos w0] at e
  obtain ⟨b1, c1⟩ := le_l_szDag x.f0 n w0 h0 (by omega) a1
  generalize p_l_szDag x.f0 n = m1 at *
  cases e
  exact ⟨by omega, c1⟩
inductive l_szPlanS_X0 where
  | ret (v4 : Int)
  | x0 (v1 : Int)
def l_szPlanS_Q0 {q0 : Kd} (v0 : List LPlan) (v1 : Int) (v5 : Int) : l_szPlanS_X0 → Prop
  | .ret zv4 => Loops E 36 (lpAt Try.f36 0) (stL 27 [(0, .one (.s .far () 9 (v0.map (LPlan.t q0 q0)))), (1, .one (tI v1)), (5, .one (tI v5))]) .ret (stL 27 [(4, .one (tI zv4))])
  | .x0 zv1 => Loops E 36 (lpAt Try.f36 0) (stL 27 [(0, .one (.s .far () 9 (v0.map (LPlan.t q0 q0)))), (1, .one (tI v1)), (5, .one (tI v5))]) (.exit 0) (stL 27 [(1, .one (tI zv1))])
theorem l_szPlanS_R0_0 {q0 : Kd} (v0 : List LPlan) (v1 : Int) (v5 : Int) (g0 : LPlan) (h0 : (decide (v5 < (v0.length : Int))) = true) (h1 : getI v0 v5 = some g0) (h2 : Wf.wf g0) (h3 : (decide ((p_l_szPlan g0 v1) < (0 : Int))) = true) : Round E 36 (lpAt Try.f36 0) (stL 27 [(0, .one (.s .far () 9 (v0.map (LPlan.t q0 q0)))), (1, .one (tI v1)), (5, .one (tI v5))]) .ret (stL 27 [(4, .one (tI (-1 : Int)))]) :=
  Round.path [.val (.int .i64 (v0.length : Int)), .b true, .row ((LPlan.t q0 q0) g0), .ret [(false, [tI (p_l_szPlan g0 v1)])], .b true] [fun _ => ((v0.map (LPlan.t q0 q0)).length : Int) = (v0.length : Int), fun _ => (decide (v5 < (v0.length : Int))) = true, fun _ => 0 ≤ v5 ∧ (v0.map (LPlan.t q0 q0))[v5.toNat]? = some ((LPlan.t q0 q0) g0), fun k => E.C k 70 [.agg (LPlan.t .far q0 g0), .one (tI v1)] = some [(false, [tI (p_l_szPlan g0 v1)])], fun _ => (decide ((p_l_szPlan g0 v1) < (0 : Int))) = true] (fun k => by kernel_rfl) ⟨Ev.c lenMap, Ev.c h0, Ev.c (getRow h1), T_l_szPlan g0 v1 h2, Ev.c h3, trivial⟩
theorem l_szPlanS_R0_1 {q0 : Kd} (v0 : List LPlan) (v1 : Int) (v5 : Int) (g0 : LPlan) (h0 : (decide (v5 < (v0.length : Int))) = true) (h1 : getI v0 v5 = some g0) (h2 : Wf.wf g0) (h3 : (decide ((p_l_szPlan g0 v1) < (0 : Int))) = false) : Round E 36 (lpAt Try.f36 0) (stL 27 [(0, .one (.s .far () 9 (v0.map (LPlan.t q0 q0)))), (1, .one (tI v1)), (5, .one (tI v5))]) .normal (stL 27 [(0, .one (.s .far () 9 (v0.map (LPlan.t q0 q0)))), (1, .one (tI (p_l_szPlan g0 v1))), (5, .one (tI (inc v5)))]) :=
  Round.path [.val (.int .i64 (v0.length : Int)), .b true, .row ((LPlan.t q0 q0) g0), .ret [(false, [tI (p_l_szPlan g0 v1)])], .b false] [fun _ => ((v0.map (LPlan.t q0 q0)).length : Int) = (v0.length : Int), fun _ => (decide (v5 < (v0.length : Int))) = true, fun _ => 0 ≤ v5 ∧ (v0.map (LPlan.t q0 q0))[v5.toNat]? = some ((LPlan.t q0 q0) g0), fun k => E.C k 70 [.agg (LPlan.t .far q0 g0), .one (tI v1)] = some [(false, [tI (p_l_szPlan g0 v1)])], fun _ => (decide ((p_l_szPlan g0 v1) < (0 : Int))) = false] (fun k => by kernel_rfl) ⟨Ev.c lenMap, Ev.c h0, Ev.c (getRow h1), T_l_szPlan g0 v1 h2, Ev.c h3, trivial⟩
theorem l_szPlanS_R0_2 {q0 : Kd} (v0 : List LPlan) (v1 : Int) (v5 : Int) (h0 : (decide (v5 < (v0.length : Int))) = false) : Round E 36 (lpAt Try.f36 0) (stL 27 [(0, .one (.s .far () 9 (v0.map (LPlan.t q0 q0)))), (1, .one (tI v1)), (5, .one (tI v5))]) (.exit 0) (stL 27 [(1, .one (tI v1))]) :=
  Round.path [.val (.int .i64 (v0.length : Int)), .b false] [fun _ => ((v0.map (LPlan.t q0 q0)).length : Int) = (v0.length : Int), fun _ => (decide (v5 < (v0.length : Int))) = false] (fun k => by kernel_rfl) ⟨Ev.c lenMap, Ev.c h0, trivial⟩
noncomputable def l_szPlanS_l0  : List LPlan → Nat → Int → Option l_szPlanS_X0
  | [], i, v1 => some (.x0 v1)
  | hd :: rest, i, v1 => if Wf.wf hd then cond (decide ((p_l_szPlan hd v1) < (0 : Int)))
    (some (.ret (-1 : Int)))
    (l_szPlanS_l0 rest (i + 1) (p_l_szPlan hd v1)) else none
theorem l_szPlanS_L0 {q0 : Kd} (v0 : List LPlan) (rest : List LPlan) : ∀ (i : Nat) (v1 : Int), (v0).drop i = rest → v0.length ≤ 9223372036854775807 → Ans (l_szPlanS_l0 rest i v1) (l_szPlanS_Q0 (q0 := q0) v0 v1 (i : Int)) := by
  induction rest with
  | nil =>
    intro i v1 hE hl
    have hb := foldEnd hE
    unfold l_szPlanS_l0
    exact Ans.some (Loops.stop (l_szPlanS_R0_2 (q0 := q0) v0 v1 (i : Int) hb) (by intro h; cases h))
  | cons hd rest ih =>
    intro i v1 hE hl
    have hb := foldMore hE
    have hw := foldNext hE hl
    have hE2 := foldRest hE
    have hg := foldGet hE
    unfold l_szPlanS_l0
    refine Ans.pre (fun h2 => ?_)
    refine Ans.ite (fun h3 => ?_) (fun h3 => ?_)
    · exact Ans.some (Loops.stop (l_szPlanS_R0_0 (q0 := q0) v0 v1 (i : Int) hd hb hg h2 h3) (by intro h; cases h))
    · exact (ih (i + 1) (p_l_szPlan hd v1) hE2 hl).mono fun y hy => by have r := l_szPlanS_R0_1 (q0 := q0) v0 v1 (i : Int) hd hb hg h2 h3; rw [hw] at r; cases y <;> exact Loops.next r hy
theorem l_szPlanS_P0 {q0 : Kd} (x0 : List LPlan) (x1 : Int) (h0 : (decide ((IntKind.wrap .i64 (x1 - (x0.length : Int))) < (0 : Int))) = true) : Does E 36 [.one (.s .far () 9 (x0.map (LPlan.t q0 q0))), .one (tI x1)] [(false, [tI (-1 : Int)])] :=
  Does.path (fn := Try.f36) [.val (.int .i64 (x0.length : Int)), .no, .b true] [fun _ => ((x0.map (LPlan.t q0 q0)).length : Int) = (x0.length : Int), fun _ => (decide ((IntKind.wrap .i64 (x1 - (x0.length : Int))) < (0 : Int))) = true] rfl rfl (fun k => by kernel_rfl) ⟨Ev.c lenMap, Ev.c h0, trivial⟩
theorem l_szPlanS_P1 {q0 : Kd} (x0 : List LPlan) (x1 : Int) (w0_4 : Int) (h0 : (decide ((IntKind.wrap .i64 (x1 - (x0.length : Int))) < (0 : Int))) = false) (h1 : Loops E 36 (lpAt Try.f36 0) (stL 27 [(0, .one (.s .far () 9 (x0.map (LPlan.t q0 q0)))), (1, .one (tI (IntKind.wrap .i64 (x1 - (x0.length : Int))))), (5, .one (tI (0 : Int)))]) .ret (stL 27 [(4, .one (tI w0_4))])) : Does E 36 [.one (.s .far () 9 (x0.map (LPlan.t q0 q0))), .one (tI x1)] [(false, [tI w0_4])] :=
  Does.path (fn := Try.f36) [.val (.int .i64 (x0.length : Int)), .no, .b false, .lp .ret (stL 27 [(4, .one (tI w0_4))])] [fun _ => ((x0.map (LPlan.t q0 q0)).length : Int) = (x0.length : Int), fun _ => (decide ((IntKind.wrap .i64 (x1 - (x0.length : Int))) < (0 : Int))) = false, fun k => LoopK E 36 (lpAt Try.f36 0) (stL 27 [(0, .one (.s .far () 9 (x0.map (LPlan.t q0 q0)))), (1, .one (tI (IntKind.wrap .i64 (x1 - (x0.length : Int))))), (5, .one (tI (0 : Int)))]) .ret (stL 27 [(4, .one (tI w0_4))]) k k] rfl rfl (fun k => by kernel_rfl) ⟨Ev.c lenMap, Ev.c h0, Loops.ev h1, trivial⟩
theorem l_szPlanS_P2 {q0 : Kd} (x0 : List LPlan) (x1 : Int) (w0_1 : Int) (h0 : (decide ((IntKind.wrap .i64 (x1 - (x0.length : Int))) < (0 : Int))) = false) (h1 : Loops E 36 (lpAt Try.f36 0) (stL 27 [(0, .one (.s .far () 9 (x0.map (LPlan.t q0 q0)))), (1, .one (tI (IntKind.wrap .i64 (x1 - (x0.length : Int))))), (5, .one (tI (0 : Int)))]) (.exit 0) (stL 27 [(1, .one (tI w0_1))])) : Does E 36 [.one (.s .far () 9 (x0.map (LPlan.t q0 q0))), .one (tI x1)] [(false, [tI w0_1])] :=
  Does.path (fn := Try.f36) [.val (.int .i64 (x0.length : Int)), .no, .b false, .lp (.exit 0) (stL 27 [(1, .one (tI w0_1))])] [fun _ => ((x0.map (LPlan.t q0 q0)).length : Int) = (x0.length : Int), fun _ => (decide ((IntKind.wrap .i64 (x1 - (x0.length : Int))) < (0 : Int))) = false, fun k => LoopK E 36 (lpAt Try.f36 0) (stL 27 [(0, .one (.s .far () 9 (x0.map (LPlan.t q0 q0)))), (1, .one (tI (IntKind.wrap .i64 (x1 - (x0.length : Int))))), (5, .one (tI (0 : Int)))]) (.exit 0) (stL 27 [(1, .one (tI w0_1))]) k k] rfl rfl (fun k => by kernel_rfl) ⟨Ev.c lenMap, Ev.c h0, Loops.ev h1, trivial⟩
noncomputable def l_szPlanS_F (x0 : List LPlan) (x1 : Int) : Option (Int) :=
    cond (decide ((IntKind.wrap .i64 (x1 - (x0.length : Int))) < (0 : Int)))
      (some ((-1 : Int)))
      (if x0.length ≤ 9223372036854775807 then (l_szPlanS_l0 x0 0 (IntKind.wrap .i64 (x1 - (x0.length : Int)))).bind fun y => match y with
        | .ret w0_4 => (some (w0_4))
        | .x0 w0_1 => (some (w0_1)) else none)
theorem l_szPlanS_D {q0 : Kd} (x0 : List LPlan) (x1 : Int) : Ans (l_szPlanS_F x0 x1) (fun r => Does E 36 [.one (.s .far () 9 (x0.map (LPlan.t q0 q0))), .one (tI x1)] [(false, [tI r])]) := by
  unfold l_szPlanS_F
  refine Ans.ite (fun h0 => ?_) (fun h0 => ?_)
  · exact Ans.some (l_szPlanS_P0 (q0 := q0) x0 x1 h0)
  · refine Ans.pre (fun hl2 => ?_)
    refine Ans.bind (fun y hy => ?_)
    replace hy := l_szPlanS_L0 (q0 := q0) x0 x0 0 (IntKind.wrap .i64 (x1 - (x0.length : Int))) rfl hl2 y hy
    cases y with
    | ret w0_4 =>
      have h1 := hy
      exact Ans.some (l_szPlanS_P1 (q0 := q0) x0 x1 w0_4 h0 h1)
    | x0 w0_1 =>
      have h1 := hy
      exact Ans.some (l_szPlanS_P2 (q0 := q0) x0 x1 w0_1 h0 h1)
noncomputable def p_l_szPlanS (x : List LPlan) (n : Int) : Int := (l_szPlanS_F x n).getD (-1)
theorem tl_l_szPlanS : ∀ (rest : List LPlan) (i : Nat) (n : Int), (∀ y ∈ rest, Wf.wf y) → Tot (l_szPlanS_l0 rest i n)
  | [], i, n, _ => Tot.some _
  | x :: rest, i, n, h => by
    have hx := h x (by simp)
    have ih := fun i n => tl_l_szPlanS rest i n fun y hy => h y (by simp [hy])
    unfold l_szPlanS_l0
    repeat' (first | exact Tot.some _ | exact ih _ _ | apply Tot.cond | refine Tot.ite (by assumption) ?_)
theorem tot_l_szPlanS (x : List LPlan) (n : Int) (h : Wf.wf x) : l_szPlanS_F x n = some (p_l_szPlanS x n) := by
  refine Tot.getD ?_ _
  unfold l_szPlanS_F
  refine Tot.cond (Tot.some _) ?_
  refine Tot.ite h.1 (Tot.bind (tl_l_szPlanS x 0 _ h.2) fun y hy => ?_)
  cases y <;> exact Tot.some _
theorem T_l_szPlanS {q0 : Kd} (x0 : List LPlan) (x1 : Int) (h : Wf.wf x0) : Does E 36 [.one (.s .far () 9 (x0.map (LPlan.t q0 q0))), .one (tI x1)] [(false, [tI (p_l_szPlanS x0 x1)])] := by
  exact l_szPlanS_D x0 x1 _ (tot_l_szPlanS x0 x1 h)
theorem lel_l_szPlanS : ∀ (rest : List LPlan) (i : Nat) (n : Int), (∀ y ∈ rest, Wf.wf y) → 0 ≤ n → n ≤ 1048576 → ∀ y, l_szPlanS_l0 rest i n = some y →
    (∃ m, y = .x0 m ∧ 0 ≤ m ∧ m ≤ n ∧ ∀ z ∈ rest, Small.sm z) ∨ ∃ m, y = .ret m ∧ m < 0
  | [], i, n, _, h0, h1, y, e => by cases e; exact .inl ⟨n, rfl, h0, Int.le_refl _, fun z hz => by cases hz⟩
  | x :: rest, i, n, h, h0, h1, y, e => by
    have hx := h x (by simp)
    unfold l_szPlanS_l0 at e
    try rw [if_pos hx] at e
    by_cases q : p_l_szPlan x n < 0
    · rw [decide_eq_true q, cond_true] at e
      cases e
      exact .inr ⟨_, rfl, by omega⟩
    · rw [decide_eq_false q, cond_false] at e
      try rw [if_pos hx] at e
      obtain ⟨b, c⟩ := le_l_szPlan x n hx h0 h1 (by omega)
      rcases lel_l_szPlanS rest _ _ (fun y hy => h y (by simp [hy])) (by omega) (by omega) y e with ⟨m, g1, g2, g3, g4⟩ | g
      · refine .inl ⟨m, g1, g2, by omega, fun z hz => ?_⟩
        rcases List.mem_cons.1 hz with rfl | hz
        · exact c
        · exact g4 z hz
      · exact .inr g
theorem le_l_szPlanS (x : List LPlan) (n : Int) (hw : Wf.wf x) (h0 : 0 ≤ n) (h1 : n ≤ 1048576) (h : 0 ≤ p_l_szPlanS x n) : p_l_szPlanS x n ≤ n ∧ Small.sm x := by
  have e := tot_l_szPlanS x n hw
  generalize p_l_szPlanS x n = r at *
  unfold l_szPlanS_F at e
  obtain ⟨a1, e⟩ := szStep e h
  obtain ⟨b1, c1⟩ := szStr (n := n) (k := x.length) h0 h1 hw.1 a1
  rw [if_pos hw.1, Option.bind_eq_some_iff] at e
  obtain ⟨y, e1, e2⟩ := e
  rcases lel_l_szPlanS x 0 _ hw.2 a1 (by omega) y e1 with ⟨m, rfl, g2, g3, g4⟩ | ⟨m, rfl, g⟩
  · cases e2; exact ⟨by omega, small_of c1, g4⟩
  · cases e2; omega
theorem l_szStateS_P0 (x0 : List GState) (x1 : Int) (h0 : (decide ((IntKind.wrap .i64 (x1 - (x0.length : Int))) < (0 : Int))) = true) : Does E 95 [.one (.s .far () 4 (x0.map GState.t)), .one (tI x1)] [(false, [tI (-1 : Int)])] :=
  Does.path (fn := Try.f95) [.val (.int .i64 (x0.length : Int)), .no, .b true] [fun _ => ((x0.map GState.t).length : Int) = (x0.length : Int), fun _ => (decide ((IntKind.wrap .i64 (x1 - (x0.length : Int))) < (0 : Int))) = true] rfl rfl (fun k => by kernel_rfl) ⟨Ev.c lenMap, Ev.c h0, trivial⟩
theorem l_szStateS_P1 (x0 : List GState) (x1 : Int) (h0 : (decide ((IntKind.wrap .i64 (x1 - (x0.length : Int))) < (0 : Int))) = false) : Does E 95 [.one (.s .far () 4 (x0.map GState.t)), .one (tI x1)] [(false, [tI (IntKind.wrap .i64 (x1 - (x0.length : Int)))])] :=
  Does.path (fn := Try.f95) [.val (.int .i64 (x0.length : Int)), .no, .b false] [fun _ => ((x0.map GState.t).length : Int) = (x0.length : Int), fun _ => (decide ((IntKind.wrap .i64 (x1 - (x0.length : Int))) < (0 : Int))) = false] rfl rfl (fun k => by kernel_rfl) ⟨Ev.c lenMap, Ev.c h0, trivial⟩
noncomputable def l_szStateS_F (x0 : List GState) (x1 : Int) : Option (Int) :=
    cond (decide ((IntKind.wrap .i64 (x1 - (x0.length : Int))) < (0 : Int)))
      (some ((-1 : Int)))
      (some (IntKind.wrap .i64 (x1 - (x0.length : Int))))
theorem l_szStateS_D (x0 : List GState) (x1 : Int) : Ans (l_szStateS_F x0 x1) (fun r => Does E 95 [.one (.s .far () 4 (x0.map GState.t)), .one (tI x1)] [(false, [tI r])]) := by
  unfold l_szStateS_F
  refine Ans.ite (fun h0 => ?_) (fun h0 => ?_)
  · exact Ans.some (l_szStateS_P0 x0 x1 h0)
  · exact Ans.some (l_szStateS_P1 x0 x1 h0)
noncomputable def p_l_szStateS (x : List GState) (n : Int) : Int := (l_szStateS_F x n).getD (-1)
theorem tot_l_szStateS (x : List GState) (n : Int) (h : Wf.wf x) : l_szStateS_F x n = some (p_l_szStateS x n) := by
  refine Tot.getD ?_ _
  unfold l_szStateS_F
  refine Tot.cond (Tot.some _) ?_
  exact Tot.some _
theorem T_l_szStateS (x0 : List GState) (x1 : Int) (h : Wf.wf x0) : Does E 95 [.one (.s .far () 4 (x0.map GState.t)), .one (tI x1)] [(false, [tI (p_l_szStateS x0 x1)])] := by
  exact l_szStateS_D x0 x1 _ (tot_l_szStateS x0 x1 h)
theorem le_l_szStateS (x : List GState) (n : Int) (hw : Wf.wf x) (h0 : 0 ≤ n) (h1 : n ≤ 1048576) (h : 0 ≤ p_l_szStateS x n) : p_l_szStateS x n ≤ n ∧ Small.sm x := by
  have e := tot_l_szStateS x n hw
  generalize p_l_szStateS x n = r at *
  unfold l_szStateS_F at e
  obtain ⟨a1, e⟩ := szStep e h
  obtain ⟨b1, c1⟩ := szStr (n := n) (k := x.length) h0 h1 hw.1 a1
  cases e
  exact ⟨b1, small_of c1, fun y _ => trivial⟩
theorem l_szRun_P0 (x0 : LRun) (x1 : Int) (h0 : (decide ((IntKind.wrap .i64 (x1 - (x0.f0.size : Int))) < (0 : Int))) = true) : Does E 71 [.agg (LRun.t .far x0), .one (tI x1)] [(false, [tI (-1 : Int)])] :=
  Does.path (fn := Try.f71) [.no, .b true] [fun _ => (decide ((IntKind.wrap .i64 (x1 - (x0.f0.size : Int))) < (0 : Int))) = true] rfl rfl (fun k => by kernel_rfl) ⟨Ev.c h0, trivial⟩
theorem l_szRun_P1 (x0 : LRun) (x1 : Int) (h0 : (decide ((IntKind.wrap .i64 (x1 - (x0.f0.size : Int))) < (0 : Int))) = false) (h1 : Wf.wf x0.f3) (h2 : (decide ((p_l_szStateS x0.f3 (IntKind.wrap .i64 (x1 - (x0.f0.size : Int)))) < (0 : Int))) = true) : Does E 71 [.agg (LRun.t .far x0), .one (tI x1)] [(false, [tI (-1 : Int)])] :=
  Does.path (fn := Try.f71) [.no, .b false, .ret [(false, [tI (p_l_szStateS x0.f3 (IntKind.wrap .i64 (x1 - (x0.f0.size : Int))))])], .b true] [fun _ => (decide ((IntKind.wrap .i64 (x1 - (x0.f0.size : Int))) < (0 : Int))) = false, fun k => E.C k 95 [.one (.s .far () 4 (x0.f3.map GState.t)), .one (tI (IntKind.wrap .i64 (x1 - (x0.f0.size : Int))))] = some [(false, [tI (p_l_szStateS x0.f3 (IntKind.wrap .i64 (x1 - (x0.f0.size : Int))))])], fun _ => (decide ((p_l_szStateS x0.f3 (IntKind.wrap .i64 (x1 - (x0.f0.size : Int)))) < (0 : Int))) = true] rfl rfl (fun k => by kernel_rfl) ⟨Ev.c h0, T_l_szStateS x0.f3 (IntKind.wrap .i64 (x1 - (x0.f0.size : Int))) h1, Ev.c h2, trivial⟩
theorem l_szRun_P2 (x0 : LRun) (x1 : Int) (h0 : (decide ((IntKind.wrap .i64 (x1 - (x0.f0.size : Int))) < (0 : Int))) = false) (h1 : Wf.wf x0.f3) (h2 : (decide ((p_l_szStateS x0.f3 (IntKind.wrap .i64 (x1 - (x0.f0.size : Int)))) < (0 : Int))) = false) : Does E 71 [.agg (LRun.t .far x0), .one (tI x1)] [(false, [tI (p_l_szStateS x0.f3 (IntKind.wrap .i64 (x1 - (x0.f0.size : Int))))])] :=
  Does.path (fn := Try.f71) [.no, .b false, .ret [(false, [tI (p_l_szStateS x0.f3 (IntKind.wrap .i64 (x1 - (x0.f0.size : Int))))])], .b false] [fun _ => (decide ((IntKind.wrap .i64 (x1 - (x0.f0.size : Int))) < (0 : Int))) = false, fun k => E.C k 95 [.one (.s .far () 4 (x0.f3.map GState.t)), .one (tI (IntKind.wrap .i64 (x1 - (x0.f0.size : Int))))] = some [(false, [tI (p_l_szStateS x0.f3 (IntKind.wrap .i64 (x1 - (x0.f0.size : Int))))])], fun _ => (decide ((p_l_szStateS x0.f3 (IntKind.wrap .i64 (x1 - (x0.f0.size : Int)))) < (0 : Int))) = false] rfl rfl (fun k => by kernel_rfl) ⟨Ev.c h0, T_l_szStateS x0.f3 (IntKind.wrap .i64 (x1 - (x0.f0.size : Int))) h1, Ev.c h2, trivial⟩
noncomputable def l_szRun_F (x0 : LRun) (x1 : Int) : Option (Int) :=
    cond (decide ((IntKind.wrap .i64 (x1 - (x0.f0.size : Int))) < (0 : Int)))
      (some ((-1 : Int)))
      (if Wf.wf x0.f3 then cond (decide ((p_l_szStateS x0.f3 (IntKind.wrap .i64 (x1 - (x0.f0.size : Int)))) < (0 : Int)))
        (some ((-1 : Int)))
        (some (p_l_szStateS x0.f3 (IntKind.wrap .i64 (x1 - (x0.f0.size : Int))))) else none)
theorem l_szRun_D (x0 : LRun) (x1 : Int) : Ans (l_szRun_F x0 x1) (fun r => Does E 71 [.agg (LRun.t .far x0), .one (tI x1)] [(false, [tI r])]) := by
  unfold l_szRun_F
  refine Ans.ite (fun h0 => ?_) (fun h0 => ?_)
  · exact Ans.some (l_szRun_P0 x0 x1 h0)
  · refine Ans.pre (fun h1 => ?_)
    refine Ans.ite (fun h2 => ?_) (fun h2 => ?_)
    · exact Ans.some (l_szRun_P1 x0 x1 h0 h1 h2)
    · exact Ans.some (l_szRun_P2 x0 x1 h0 h1 h2)
noncomputable def p_l_szRun (x : LRun) (n : Int) : Int := (l_szRun_F x n).getD (-1)
theorem tot_l_szRun (x : LRun) (n : Int) (h : Wf.wf x) : l_szRun_F x n = some (p_l_szRun x n) := by
  obtain ⟨w0, w1, w3⟩ := h
  refine Tot.getD ?_ _
  unfold l_szRun_F
  repeat' (first | exact Tot.some _ | apply Tot.cond | refine Tot.ite (by assumption) ?_)
theorem T_l_szRun (x0 : LRun) (x1 : Int) (h : Wf.wf x0) : Does E 71 [.agg (LRun.t .far x0), .one (tI x1)] [(false, [tI (p_l_szRun x0 x1)])] := by
  exact l_szRun_D x0 x1 _ (tot_l_szRun x0 x1 h)
theorem le_l_szRun (x : LRun) (n : Int) (hw : Wf.wf x) (h0 : 0 ≤ n) (h1 : n ≤ 1048576) (h : 0 ≤ p_l_szRun x n) : p_l_szRun x n ≤ n ∧ Small.sm x := by
  have e := tot_l_szRun x n hw
  obtain ⟨w0, w1, w3⟩ := hw
  generalize p_l_szRun x n = r at *
  unfold l_szRun_F at e
  obtain ⟨a1, e⟩ := szStep e h
  obtain ⟨b1, c1⟩ := szStr (n := n) (k := x.f0.size) h0 (by omega) w0 a1
  generalize IntKind.wrap .i64 (n - (x.f0.size : Int)) = m1 at *
  try rw [if_pos w3] at e
  obtain ⟨a2, e⟩ := szStep e h
  try rw [if_pos w3] at e
  obtain ⟨b2, c2⟩ := le_l_szStateS x.f3 m1 w3 a1 (by omega) a2
  generalize p_l_szStateS x.f3 m1 = m2 at *
  cases e
  exact ⟨by omega, ⟨small_of c1, trivial, c2⟩⟩
inductive l_szRunS_X0 where
  | ret (v4 : Int)
  | x0 (v1 : Int)
def l_szRunS_Q0 {q0 : Kd} (v0 : List LRun) (v1 : Int) (v5 : Int) : l_szRunS_X0 → Prop
  | .ret zv4 => Loops E 37 (lpAt Try.f37 0) (stL 27 [(0, .one (.s .far () 5 (v0.map (LRun.t q0)))), (1, .one (tI v1)), (5, .one (tI v5))]) .ret (stL 27 [(4, .one (tI zv4))])
  | .x0 zv1 => Loops E 37 (lpAt Try.f37 0) (stL 27 [(0, .one (.s .far () 5 (v0.map (LRun.t q0)))), (1, .one (tI v1)), (5, .one (tI v5))]) (.exit 0) (stL 27 [(1, .one (tI zv1))])
theorem l_szRunS_R0_0 {q0 : Kd} (v0 : List LRun) (v1 : Int) (v5 : Int) (g0 : LRun) (h0 : (decide (v5 < (v0.length : Int))) = true) (h1 : getI v0 v5 = some g0) (h2 : Wf.wf g0) (h3 : (decide ((p_l_szRun g0 v1) < (0 : Int))) = true) : Round E 37 (lpAt Try.f37 0) (stL 27 [(0, .one (.s .far () 5 (v0.map (LRun.t q0)))), (1, .one (tI v1)), (5, .one (tI v5))]) .ret (stL 27 [(4, .one (tI (-1 : Int)))]) :=
  Round.path [.val (.int .i64 (v0.length : Int)), .b true, .row ((LRun.t q0) g0), .ret [(false, [tI (p_l_szRun g0 v1)])], .b true] [fun _ => ((v0.map (LRun.t q0)).length : Int) = (v0.length : Int), fun _ => (decide (v5 < (v0.length : Int))) = true, fun _ => 0 ≤ v5 ∧ (v0.map (LRun.t q0))[v5.toNat]? = some ((LRun.t q0) g0), fun k => E.C k 71 [.agg (LRun.t .far g0), .one (tI v1)] = some [(false, [tI (p_l_szRun g0 v1)])], fun _ => (decide ((p_l_szRun g0 v1) < (0 : Int))) = true] (fun k => by kernel_rfl) ⟨Ev.c lenMap, Ev.c h0, Ev.c (getRow h1), T_l_szRun g0 v1 h2, Ev.c h3, trivial⟩
theorem l_szRunS_R0_1 {q0 : Kd} (v0 : List LRun) (v1 : Int) (v5 : Int) (g0 : LRun) (h0 : (decide (v5 < (v0.length : Int))) = true) (h1 : getI v0 v5 = some g0) (h2 : Wf.wf g0) (h3 : (decide ((p_l_szRun g0 v1) < (0 : Int))) = false) : Round E 37 (lpAt Try.f37 0) (stL 27 [(0, .one (.s .far () 5 (v0.map (LRun.t q0)))), (1, .one (tI v1)), (5, .one (tI v5))]) .normal (stL 27 [(0, .one (.s .far () 5 (v0.map (LRun.t q0)))), (1, .one (tI (p_l_szRun g0 v1))), (5, .one (tI (inc v5)))]) :=
  Round.path [.val (.int .i64 (v0.length : Int)), .b true, .row ((LRun.t q0) g0), .ret [(false, [tI (p_l_szRun g0 v1)])], .b false] [fun _ => ((v0.map (LRun.t q0)).length : Int) = (v0.length : Int), fun _ => (decide (v5 < (v0.length : Int))) = true, fun _ => 0 ≤ v5 ∧ (v0.map (LRun.t q0))[v5.toNat]? = some ((LRun.t q0) g0), fun k => E.C k 71 [.agg (LRun.t .far g0), .one (tI v1)] = some [(false, [tI (p_l_szRun g0 v1)])], fun _ => (decide ((p_l_szRun g0 v1) < (0 : Int))) = false] (fun k => by kernel_rfl) ⟨Ev.c lenMap, Ev.c h0, Ev.c (getRow h1), T_l_szRun g0 v1 h2, Ev.c h3, trivial⟩
theorem l_szRunS_R0_2 {q0 : Kd} (v0 : List LRun) (v1 : Int) (v5 : Int) (h0 : (decide (v5 < (v0.length : Int))) = false) : Round E 37 (lpAt Try.f37 0) (stL 27 [(0, .one (.s .far () 5 (v0.map (LRun.t q0)))), (1, .one (tI v1)), (5, .one (tI v5))]) (.exit 0) (stL 27 [(1, .one (tI v1))]) :=
  Round.path [.val (.int .i64 (v0.length : Int)), .b false] [fun _ => ((v0.map (LRun.t q0)).length : Int) = (v0.length : Int), fun _ => (decide (v5 < (v0.length : Int))) = false] (fun k => by kernel_rfl) ⟨Ev.c lenMap, Ev.c h0, trivial⟩
noncomputable def l_szRunS_l0  : List LRun → Nat → Int → Option l_szRunS_X0
  | [], i, v1 => some (.x0 v1)
  | hd :: rest, i, v1 => if Wf.wf hd then cond (decide ((p_l_szRun hd v1) < (0 : Int)))
    (some (.ret (-1 : Int)))
    (l_szRunS_l0 rest (i + 1) (p_l_szRun hd v1)) else none
theorem l_szRunS_L0 {q0 : Kd} (v0 : List LRun) (rest : List LRun) : ∀ (i : Nat) (v1 : Int), (v0).drop i = rest → v0.length ≤ 9223372036854775807 → Ans (l_szRunS_l0 rest i v1) (l_szRunS_Q0 (q0 := q0) v0 v1 (i : Int)) := by
  induction rest with
  | nil =>
    intro i v1 hE hl
    have hb := foldEnd hE
    unfold l_szRunS_l0
    exact Ans.some (Loops.stop (l_szRunS_R0_2 (q0 := q0) v0 v1 (i : Int) hb) (by intro h; cases h))
  | cons hd rest ih =>
    intro i v1 hE hl
    have hb := foldMore hE
    have hw := foldNext hE hl
    have hE2 := foldRest hE
    have hg := foldGet hE
    unfold l_szRunS_l0
    refine Ans.pre (fun h2 => ?_)
    refine Ans.ite (fun h3 => ?_) (fun h3 => ?_)
    · exact Ans.some (Loops.stop (l_szRunS_R0_0 (q0 := q0) v0 v1 (i : Int) hd hb hg h2 h3) (by intro h; cases h))
    · exact (ih (i + 1) (p_l_szRun hd v1) hE2 hl).mono fun y hy => by have r := l_szRunS_R0_1 (q0 := q0) v0 v1 (i : Int) hd hb hg h2 h3; rw [hw] at r; cases y <;> exact Loops.next r hy
theorem l_szRunS_P0 {q0 : Kd} (x0 : List LRun) (x1 : Int) (h0 : (decide ((IntKind.wrap .i64 (x1 - (x0.length : Int))) < (0 : Int))) = true) : Does E 37 [.one (.s .far () 5 (x0.map (LRun.t q0))), .one (tI x1)] [(false, [tI (-1 : Int)])] :=
  Does.path (fn := Try.f37) [.val (.int .i64 (x0.length : Int)), .no, .b true] [fun _ => ((x0.map (LRun.t q0)).length : Int) = (x0.length : Int), fun _ => (decide ((IntKind.wrap .i64 (x1 - (x0.length : Int))) < (0 : Int))) = true] rfl rfl (fun k => by kernel_rfl) ⟨Ev.c lenMap, Ev.c h0, trivial⟩
theorem l_szRunS_P1 {q0 : Kd} (x0 : List LRun) (x1 : Int) (w0_4 : Int) (h0 : (decide ((IntKind.wrap .i64 (x1 - (x0.length : Int))) < (0 : Int))) = false) (h1 : Loops E 37 (lpAt Try.f37 0) (stL 27 [(0, .one (.s .far () 5 (x0.map (LRun.t q0)))), (1, .one (tI (IntKind.wrap .i64 (x1 - (x0.length : Int))))), (5, .one (tI (0 : Int)))]) .ret (stL 27 [(4, .one (tI w0_4))])) : Does E 37 [.one (.s .far () 5 (x0.map (LRun.t q0))), .one (tI x1)] [(false, [tI w0_4])] :=
  Does.path (fn := Try.f37) [.val (.int .i64 (x0.length : Int)), .no, .b false, .lp .ret (stL 27 [(4, .one (tI w0_4))])] [fun _ => ((x0.map (LRun.t q0)).length : Int) = (x0.length : Int), fun _ => (decide ((IntKind.wrap .i64 (x1 - (x0.length : Int))) < (0 : Int))) = false, fun k => LoopK E 37 (lpAt Try.f37 0) (stL 27 [(0, .one (.s .far () 5 (x0.map (LRun.t q0)))), (1, .one (tI (IntKind.wrap .i64 (x1 - (x0.length : Int))))), (5, .one (tI (0 : Int)))]) .ret (stL 27 [(4, .one (tI w0_4))]) k k] rfl rfl (fun k => by kernel_rfl) ⟨Ev.c lenMap, Ev.c h0, Loops.ev h1, trivial⟩
theorem l_szRunS_P2 {q0 : Kd} (x0 : List LRun) (x1 : Int) (w0_1 : Int) (h0 : (decide ((IntKind.wrap .i64 (x1 - (x0.length : Int))) < (0 : Int))) = false) (h1 : Loops E 37 (lpAt Try.f37 0) (stL 27 [(0, .one (.s .far () 5 (x0.map (LRun.t q0)))), (1, .one (tI (IntKind.wrap .i64 (x1 - (x0.length : Int))))), (5, .one (tI (0 : Int)))]) (.exit 0) (stL 27 [(1, .one (tI w0_1))])) : Does E 37 [.one (.s .far () 5 (x0.map (LRun.t q0))), .one (tI x1)] [(false, [tI w0_1])] :=
  Does.path (fn := Try.f37) [.val (.int .i64 (x0.length : Int)), .no, .b false, .lp (.exit 0) (stL 27 [(1, .one (tI w0_1))])] [fun _ => ((x0.map (LRun.t q0)).length : Int) = (x0.length : Int), fun _ => (decide ((IntKind.wrap .i64 (x1 - (x0.length : Int))) < (0 : Int))) = false, fun k => LoopK E 37 (lpAt Try.f37 0) (stL 27 [(0, .one (.s .far () 5 (x0.map (LRun.t q0)))), (1, .one (tI (IntKind.wrap .i64 (x1 - (x0.length : Int))))), (5, .one (tI (0 : Int)))]) (.exit 0) (stL 27 [(1, .one (tI w0_1))]) k k] rfl rfl (fun k => by kernel_rfl) ⟨Ev.c lenMap, Ev.c h0, Loops.ev h1, trivial⟩
noncomputable def l_szRunS_F (x0 : List LRun) (x1 : Int) : Option (Int) :=
    cond (decide ((IntKind.wrap .i64 (x1 - (x0.length : Int))) < (0 : Int)))
      (some ((-1 : Int)))
      (if x0.length ≤ 9223372036854775807 then (l_szRunS_l0 x0 0 (IntKind.wrap .i64 (x1 - (x0.length : Int)))).bind fun y => match y with
        | .ret w0_4 => (some (w0_4))
        | .x0 w0_1 => (some (w0_1)) else none)
theorem l_szRunS_D {q0 : Kd} (x0 : List LRun) (x1 : Int) : Ans (l_szRunS_F x0 x1) (fun r => Does E 37 [.one (.s .far () 5 (x0.map (LRun.t q0))), .one (tI x1)] [(false, [tI r])]) := by
  unfold l_szRunS_F
  refine Ans.ite (fun h0 => ?_) (fun h0 => ?_)
  · exact Ans.some (l_szRunS_P0 (q0 := q0) x0 x1 h0)
  · refine Ans.pre (fun hl2 => ?_)
    refine Ans.bind (fun y hy => ?_)
    replace hy := l_szRunS_L0 (q0 := q0) x0 x0 0 (IntKind.wrap .i64 (x1 - (x0.length : Int))) rfl hl2 y hy
    cases y with
    | ret w0_4 =>
      have h1 := hy
      exact Ans.some (l_szRunS_P1 (q0 := q0) x0 x1 w0_4 h0 h1)
    | x0 w0_1 =>
      have h1 := hy
      exact Ans.some (l_szRunS_P2 (q0 := q0) x0 x1 w0_1 h0 h1)
noncomputable def p_l_szRunS (x : List LRun) (n : Int) : Int := (l_szRunS_F x n).getD (-1)
theorem tl_l_szRunS : ∀ (rest : List LRun) (i : Nat) (n : Int), (∀ y ∈ rest, Wf.wf y) → Tot (l_szRunS_l0 rest i n)
  | [], i, n, _ => Tot.some _
  | x :: rest, i, n, h => by
    have hx := h x (by simp)
    have ih := fun i n => tl_l_szRunS rest i n fun y hy => h y (by simp [hy])
    unfold l_szRunS_l0
    repeat' (first | exact Tot.some _ | exact ih _ _ | apply Tot.cond | refine Tot.ite (by assumption) ?_)
theorem tot_l_szRunS (x : List LRun) (n : Int) (h : Wf.wf x) : l_szRunS_F x n = some (p_l_szRunS x n) := by
  refine Tot.getD ?_ _
  unfold l_szRunS_F
  refine Tot.cond (Tot.some _) ?_
  refine Tot.ite h.1 (Tot.bind (tl_l_szRunS x 0 _ h.2) fun y hy => ?_)
  cases y <;> exact Tot.some _
theorem T_l_szRunS {q0 : Kd} (x0 : List LRun) (x1 : Int) (h : Wf.wf x0) : Does E 37 [.one (.s .far () 5 (x0.map (LRun.t q0))), .one (tI x1)] [(false, [tI (p_l_szRunS x0 x1)])] := by
  exact l_szRunS_D x0 x1 _ (tot_l_szRunS x0 x1 h)
theorem lel_l_szRunS : ∀ (rest : List LRun) (i : Nat) (n : Int), (∀ y ∈ rest, Wf.wf y) → 0 ≤ n → n ≤ 1048576 → ∀ y, l_szRunS_l0 rest i n = some y →
    (∃ m, y = .x0 m ∧ 0 ≤ m ∧ m ≤ n ∧ ∀ z ∈ rest, Small.sm z) ∨ ∃ m, y = .ret m ∧ m < 0
  | [], i, n, _, h0, h1, y, e => by cases e; exact .inl ⟨n, rfl, h0, Int.le_refl _, fun z hz => by cases hz⟩
  | x :: rest, i, n, h, h0, h1, y, e => by
    have hx := h x (by simp)
    unfold l_szRunS_l0 at e
    try rw [if_pos hx] at e
    by_cases q : p_l_szRun x n < 0
    · rw [decide_eq_true q, cond_true] at e
      cases e
      exact .inr ⟨_, rfl, by omega⟩
    · rw [decide_eq_false q, cond_false] at e
      try rw [if_pos hx] at e
      obtain ⟨b, c⟩ := le_l_szRun x n hx h0 h1 (by omega)
      rcases lel_l_szRunS rest _ _ (fun y hy => h y (by simp [hy])) (by omega) (by omega) y e with ⟨m, g1, g2, g3, g4⟩ | g
      · refine .inl ⟨m, g1, g2, by omega, fun z hz => ?_⟩
        rcases List.mem_cons.1 hz with rfl | hz
        · exact c
        · exact g4 z hz
      · exact .inr g
theorem le_l_szRunS (x : List LRun) (n : Int) (hw : Wf.wf x) (h0 : 0 ≤ n) (h1 : n ≤ 1048576) (h : 0 ≤ p_l_szRunS x n) : p_l_szRunS x n ≤ n ∧ Small.sm x := by
  have e := tot_l_szRunS x n hw
  generalize p_l_szRunS x n = r at *
  unfold l_szRunS_F at e
  obtain ⟨a1, e⟩ := szStep e h
  obtain ⟨b1, c1⟩ := szStr (n := n) (k := x.length) h0 h1 hw.1 a1
  rw [if_pos hw.1, Option.bind_eq_some_iff] at e
  obtain ⟨y, e1, e2⟩ := e
  rcases lel_l_szRunS x 0 _ hw.2 a1 (by omega) y e1 with ⟨m, rfl, g2, g3, g4⟩ | ⟨m, rfl, g⟩
  · cases e2; exact ⟨by omega, small_of c1, g4⟩
  · cases e2; omega
theorem l_szBoard_P0 {q0 : Kd} (x0 : LBoard) (x1 : Int) (h0 : Wf.wf x0.f0) (h1 : (decide ((p_l_szSessionS x0.f0 x1) < (0 : Int))) = true) : Does E 12 [.agg (LBoard.t .far q0 x0), .one (tI x1)] [(false, [tI (-1 : Int)])] :=
  Does.path (fn := Try.f12) [.ret [(false, [tI (p_l_szSessionS x0.f0 x1)])], .b true] [fun k => E.C k 35 [.one (.s .far () 3 (x0.f0.map GSession.t)), .one (tI x1)] = some [(false, [tI (p_l_szSessionS x0.f0 x1)])], fun _ => (decide ((p_l_szSessionS x0.f0 x1) < (0 : Int))) = true] rfl rfl (fun k => by kernel_rfl) ⟨T_l_szSessionS x0.f0 x1 h0, Ev.c h1, trivial⟩
theorem l_szBoard_P1 {q0 : Kd} (x0 : LBoard) (x1 : Int) (h0 : Wf.wf x0.f0) (h1 : (decide ((p_l_szSessionS x0.f0 x1) < (0 : Int))) = false) (h2 : Wf.wf x0.f1) (h3 : (decide ((p_l_szPlanS x0.f1 (p_l_szSessionS x0.f0 x1)) < (0 : Int))) = true) : Does E 12 [.agg (LBoard.t .far q0 x0), .one (tI x1)] [(false, [tI (-1 : Int)])] :=
  Does.path (fn := Try.f12) [.ret [(false, [tI (p_l_szSessionS x0.f0 x1)])], .b false, .ret [(false, [tI (p_l_szPlanS x0.f1 (p_l_szSessionS x0.f0 x1))])], .b true] [fun k => E.C k 35 [.one (.s .far () 3 (x0.f0.map GSession.t)), .one (tI x1)] = some [(false, [tI (p_l_szSessionS x0.f0 x1)])], fun _ => (decide ((p_l_szSessionS x0.f0 x1) < (0 : Int))) = false, fun k => E.C k 36 [.one (.s .far () 9 (x0.f1.map (LPlan.t q0 q0))), .one (tI (p_l_szSessionS x0.f0 x1))] = some [(false, [tI (p_l_szPlanS x0.f1 (p_l_szSessionS x0.f0 x1))])], fun _ => (decide ((p_l_szPlanS x0.f1 (p_l_szSessionS x0.f0 x1)) < (0 : Int))) = true] rfl rfl (fun k => by kernel_rfl) ⟨T_l_szSessionS x0.f0 x1 h0, Ev.c h1, T_l_szPlanS x0.f1 (p_l_szSessionS x0.f0 x1) h2, Ev.c h3, trivial⟩
theorem l_szBoard_P2 {q0 : Kd} (x0 : LBoard) (x1 : Int) (h0 : Wf.wf x0.f0) (h1 : (decide ((p_l_szSessionS x0.f0 x1) < (0 : Int))) = false) (h2 : Wf.wf x0.f1) (h3 : (decide ((p_l_szPlanS x0.f1 (p_l_szSessionS x0.f0 x1)) < (0 : Int))) = false) (h4 : Wf.wf x0.f2) (h5 : (decide ((p_l_szRunS x0.f2 (p_l_szPlanS x0.f1 (p_l_szSessionS x0.f0 x1))) < (0 : Int))) = true) : Does E 12 [.agg (LBoard.t .far q0 x0), .one (tI x1)] [(false, [tI (-1 : Int)])] :=
  Does.path (fn := Try.f12) [.ret [(false, [tI (p_l_szSessionS x0.f0 x1)])], .b false, .ret [(false, [tI (p_l_szPlanS x0.f1 (p_l_szSessionS x0.f0 x1))])], .b false, .ret [(false, [tI (p_l_szRunS x0.f2 (p_l_szPlanS x0.f1 (p_l_szSessionS x0.f0 x1)))])], .b true] [fun k => E.C k 35 [.one (.s .far () 3 (x0.f0.map GSession.t)), .one (tI x1)] = some [(false, [tI (p_l_szSessionS x0.f0 x1)])], fun _ => (decide ((p_l_szSessionS x0.f0 x1) < (0 : Int))) = false, fun k => E.C k 36 [.one (.s .far () 9 (x0.f1.map (LPlan.t q0 q0))), .one (tI (p_l_szSessionS x0.f0 x1))] = some [(false, [tI (p_l_szPlanS x0.f1 (p_l_szSessionS x0.f0 x1))])], fun _ => (decide ((p_l_szPlanS x0.f1 (p_l_szSessionS x0.f0 x1)) < (0 : Int))) = false, fun k => E.C k 37 [.one (.s .far () 5 (x0.f2.map (LRun.t q0))), .one (tI (p_l_szPlanS x0.f1 (p_l_szSessionS x0.f0 x1)))] = some [(false, [tI (p_l_szRunS x0.f2 (p_l_szPlanS x0.f1 (p_l_szSessionS x0.f0 x1)))])], fun _ => (decide ((p_l_szRunS x0.f2 (p_l_szPlanS x0.f1 (p_l_szSessionS x0.f0 x1))) < (0 : Int))) = true] rfl rfl (fun k => by kernel_rfl) ⟨T_l_szSessionS x0.f0 x1 h0, Ev.c h1, T_l_szPlanS x0.f1 (p_l_szSessionS x0.f0 x1) h2, Ev.c h3, T_l_szRunS x0.f2 (p_l_szPlanS x0.f1 (p_l_szSessionS x0.f0 x1)) h4, Ev.c h5, trivial⟩
theorem l_szBoard_P3 {q0 : Kd} (x0 : LBoard) (x1 : Int) (h0 : Wf.wf x0.f0) (h1 : (decide ((p_l_szSessionS x0.f0 x1) < (0 : Int))) = false) (h2 : Wf.wf x0.f1) (h3 : (decide ((p_l_szPlanS x0.f1 (p_l_szSessionS x0.f0 x1)) < (0 : Int))) = false) (h4 : Wf.wf x0.f2) (h5 : (decide ((p_l_szRunS x0.f2 (p_l_szPlanS x0.f1 (p_l_szSessionS x0.f0 x1))) < (0 : Int))) = false) : Does E 12 [.agg (LBoard.t .far q0 x0), .one (tI x1)] [(false, [tI (p_l_szRunS x0.f2 (p_l_szPlanS x0.f1 (p_l_szSessionS x0.f0 x1)))])] :=
  Does.path (fn := Try.f12) [.ret [(false, [tI (p_l_szSessionS x0.f0 x1)])], .b false, .ret [(false, [tI (p_l_szPlanS x0.f1 (p_l_szSessionS x0.f0 x1))])], .b false, .ret [(false, [tI (p_l_szRunS x0.f2 (p_l_szPlanS x0.f1 (p_l_szSessionS x0.f0 x1)))])], .b false] [fun k => E.C k 35 [.one (.s .far () 3 (x0.f0.map GSession.t)), .one (tI x1)] = some [(false, [tI (p_l_szSessionS x0.f0 x1)])], fun _ => (decide ((p_l_szSessionS x0.f0 x1) < (0 : Int))) = false, fun k => E.C k 36 [.one (.s .far () 9 (x0.f1.map (LPlan.t q0 q0))), .one (tI (p_l_szSessionS x0.f0 x1))] = some [(false, [tI (p_l_szPlanS x0.f1 (p_l_szSessionS x0.f0 x1))])], fun _ => (decide ((p_l_szPlanS x0.f1 (p_l_szSessionS x0.f0 x1)) < (0 : Int))) = false, fun k => E.C k 37 [.one (.s .far () 5 (x0.f2.map (LRun.t q0))), .one (tI (p_l_szPlanS x0.f1 (p_l_szSessionS x0.f0 x1)))] = some [(false, [tI (p_l_szRunS x0.f2 (p_l_szPlanS x0.f1 (p_l_szSessionS x0.f0 x1)))])], fun _ => (decide ((p_l_szRunS x0.f2 (p_l_szPlanS x0.f1 (p_l_szSessionS x0.f0 x1))) < (0 : Int))) = false] rfl rfl (fun k => by kernel_rfl) ⟨T_l_szSessionS x0.f0 x1 h0, Ev.c h1, T_l_szPlanS x0.f1 (p_l_szSessionS x0.f0 x1) h2, Ev.c h3, T_l_szRunS x0.f2 (p_l_szPlanS x0.f1 (p_l_szSessionS x0.f0 x1)) h4, Ev.c h5, trivial⟩
noncomputable def l_szBoard_F (x0 : LBoard) (x1 : Int) : Option (Int) :=
    if Wf.wf x0.f0 then cond (decide ((p_l_szSessionS x0.f0 x1) < (0 : Int)))
      (some ((-1 : Int)))
      (if Wf.wf x0.f1 then cond (decide ((p_l_szPlanS x0.f1 (p_l_szSessionS x0.f0 x1)) < (0 : Int)))
        (some ((-1 : Int)))
        (if Wf.wf x0.f2 then cond (decide ((p_l_szRunS x0.f2 (p_l_szPlanS x0.f1 (p_l_szSessionS x0.f0 x1))) < (0 : Int)))
          (some ((-1 : Int)))
          (some (p_l_szRunS x0.f2 (p_l_szPlanS x0.f1 (p_l_szSessionS x0.f0 x1)))) else none) else none) else none
theorem l_szBoard_D {q0 : Kd} (x0 : LBoard) (x1 : Int) : Ans (l_szBoard_F x0 x1) (fun r => Does E 12 [.agg (LBoard.t .far q0 x0), .one (tI x1)] [(false, [tI r])]) := by
  unfold l_szBoard_F
  refine Ans.pre (fun h0 => ?_)
  refine Ans.ite (fun h1 => ?_) (fun h1 => ?_)
  · exact Ans.some (l_szBoard_P0 (q0 := q0) x0 x1 h0 h1)
  · refine Ans.pre (fun h2 => ?_)
    refine Ans.ite (fun h3 => ?_) (fun h3 => ?_)
    · exact Ans.some (l_szBoard_P1 (q0 := q0) x0 x1 h0 h1 h2 h3)
    · refine Ans.pre (fun h4 => ?_)
      refine Ans.ite (fun h5 => ?_) (fun h5 => ?_)
      · exact Ans.some (l_szBoard_P2 (q0 := q0) x0 x1 h0 h1 h2 h3 h4 h5)
      · exact Ans.some (l_szBoard_P3 (q0 := q0) x0 x1 h0 h1 h2 h3 h4 h5)
noncomputable def p_l_szBoard (x : LBoard) (n : Int) : Int := (l_szBoard_F x n).getD (-1)
theorem tot_l_szBoard (x : LBoard) (n : Int) (h : Wf.wf x) : l_szBoard_F x n = some (p_l_szBoard x n) := by
  obtain ⟨w0, w1, w2⟩ := h
  refine Tot.getD ?_ _
  unfold l_szBoard_F
  repeat' (first | exact Tot.some _ | apply Tot.cond | refine Tot.ite (by assumption) ?_)
theorem T_l_szBoard {q0 : Kd} (x0 : LBoard) (x1 : Int) (h : Wf.wf x0) : Does E 12 [.agg (LBoard.t .far q0 x0), .one (tI x1)] [(false, [tI (p_l_szBoard x0 x1)])] := by
  exact l_szBoard_D x0 x1 _ (tot_l_szBoard x0 x1 h)
theorem le_l_szBoard (x : LBoard) (n : Int) (hw : Wf.wf x) (h0 : 0 ≤ n) (h1 : n ≤ 1048576) (h : 0 ≤ p_l_szBoard x n) : p_l_szBoard x n ≤ n ∧ Small.sm x := by
  have e := tot_l_szBoard x n hw
  obtain ⟨w0, w1, w2⟩ := hw
  generalize p_l_szBoard x n = r at *
  unfold l_szBoard_F at e
  try rw [if_pos w0] at e
  obtain ⟨a1, e⟩ := szStep e h
  try rw [if_pos w0] at e
  obtain ⟨b1, c1⟩ := le_l_szSessionS x.f0 n w0 h0 (by omega) a1
  generalize p_l_szSessionS x.f0 n = m1 at *
  try rw [if_pos w1] at e
  obtain ⟨a2, e⟩ := szStep e h
  try rw [if_pos w1] at e
  obtain ⟨b2, c2⟩ := le_l_szPlanS x.f1 m1 w1 a1 (by omega) a2
  generalize p_l_szPlanS x.f1 m1 = m2 at *
  try rw [if_pos w2] at e
  obtain ⟨a3, e⟩ := szStep e h
  try rw [if_pos w2] at e
  obtain ⟨b3, c3⟩ := le_l_szRunS x.f2 m2 w2 a2 (by omega) a3
  generalize p_l_szRunS x.f2 m2 = m3 at *
  cases e
  exact ⟨by omega, ⟨c1, c2, c3⟩⟩
theorem l_toSession_P0 (x0 : GSession)  : Does E 72 [.agg (GSession.t x0)] [(true, GSession.t x0)] :=
  Does.path (fn := Try.f72) [] [] rfl rfl (fun k => by kernel_rfl) trivial
noncomputable def l_toSession_F (x0 : GSession) : Option (GSession) :=
    some (x0)
theorem l_toSession_D (x0 : GSession) : Ans (l_toSession_F x0) (fun r => Does E 72 [.agg (GSession.t x0)] [(true, GSession.t r)]) := by
  unfold l_toSession_F
  exact Ans.some (l_toSession_P0 x0)
def p_l_toSession (x : GSession) : GSession := x
theorem T_l_toSession (x0 : GSession) (h : Small.sm x0) : Does E 72 [.agg (GSession.t x0)] [(true, GSession.t (p_l_toSession x0))] := by
  have w2 : Small.sm x0.f2 := h
  exact l_toSession_D x0 _ (by
    unfold l_toSession_F
    repeat rw [if_pos (by assumption)]
    rfl)
inductive l_toSessionS_X0 where
  | x0 (v3 : List GSession)
def l_toSessionS_Q0 (v0 : List GSession) (v3 : List GSession) (v4 : Int) : l_toSessionS_X0 → Prop
  | .x0 zv3 => Loops E 38 (lpAt Try.f38 0) (stL 23 [(0, .one (.s .far () 3 (v0.map GSession.t))), (3, .one (.s .own () 3 (v3.map GSession.t))), (4, .one (tI v4))]) (.exit 0) (stL 23 [(3, .one (.s .own () 3 (zv3.map GSession.t)))])
theorem l_toSessionS_R0_0 (v0 : List GSession) (v3 : List GSession) (v4 : Int) (g0 : GSession) (g1 : GSession) (h0 : (decide (v4 < (v0.length : Int))) = true) (h1 : getI v0 v4 = some g0) (h2 : Small.sm g0) (h3 : getI v3 v4 = some g1) : Round E 38 (lpAt Try.f38 0) (stL 23 [(0, .one (.s .far () 3 (v0.map GSession.t))), (3, .one (.s .own () 3 (v3.map GSession.t))), (4, .one (tI v4))]) .normal (stL 23 [(0, .one (.s .far () 3 (v0.map GSession.t))), (3, .one (.s .own () 3 ((v3.set v4.toNat (p_l_toSession g0)).map GSession.t))), (4, .one (tI (inc v4)))]) :=
  Round.path [.val (.int .i64 (v0.length : Int)), .b true, .row (GSession.t g0), .ret [(true, GSession.t (p_l_toSession g0))], .row (GSession.t g1), .rows ((v3.set v4.toNat (p_l_toSession g0)).map GSession.t)] [fun _ => ((v0.map GSession.t).length : Int) = (v0.length : Int), fun _ => (decide (v4 < (v0.length : Int))) = true, fun _ => 0 ≤ v4 ∧ (v0.map GSession.t)[v4.toNat]? = some (GSession.t g0), fun k => E.C k 72 [.agg (GSession.t g0)] = some [(true, GSession.t (p_l_toSession g0))], fun _ => 0 ≤ v4 ∧ v4 < ((v3.map GSession.t).length : Int), fun _ => (v3.map GSession.t)[0 + v4.toNat]? = some (GSession.t g1), fun _ => (v3.map GSession.t).set (0 + v4.toNat) (spliceAt (GSession.t g1) 0 [tI ((p_l_toSession g0).f0), tI ((p_l_toSession g0).f1), tS ((p_l_toSession g0).f2)]) = (v3.set v4.toNat (p_l_toSession g0)).map GSession.t] (fun k => by kernel_rfl) ⟨Ev.c lenMap, Ev.c h0, Ev.c (getRow h1), T_l_toSession g0 h2, Ev.c (getLt h3), Ev.c (getRow0 h3), Ev.c (setMap (by rfl)), trivial⟩
theorem l_toSessionS_R0_1 (v0 : List GSession) (v3 : List GSession) (v4 : Int) (h0 : (decide (v4 < (v0.length : Int))) = false) : Round E 38 (lpAt Try.f38 0) (stL 23 [(0, .one (.s .far () 3 (v0.map GSession.t))), (3, .one (.s .own () 3 (v3.map GSession.t))), (4, .one (tI v4))]) (.exit 0) (stL 23 [(3, .one (.s .own () 3 (v3.map GSession.t)))]) :=
  Round.path [.val (.int .i64 (v0.length : Int)), .b false] [fun _ => ((v0.map GSession.t).length : Int) = (v0.length : Int), fun _ => (decide (v4 < (v0.length : Int))) = false] (fun k => by kernel_rfl) ⟨Ev.c lenMap, Ev.c h0, trivial⟩
noncomputable def l_toSessionS_l0  : List GSession → Nat → (List GSession) → Option l_toSessionS_X0
  | [], i, v3 => some (.x0 v3)
  | hd :: rest, i, v3 => if Small.sm hd then (getI v3 (i : Int)).bind fun g1 => l_toSessionS_l0 rest (i + 1) (v3.set (i : Int).toNat (p_l_toSession hd)) else none
theorem l_toSessionS_L0 (v0 : List GSession) (rest : List GSession) : ∀ (i : Nat) (v3 : List GSession), (v0).drop i = rest → v0.length ≤ 9223372036854775807 → Ans (l_toSessionS_l0 rest i v3) (l_toSessionS_Q0 v0 v3 (i : Int)) := by
  induction rest with
  | nil =>
    intro i v3 hE hl
    have hb := foldEnd hE
    unfold l_toSessionS_l0
    exact Ans.some (Loops.stop (l_toSessionS_R0_1 v0 v3 (i : Int) hb) (by intro h; cases h))
  | cons hd rest ih =>
    intro i v3 hE hl
    have hb := foldMore hE
    have hw := foldNext hE hl
    have hE2 := foldRest hE
    have hg := foldGet hE
    unfold l_toSessionS_l0
    refine Ans.pre (fun h2 => ?_)
    refine Ans.bind (fun g1 h3 => ?_)
    exact (ih (i + 1) (v3.set (i : Int).toNat (p_l_toSession hd)) hE2 hl).mono fun y hy => by have r := l_toSessionS_R0_0 v0 v3 (i : Int) hd g1 hb hg h2 h3; rw [hw] at r; cases y <;> exact Loops.next r hy
theorem l_toSessionS_P0 (x0 : List GSession) (w0_3 : List GSession) (h0 : 0 ≤ (x0.length : Int) ∧ (x0.length : Int) ≤ (x0.length : Int) ∧ ((32 : Nat) : Int) * (x0.length : Int) ≤ 281474976710656 ∧ (x0.length : Int) ≤ 4611686018427387904) (h1 : Loops E 38 (lpAt Try.f38 0) (stL 23 [(0, .one (.s .far () 3 (x0.map GSession.t))), (3, .one (.s .own () 3 ((List.replicate (x0.length : Int).toNat (GSession.mk (0 : Int) (0 : Int) ByteArray.empty)).map GSession.t))), (4, .one (tI (0 : Int)))]) (.exit 0) (stL 23 [(3, .one (.s .own () 3 (w0_3.map GSession.t)))])) : Does E 38 [.one (.s .far () 3 (x0.map GSession.t))] [(false, [.s .own () 3 (w0_3.map GSession.t)])] :=
  Does.path (fn := Try.f38) [.val (.int .i64 (x0.length : Int)), .rows ((List.replicate (x0.length : Int).toNat (GSession.mk (0 : Int) (0 : Int) ByteArray.empty)).map GSession.t), .lp (.exit 0) (stL 23 [(3, .one (.s .own () 3 (w0_3.map GSession.t)))])] [fun _ => ((x0.map GSession.t).length : Int) = (x0.length : Int), fun _ => 0 ≤ (x0.length : Int) ∧ (x0.length : Int) ≤ (x0.length : Int) ∧ ((32 : Nat) : Int) * (x0.length : Int) ≤ 281474976710656 ∧ (x0.length : Int) ≤ 4611686018427387904, fun _ => List.replicate (x0.length : Int).toNat [tI (0 : Int), tI (0 : Int), tS ByteArray.empty] = (List.replicate (x0.length : Int).toNat (GSession.mk (0 : Int) (0 : Int) ByteArray.empty)).map GSession.t, fun k => LoopK E 38 (lpAt Try.f38 0) (stL 23 [(0, .one (.s .far () 3 (x0.map GSession.t))), (3, .one (.s .own () 3 ((List.replicate (x0.length : Int).toNat (GSession.mk (0 : Int) (0 : Int) ByteArray.empty)).map GSession.t))), (4, .one (tI (0 : Int)))]) (.exit 0) (stL 23 [(3, .one (.s .own () 3 (w0_3.map GSession.t)))]) k k] rfl rfl (fun k => by kernel_rfl) ⟨Ev.c lenMap, Ev.c h0, Ev.c (repMap rfl), Loops.ev h1, trivial⟩
noncomputable def l_toSessionS_F (x0 : List GSession) : Option ((List GSession)) :=
    if 0 ≤ (x0.length : Int) ∧ (x0.length : Int) ≤ (x0.length : Int) ∧ ((32 : Nat) : Int) * (x0.length : Int) ≤ 281474976710656 ∧ (x0.length : Int) ≤ 4611686018427387904 then if x0.length ≤ 9223372036854775807 then (l_toSessionS_l0 x0 0 (List.replicate (x0.length : Int).toNat (GSession.mk (0 : Int) (0 : Int) ByteArray.empty))).bind fun y => match y with
      | .x0 w0_3 => (some (w0_3)) else none else none
theorem l_toSessionS_D (x0 : List GSession) : Ans (l_toSessionS_F x0) (fun r => Does E 38 [.one (.s .far () 3 (x0.map GSession.t))] [(false, [.s .own () 3 (r.map GSession.t)])]) := by
  unfold l_toSessionS_F
  refine Ans.pre (fun h0 => ?_)
  refine Ans.pre (fun hl1 => ?_)
  refine Ans.bind (fun y hy => ?_)
  replace hy := l_toSessionS_L0 x0 x0 0 (List.replicate (x0.length : Int).toNat (GSession.mk (0 : Int) (0 : Int) ByteArray.empty)) rfl hl1 y hy
  cases y with
  | x0 w0_3 =>
    have h1 := hy
    exact Ans.some (l_toSessionS_P0 x0 w0_3 h0 h1)
def p_l_toSessionS (l : List GSession) : List GSession := l
theorem cp_l_toSessionS : ∀ (rest : List GSession) (i : Nat) (v : List GSession), (∀ y ∈ rest, Small.sm y) → v.length = i + rest.length → l_toSessionS_l0 rest i v = some (.x0 (v.take i ++ rest))
  | [], i, v, _, hv => by unfold l_toSessionS_l0; rw [List.take_of_length_le (by simp at hv; omega)]; simp
  | x :: rest, i, v, h, hv => by
    have hx := h x (by simp)
    have hi : i < v.length := by simp at hv; omega
    unfold l_toSessionS_l0
    rw [getI_nat, List.getElem?_eq_getElem hi, Option.bind_some]
    try rw [if_pos hx]
    rw [Int.toNat_natCast, cp_l_toSessionS rest (i + 1) _ (fun y hy => h y (by simp [hy])) (by simp at hv ⊢; omega), takeSet hi]
    simp [p_l_toSession]
theorem T_l_toSessionS (x0 : List GSession) (h : Small.sm x0) : Does E 38 [.one (.s .far () 3 (x0.map GSession.t))] [(false, [.s .own () 3 ((p_l_toSessionS x0).map GSession.t)])] := by
  exact l_toSessionS_D x0 _ (by
    unfold l_toSessionS_F
    rw [if_pos (makeOk 32 (by decide) h.1 rfl), if_pos (sm_wf_len h), cp_l_toSessionS x0 0 _ h.2 (by simp)]
    simp [p_l_toSessionS])
inductive l_toStringS_X0 where
  | x0 (v3 : List ByteArray)
def l_toStringS_Q0 (v0 : List ByteArray) (v3 : List ByteArray) (v4 : Int) : l_toStringS_X0 → Prop
  | .x0 zv3 => Loops E 123 (lpAt Try.f123 0) (stL 22 [(0, .one (.s .far () 1 (v0.map etS))), (3, .one (.s .own () 1 (v3.map etS))), (4, .one (tI v4))]) (.exit 0) (stL 22 [(3, .one (.s .own () 1 (zv3.map etS)))])
theorem l_toStringS_R0_0 (v0 : List ByteArray) (v3 : List ByteArray) (v4 : Int) (g0 : ByteArray) (g1 : ByteArray) (h0 : (decide (v4 < (v0.length : Int))) = true) (h1 : getI v0 v4 = some g0) (h2 : getI v3 v4 = some g1) : Round E 123 (lpAt Try.f123 0) (stL 22 [(0, .one (.s .far () 1 (v0.map etS))), (3, .one (.s .own () 1 (v3.map etS))), (4, .one (tI v4))]) .normal (stL 22 [(0, .one (.s .far () 1 (v0.map etS))), (3, .one (.s .own () 1 ((v3.set v4.toNat g0).map etS))), (4, .one (tI (inc v4)))]) :=
  Round.path [.val (.int .i64 (v0.length : Int)), .b true, .row (etS g0), .row (etS g1), .rows ((v3.set v4.toNat g0).map etS)] [fun _ => ((v0.map etS).length : Int) = (v0.length : Int), fun _ => (decide (v4 < (v0.length : Int))) = true, fun _ => 0 ≤ v4 ∧ (v0.map etS)[v4.toNat]? = some (etS g0), fun _ => 0 ≤ v4 ∧ v4 < ((v3.map etS).length : Int), fun _ => (v3.map etS)[0 + v4.toNat]? = some (etS g1), fun _ => (v3.map etS).set (0 + v4.toNat) (spliceAt (etS g1) 0 [tS g0]) = (v3.set v4.toNat g0).map etS] (fun k => by kernel_rfl) ⟨Ev.c lenMap, Ev.c h0, Ev.c (getRow h1), Ev.c (getLt h2), Ev.c (getRow0 h2), Ev.c (setMap (by rfl)), trivial⟩
theorem l_toStringS_R0_1 (v0 : List ByteArray) (v3 : List ByteArray) (v4 : Int) (h0 : (decide (v4 < (v0.length : Int))) = false) : Round E 123 (lpAt Try.f123 0) (stL 22 [(0, .one (.s .far () 1 (v0.map etS))), (3, .one (.s .own () 1 (v3.map etS))), (4, .one (tI v4))]) (.exit 0) (stL 22 [(3, .one (.s .own () 1 (v3.map etS)))]) :=
  Round.path [.val (.int .i64 (v0.length : Int)), .b false] [fun _ => ((v0.map etS).length : Int) = (v0.length : Int), fun _ => (decide (v4 < (v0.length : Int))) = false] (fun k => by kernel_rfl) ⟨Ev.c lenMap, Ev.c h0, trivial⟩
noncomputable def l_toStringS_l0  : List ByteArray → Nat → (List ByteArray) → Option l_toStringS_X0
  | [], i, v3 => some (.x0 v3)
  | hd :: rest, i, v3 => (getI v3 (i : Int)).bind fun g1 => l_toStringS_l0 rest (i + 1) (v3.set (i : Int).toNat hd)
theorem l_toStringS_L0 (v0 : List ByteArray) (rest : List ByteArray) : ∀ (i : Nat) (v3 : List ByteArray), (v0).drop i = rest → v0.length ≤ 9223372036854775807 → Ans (l_toStringS_l0 rest i v3) (l_toStringS_Q0 v0 v3 (i : Int)) := by
  induction rest with
  | nil =>
    intro i v3 hE hl
    have hb := foldEnd hE
    unfold l_toStringS_l0
    exact Ans.some (Loops.stop (l_toStringS_R0_1 v0 v3 (i : Int) hb) (by intro h; cases h))
  | cons hd rest ih =>
    intro i v3 hE hl
    have hb := foldMore hE
    have hw := foldNext hE hl
    have hE2 := foldRest hE
    have hg := foldGet hE
    unfold l_toStringS_l0
    refine Ans.bind (fun g1 h2 => ?_)
    exact (ih (i + 1) (v3.set (i : Int).toNat hd) hE2 hl).mono fun y hy => by have r := l_toStringS_R0_0 v0 v3 (i : Int) hd g1 hb hg h2; rw [hw] at r; cases y <;> exact Loops.next r hy
theorem l_toStringS_P0 (x0 : List ByteArray) (w0_3 : List ByteArray) (h0 : 0 ≤ (x0.length : Int) ∧ (x0.length : Int) ≤ (x0.length : Int) ∧ ((16 : Nat) : Int) * (x0.length : Int) ≤ 281474976710656 ∧ (x0.length : Int) ≤ 4611686018427387904) (h1 : Loops E 123 (lpAt Try.f123 0) (stL 22 [(0, .one (.s .far () 1 (x0.map etS))), (3, .one (.s .own () 1 ((List.replicate (x0.length : Int).toNat ByteArray.empty).map etS))), (4, .one (tI (0 : Int)))]) (.exit 0) (stL 22 [(3, .one (.s .own () 1 (w0_3.map etS)))])) : Does E 123 [.one (.s .far () 1 (x0.map etS))] [(false, [.s .own () 1 (w0_3.map etS)])] :=
  Does.path (fn := Try.f123) [.val (.int .i64 (x0.length : Int)), .rows ((List.replicate (x0.length : Int).toNat ByteArray.empty).map etS), .lp (.exit 0) (stL 22 [(3, .one (.s .own () 1 (w0_3.map etS)))])] [fun _ => ((x0.map etS).length : Int) = (x0.length : Int), fun _ => 0 ≤ (x0.length : Int) ∧ (x0.length : Int) ≤ (x0.length : Int) ∧ ((16 : Nat) : Int) * (x0.length : Int) ≤ 281474976710656 ∧ (x0.length : Int) ≤ 4611686018427387904, fun _ => List.replicate (x0.length : Int).toNat [tS ByteArray.empty] = (List.replicate (x0.length : Int).toNat ByteArray.empty).map etS, fun k => LoopK E 123 (lpAt Try.f123 0) (stL 22 [(0, .one (.s .far () 1 (x0.map etS))), (3, .one (.s .own () 1 ((List.replicate (x0.length : Int).toNat ByteArray.empty).map etS))), (4, .one (tI (0 : Int)))]) (.exit 0) (stL 22 [(3, .one (.s .own () 1 (w0_3.map etS)))]) k k] rfl rfl (fun k => by kernel_rfl) ⟨Ev.c lenMap, Ev.c h0, Ev.c (repMap rfl), Loops.ev h1, trivial⟩
noncomputable def l_toStringS_F (x0 : List ByteArray) : Option ((List ByteArray)) :=
    if 0 ≤ (x0.length : Int) ∧ (x0.length : Int) ≤ (x0.length : Int) ∧ ((16 : Nat) : Int) * (x0.length : Int) ≤ 281474976710656 ∧ (x0.length : Int) ≤ 4611686018427387904 then if x0.length ≤ 9223372036854775807 then (l_toStringS_l0 x0 0 (List.replicate (x0.length : Int).toNat ByteArray.empty)).bind fun y => match y with
      | .x0 w0_3 => (some (w0_3)) else none else none
theorem l_toStringS_D (x0 : List ByteArray) : Ans (l_toStringS_F x0) (fun r => Does E 123 [.one (.s .far () 1 (x0.map etS))] [(false, [.s .own () 1 (r.map etS)])]) := by
  unfold l_toStringS_F
  refine Ans.pre (fun h0 => ?_)
  refine Ans.pre (fun hl1 => ?_)
  refine Ans.bind (fun y hy => ?_)
  replace hy := l_toStringS_L0 x0 x0 0 (List.replicate (x0.length : Int).toNat ByteArray.empty) rfl hl1 y hy
  cases y with
  | x0 w0_3 =>
    have h1 := hy
    exact Ans.some (l_toStringS_P0 x0 w0_3 h0 h1)
def p_l_toStringS (l : List ByteArray) : List ByteArray := l
theorem cp_l_toStringS : ∀ (rest : List ByteArray) (i : Nat) (v : List ByteArray), (∀ y ∈ rest, Small.sm y) → v.length = i + rest.length → l_toStringS_l0 rest i v = some (.x0 (v.take i ++ rest))
  | [], i, v, _, hv => by unfold l_toStringS_l0; rw [List.take_of_length_le (by simp at hv; omega)]; simp
  | x :: rest, i, v, h, hv => by
    have hx := h x (by simp)
    have hi : i < v.length := by simp at hv; omega
    unfold l_toStringS_l0
    rw [getI_nat, List.getElem?_eq_getElem hi, Option.bind_some]
    try rw [if_pos hx]
    rw [Int.toNat_natCast, cp_l_toStringS rest (i + 1) _ (fun y hy => h y (by simp [hy])) (by simp at hv ⊢; omega), takeSet hi]
    simp
theorem T_l_toStringS (x0 : List ByteArray) (h : Small.sm x0) : Does E 123 [.one (.s .far () 1 (x0.map etS))] [(false, [.s .own () 1 ((p_l_toStringS x0).map etS)])] := by
  exact l_toStringS_D x0 _ (by
    unfold l_toStringS_F
    rw [if_pos (makeOk 16 (by decide) h.1 rfl), if_pos (sm_wf_len h), cp_l_toStringS x0 0 _ h.2 (by simp)]
    simp [p_l_toStringS])
theorem l_toTask_P0 (x0 : GTask) (h0 : Small.sm x0.f4) : Does E 119 [.agg (GTask.t .far x0)] [(true, GTask.t .own (GTask.mk x0.f0 x0.f1 x0.f2 x0.f3 (p_l_toStringS x0.f4)))] :=
  Does.path (fn := Try.f119) [.ret [(false, [.s .own () 1 ((p_l_toStringS x0.f4).map etS)])]] [fun k => E.C k 123 [.one (.s .far () 1 (x0.f4.map etS))] = some [(false, [.s .own () 1 ((p_l_toStringS x0.f4).map etS)])]] rfl rfl (fun k => by kernel_rfl) ⟨T_l_toStringS x0.f4 h0, trivial⟩
noncomputable def l_toTask_F (x0 : GTask) : Option (GTask) :=
    if Small.sm x0.f4 then some ((GTask.mk x0.f0 x0.f1 x0.f2 x0.f3 (p_l_toStringS x0.f4))) else none
theorem l_toTask_D (x0 : GTask) : Ans (l_toTask_F x0) (fun r => Does E 119 [.agg (GTask.t .far x0)] [(true, GTask.t .own r)]) := by
  unfold l_toTask_F
  refine Ans.pre (fun h0 => ?_)
  exact Ans.some (l_toTask_P0 x0 h0)
def p_l_toTask (x : GTask) : GTask := x
theorem T_l_toTask (x0 : GTask) (h : Small.sm x0) : Does E 119 [.agg (GTask.t .far x0)] [(true, GTask.t .own (p_l_toTask x0))] := by
  obtain ⟨w0, w1, w4⟩ := h
  exact l_toTask_D x0 _ (by
    unfold l_toTask_F
    repeat rw [if_pos (by assumption)]
    rfl)
inductive l_toTaskS_X0 where
  | x0 (v3 : List GTask)
def l_toTaskS_Q0 {q0 : Kd} (v0 : List GTask) (v3 : List GTask) (v4 : Int) : l_toTaskS_X0 → Prop
  | .x0 zv3 => Loops E 111 (lpAt Try.f111 0) (stL 23 [(0, .one (.s .far () 5 (v0.map (GTask.t q0)))), (3, .one (.s .own () 5 (v3.map (GTask.t .own)))), (4, .one (tI v4))]) (.exit 0) (stL 23 [(3, .one (.s .own () 5 (zv3.map (GTask.t .own))))])
theorem l_toTaskS_R0_0 {q0 : Kd} (v0 : List GTask) (v3 : List GTask) (v4 : Int) (g0 : GTask) (g1 : GTask) (h0 : (decide (v4 < (v0.length : Int))) = true) (h1 : getI v0 v4 = some g0) (h2 : Small.sm g0) (h3 : getI v3 v4 = some g1) : Round E 111 (lpAt Try.f111 0) (stL 23 [(0, .one (.s .far () 5 (v0.map (GTask.t q0)))), (3, .one (.s .own () 5 (v3.map (GTask.t .own)))), (4, .one (tI v4))]) .normal (stL 23 [(0, .one (.s .far () 5 (v0.map (GTask.t q0)))), (3, .one (.s .own () 5 ((v3.set v4.toNat (p_l_toTask g0)).map (GTask.t .own)))), (4, .one (tI (inc v4)))]) :=
  Round.path [.val (.int .i64 (v0.length : Int)), .b true, .row ((GTask.t q0) g0), .ret [(true, GTask.t .own (p_l_toTask g0))], .row ((GTask.t .own) g1), .rows ((v3.set v4.toNat (p_l_toTask g0)).map (GTask.t .own))] [fun _ => ((v0.map (GTask.t q0)).length : Int) = (v0.length : Int), fun _ => (decide (v4 < (v0.length : Int))) = true, fun _ => 0 ≤ v4 ∧ (v0.map (GTask.t q0))[v4.toNat]? = some ((GTask.t q0) g0), fun k => E.C k 119 [.agg (GTask.t .far g0)] = some [(true, GTask.t .own (p_l_toTask g0))], fun _ => 0 ≤ v4 ∧ v4 < ((v3.map (GTask.t .own)).length : Int), fun _ => (v3.map (GTask.t .own))[0 + v4.toNat]? = some ((GTask.t .own) g1), fun _ => (v3.map (GTask.t .own)).set (0 + v4.toNat) (spliceAt ((GTask.t .own) g1) 0 [tS ((p_l_toTask g0).f0), tS ((p_l_toTask g0).f1), tI ((p_l_toTask g0).f2), tB ((p_l_toTask g0).f3), .s .own () 1 (((p_l_toTask g0).f4).map etS)]) = (v3.set v4.toNat (p_l_toTask g0)).map (GTask.t .own)] (fun k => by kernel_rfl) ⟨Ev.c lenMap, Ev.c h0, Ev.c (getRow h1), T_l_toTask g0 h2, Ev.c (getLt h3), Ev.c (getRow0 h3), Ev.c (setMap (by rfl)), trivial⟩
theorem l_toTaskS_R0_1 {q0 : Kd} (v0 : List GTask) (v3 : List GTask) (v4 : Int) (h0 : (decide (v4 < (v0.length : Int))) = false) : Round E 111 (lpAt Try.f111 0) (stL 23 [(0, .one (.s .far () 5 (v0.map (GTask.t q0)))), (3, .one (.s .own () 5 (v3.map (GTask.t .own)))), (4, .one (tI v4))]) (.exit 0) (stL 23 [(3, .one (.s .own () 5 (v3.map (GTask.t .own))))]) :=
  Round.path [.val (.int .i64 (v0.length : Int)), .b false] [fun _ => ((v0.map (GTask.t q0)).length : Int) = (v0.length : Int), fun _ => (decide (v4 < (v0.length : Int))) = false] (fun k => by kernel_rfl) ⟨Ev.c lenMap, Ev.c h0, trivial⟩
noncomputable def l_toTaskS_l0  : List GTask → Nat → (List GTask) → Option l_toTaskS_X0
  | [], i, v3 => some (.x0 v3)
  | hd :: rest, i, v3 => if Small.sm hd then (getI v3 (i : Int)).bind fun g1 => l_toTaskS_l0 rest (i + 1) (v3.set (i : Int).toNat (p_l_toTask hd)) else none
theorem l_toTaskS_L0 {q0 : Kd} (v0 : List GTask) (rest : List GTask) : ∀ (i : Nat) (v3 : List GTask), (v0).drop i = rest → v0.length ≤ 9223372036854775807 → Ans (l_toTaskS_l0 rest i v3) (l_toTaskS_Q0 (q0 := q0) v0 v3 (i : Int)) := by
  induction rest with
  | nil =>
    intro i v3 hE hl
    have hb := foldEnd hE
    unfold l_toTaskS_l0
    exact Ans.some (Loops.stop (l_toTaskS_R0_1 (q0 := q0) v0 v3 (i : Int) hb) (by intro h; cases h))
  | cons hd rest ih =>
    intro i v3 hE hl
    have hb := foldMore hE
    have hw := foldNext hE hl
    have hE2 := foldRest hE
    have hg := foldGet hE
    unfold l_toTaskS_l0
    refine Ans.pre (fun h2 => ?_)
    refine Ans.bind (fun g1 h3 => ?_)
    exact (ih (i + 1) (v3.set (i : Int).toNat (p_l_toTask hd)) hE2 hl).mono fun y hy => by have r := l_toTaskS_R0_0 (q0 := q0) v0 v3 (i : Int) hd g1 hb hg h2 h3; rw [hw] at r; cases y <;> exact Loops.next r hy
theorem l_toTaskS_P0 {q0 : Kd} (x0 : List GTask) (w0_3 : List GTask) (h0 : 0 ≤ (x0.length : Int) ∧ (x0.length : Int) ≤ (x0.length : Int) ∧ ((72 : Nat) : Int) * (x0.length : Int) ≤ 281474976710656 ∧ (x0.length : Int) ≤ 4611686018427387904) (h1 : Loops E 111 (lpAt Try.f111 0) (stL 23 [(0, .one (.s .far () 5 (x0.map (GTask.t q0)))), (3, .one (.s .own () 5 ((List.replicate (x0.length : Int).toNat (GTask.mk ByteArray.empty ByteArray.empty (0 : Int) false ([] : List ByteArray))).map (GTask.t .own)))), (4, .one (tI (0 : Int)))]) (.exit 0) (stL 23 [(3, .one (.s .own () 5 (w0_3.map (GTask.t .own))))])) : Does E 111 [.one (.s .far () 5 (x0.map (GTask.t q0)))] [(false, [.s .own () 5 (w0_3.map (GTask.t .own))])] :=
  Does.path (fn := Try.f111) [.val (.int .i64 (x0.length : Int)), .rows ((List.replicate (x0.length : Int).toNat (GTask.mk ByteArray.empty ByteArray.empty (0 : Int) false ([] : List ByteArray))).map (GTask.t .own)), .lp (.exit 0) (stL 23 [(3, .one (.s .own () 5 (w0_3.map (GTask.t .own))))])] [fun _ => ((x0.map (GTask.t q0)).length : Int) = (x0.length : Int), fun _ => 0 ≤ (x0.length : Int) ∧ (x0.length : Int) ≤ (x0.length : Int) ∧ ((72 : Nat) : Int) * (x0.length : Int) ≤ 281474976710656 ∧ (x0.length : Int) ≤ 4611686018427387904, fun _ => List.replicate (x0.length : Int).toNat [tS ByteArray.empty, tS ByteArray.empty, tI (0 : Int), tB false, .s .own () 1 (([] : List ByteArray).map etS)] = (List.replicate (x0.length : Int).toNat (GTask.mk ByteArray.empty ByteArray.empty (0 : Int) false ([] : List ByteArray))).map (GTask.t .own), fun k => LoopK E 111 (lpAt Try.f111 0) (stL 23 [(0, .one (.s .far () 5 (x0.map (GTask.t q0)))), (3, .one (.s .own () 5 ((List.replicate (x0.length : Int).toNat (GTask.mk ByteArray.empty ByteArray.empty (0 : Int) false ([] : List ByteArray))).map (GTask.t .own)))), (4, .one (tI (0 : Int)))]) (.exit 0) (stL 23 [(3, .one (.s .own () 5 (w0_3.map (GTask.t .own))))]) k k] rfl rfl (fun k => by kernel_rfl) ⟨Ev.c lenMap, Ev.c h0, Ev.c (repMap rfl), Loops.ev h1, trivial⟩
noncomputable def l_toTaskS_F (x0 : List GTask) : Option ((List GTask)) :=
    if 0 ≤ (x0.length : Int) ∧ (x0.length : Int) ≤ (x0.length : Int) ∧ ((72 : Nat) : Int) * (x0.length : Int) ≤ 281474976710656 ∧ (x0.length : Int) ≤ 4611686018427387904 then if x0.length ≤ 9223372036854775807 then (l_toTaskS_l0 x0 0 (List.replicate (x0.length : Int).toNat (GTask.mk ByteArray.empty ByteArray.empty (0 : Int) false ([] : List ByteArray)))).bind fun y => match y with
      | .x0 w0_3 => (some (w0_3)) else none else none
theorem l_toTaskS_D {q0 : Kd} (x0 : List GTask) : Ans (l_toTaskS_F x0) (fun r => Does E 111 [.one (.s .far () 5 (x0.map (GTask.t q0)))] [(false, [.s .own () 5 (r.map (GTask.t .own))])]) := by
  unfold l_toTaskS_F
  refine Ans.pre (fun h0 => ?_)
  refine Ans.pre (fun hl1 => ?_)
  refine Ans.bind (fun y hy => ?_)
  replace hy := l_toTaskS_L0 (q0 := q0) x0 x0 0 (List.replicate (x0.length : Int).toNat (GTask.mk ByteArray.empty ByteArray.empty (0 : Int) false ([] : List ByteArray))) rfl hl1 y hy
  cases y with
  | x0 w0_3 =>
    have h1 := hy
    exact Ans.some (l_toTaskS_P0 (q0 := q0) x0 w0_3 h0 h1)
def p_l_toTaskS (l : List GTask) : List GTask := l
theorem cp_l_toTaskS : ∀ (rest : List GTask) (i : Nat) (v : List GTask), (∀ y ∈ rest, Small.sm y) → v.length = i + rest.length → l_toTaskS_l0 rest i v = some (.x0 (v.take i ++ rest))
  | [], i, v, _, hv => by unfold l_toTaskS_l0; rw [List.take_of_length_le (by simp at hv; omega)]; simp
  | x :: rest, i, v, h, hv => by
    have hx := h x (by simp)
    have hi : i < v.length := by simp at hv; omega
    unfold l_toTaskS_l0
    rw [getI_nat, List.getElem?_eq_getElem hi, Option.bind_some]
    try rw [if_pos hx]
    rw [Int.toNat_natCast, cp_l_toTaskS rest (i + 1) _ (fun y hy => h y (by simp [hy])) (by simp at hv ⊢; omega), takeSet hi]
    simp [p_l_toTask]
theorem T_l_toTaskS {q0 : Kd} (x0 : List GTask) (h : Small.sm x0) : Does E 111 [.one (.s .far () 5 (x0.map (GTask.t q0)))] [(false, [.s .own () 5 ((p_l_toTaskS x0).map (GTask.t .own))])] := by
  exact l_toTaskS_D x0 _ (by
    unfold l_toTaskS_F
    rw [if_pos (makeOk 72 (by decide) h.1 rfl), if_pos (sm_wf_len h), cp_l_toTaskS x0 0 _ h.2 (by simp)]
    simp [p_l_toTaskS])
theorem l_toDag_P0 {q0 : Kd} (x0 : LDag) (h0 : Small.sm x0.f5) : Does E 96 [.agg (LDag.t .far q0 x0)] [(true, GDag.t .own .own (GDag.mk x0.f0 x0.f1 x0.f2 x0.f3 x0.f4 (p_l_toTaskS x0.f5)))] :=
  Does.path (fn := Try.f96) [.ret [(false, [.s .own () 5 ((p_l_toTaskS x0.f5).map (GTask.t .own))])]] [fun k => E.C k 111 [.one (.s .far () 5 (x0.f5.map (GTask.t q0)))] = some [(false, [.s .own () 5 ((p_l_toTaskS x0.f5).map (GTask.t .own))])]] rfl rfl (fun k => by kernel_rfl) ⟨T_l_toTaskS x0.f5 h0, trivial⟩
noncomputable def l_toDag_F (x0 : LDag) : Option (GDag) :=
    if Small.sm x0.f5 then some ((GDag.mk x0.f0 x0.f1 x0.f2 x0.f3 x0.f4 (p_l_toTaskS x0.f5))) else none
theorem l_toDag_D {q0 : Kd} (x0 : LDag) : Ans (l_toDag_F x0) (fun r => Does E 96 [.agg (LDag.t .far q0 x0)] [(true, GDag.t .own .own r)]) := by
  unfold l_toDag_F
  refine Ans.pre (fun h0 => ?_)
  exact Ans.some (l_toDag_P0 (q0 := q0) x0 h0)
def p_l_toDag (x : LDag) : GDag := ⟨x.f0, x.f1, x.f2, x.f3, x.f4, p_l_toTaskS x.f5⟩
theorem sm_l_toDag {x : LDag} (h : Small.sm x) : Small.sm (p_l_toDag x) := by
  obtain ⟨w0, w1, w5⟩ := h
  exact ⟨w0, w1, w5⟩
theorem T_l_toDag {q0 : Kd} (x0 : LDag) (h : Small.sm x0) : Does E 96 [.agg (LDag.t .far q0 x0)] [(true, GDag.t .own .own (p_l_toDag x0))] := by
  obtain ⟨w0, w1, w5⟩ := h
  exact l_toDag_D x0 _ (by
    unfold l_toDag_F
    repeat rw [if_pos (by assumption)]
    rfl)
theorem l_toPlan_P0 {q0 : Kd} (x0 : LPlan) (h0 : Small.sm x0.f0) : Does E 73 [.agg (LPlan.t .far q0 x0)] [(true, GPlan.t .own .own (GPlan.mk (p_l_toDag x0.f0) x0.f1 x0.f2 x0.f3))] :=
  Does.path (fn := Try.f73) [.ret [(true, GDag.t .own .own (p_l_toDag x0.f0))]] [fun k => E.C k 96 [.agg (LDag.t .far q0 x0.f0)] = some [(true, GDag.t .own .own (p_l_toDag x0.f0))]] rfl rfl (fun k => by kernel_rfl) ⟨T_l_toDag x0.f0 h0, trivial⟩
noncomputable def l_toPlan_F (x0 : LPlan) : Option (GPlan) :=
    if Small.sm x0.f0 then some ((GPlan.mk (p_l_toDag x0.f0) x0.f1 x0.f2 x0.f3)) else none
theorem l_toPlan_D {q0 : Kd} (x0 : LPlan) : Ans (l_toPlan_F x0) (fun r => Does E 73 [.agg (LPlan.t .far q0 x0)] [(true, GPlan.t .own .own r)]) := by
  unfold l_toPlan_F
  refine Ans.pre (fun h0 => ?_)
  exact Ans.some (l_toPlan_P0 (q0 := q0) x0 h0)
def p_l_toPlan (x : LPlan) : GPlan := ⟨p_l_toDag x.f0, x.f1, x.f2, x.f3⟩
theorem sm_l_toPlan {x : LPlan} (h : Small.sm x) : Small.sm (p_l_toPlan x) := by
  have w0 : Small.sm x.f0 := h
  exact (sm_l_toDag w0)
theorem T_l_toPlan {q0 : Kd} (x0 : LPlan) (h : Small.sm x0) : Does E 73 [.agg (LPlan.t .far q0 x0)] [(true, GPlan.t .own .own (p_l_toPlan x0))] := by
  have w0 : Small.sm x0.f0 := h
  exact l_toPlan_D x0 _ (by
    unfold l_toPlan_F
    repeat rw [if_pos (by assumption)]
    rfl)
inductive l_toPlanS_X0 where
  | x0 (v3 : List GPlan)
def l_toPlanS_Q0 {q0 : Kd} (v0 : List LPlan) (v3 : List GPlan) (v4 : Int) : l_toPlanS_X0 → Prop
  | .x0 zv3 => Loops E 39 (lpAt Try.f39 0) (stL 23 [(0, .one (.s .far () 9 (v0.map (LPlan.t q0 q0)))), (3, .one (.s .own () 9 (v3.map (GPlan.t .own .own)))), (4, .one (tI v4))]) (.exit 0) (stL 23 [(3, .one (.s .own () 9 (zv3.map (GPlan.t .own .own))))])
theorem l_toPlanS_R0_0 {q0 : Kd} (v0 : List LPlan) (v3 : List GPlan) (v4 : Int) (g0 : LPlan) (g1 : GPlan) (h0 : (decide (v4 < (v0.length : Int))) = true) (h1 : getI v0 v4 = some g0) (h2 : Small.sm g0) (h3 : getI v3 v4 = some g1) : Round E 39 (lpAt Try.f39 0) (stL 23 [(0, .one (.s .far () 9 (v0.map (LPlan.t q0 q0)))), (3, .one (.s .own () 9 (v3.map (GPlan.t .own .own)))), (4, .one (tI v4))]) .normal (stL 23 [(0, .one (.s .far () 9 (v0.map (LPlan.t q0 q0)))), (3, .one (.s .own () 9 ((v3.set v4.toNat (p_l_toPlan g0)).map (GPlan.t .own .own)))), (4, .one (tI (inc v4)))]) :=
  Round.path [.val (.int .i64 (v0.length : Int)), .b true, .row ((LPlan.t q0 q0) g0), .ret [(true, GPlan.t .own .own (p_l_toPlan g0))], .row ((GPlan.t .own .own) g1), .rows ((v3.set v4.toNat (p_l_toPlan g0)).map (GPlan.t .own .own))] [fun _ => ((v0.map (LPlan.t q0 q0)).length : Int) = (v0.length : Int), fun _ => (decide (v4 < (v0.length : Int))) = true, fun _ => 0 ≤ v4 ∧ (v0.map (LPlan.t q0 q0))[v4.toNat]? = some ((LPlan.t q0 q0) g0), fun k => E.C k 73 [.agg (LPlan.t .far q0 g0)] = some [(true, GPlan.t .own .own (p_l_toPlan g0))], fun _ => 0 ≤ v4 ∧ v4 < ((v3.map (GPlan.t .own .own)).length : Int), fun _ => (v3.map (GPlan.t .own .own))[0 + v4.toNat]? = some ((GPlan.t .own .own) g1), fun _ => (v3.map (GPlan.t .own .own)).set (0 + v4.toNat) (spliceAt ((GPlan.t .own .own) g1) 0 [tS (((p_l_toPlan g0).f0).f0), tS (((p_l_toPlan g0).f0).f1), tI (((p_l_toPlan g0).f0).f2), tI (((p_l_toPlan g0).f0).f3), tB (((p_l_toPlan g0).f0).f4), .s .own () 5 ((((p_l_toPlan g0).f0).f5).map (GTask.t .own)), tB ((p_l_toPlan g0).f1), tI ((p_l_toPlan g0).f2), tI ((p_l_toPlan g0).f3)]) = (v3.set v4.toNat (p_l_toPlan g0)).map (GPlan.t .own .own)] (fun k => by kernel_rfl) ⟨Ev.c lenMap, Ev.c h0, Ev.c (getRow h1), T_l_toPlan g0 h2, Ev.c (getLt h3), Ev.c (getRow0 h3), Ev.c (setMap (by rfl)), trivial⟩
theorem l_toPlanS_R0_1 {q0 : Kd} (v0 : List LPlan) (v3 : List GPlan) (v4 : Int) (h0 : (decide (v4 < (v0.length : Int))) = false) : Round E 39 (lpAt Try.f39 0) (stL 23 [(0, .one (.s .far () 9 (v0.map (LPlan.t q0 q0)))), (3, .one (.s .own () 9 (v3.map (GPlan.t .own .own)))), (4, .one (tI v4))]) (.exit 0) (stL 23 [(3, .one (.s .own () 9 (v3.map (GPlan.t .own .own))))]) :=
  Round.path [.val (.int .i64 (v0.length : Int)), .b false] [fun _ => ((v0.map (LPlan.t q0 q0)).length : Int) = (v0.length : Int), fun _ => (decide (v4 < (v0.length : Int))) = false] (fun k => by kernel_rfl) ⟨Ev.c lenMap, Ev.c h0, trivial⟩
noncomputable def l_toPlanS_l0  : List LPlan → Nat → (List GPlan) → Option l_toPlanS_X0
  | [], i, v3 => some (.x0 v3)
  | hd :: rest, i, v3 => if Small.sm hd then (getI v3 (i : Int)).bind fun g1 => l_toPlanS_l0 rest (i + 1) (v3.set (i : Int).toNat (p_l_toPlan hd)) else none
theorem l_toPlanS_L0 {q0 : Kd} (v0 : List LPlan) (rest : List LPlan) : ∀ (i : Nat) (v3 : List GPlan), (v0).drop i = rest → v0.length ≤ 9223372036854775807 → Ans (l_toPlanS_l0 rest i v3) (l_toPlanS_Q0 (q0 := q0) v0 v3 (i : Int)) := by
  induction rest with
  | nil =>
    intro i v3 hE hl
    have hb := foldEnd hE
    unfold l_toPlanS_l0
    exact Ans.some (Loops.stop (l_toPlanS_R0_1 (q0 := q0) v0 v3 (i : Int) hb) (by intro h; cases h))
  | cons hd rest ih =>
    intro i v3 hE hl
    have hb := foldMore hE
    have hw := foldNext hE hl
    have hE2 := foldRest hE
    have hg := foldGet hE
    unfold l_toPlanS_l0
    refine Ans.pre (fun h2 => ?_)
    refine Ans.bind (fun g1 h3 => ?_)
    exact (ih (i + 1) (v3.set (i : Int).toNat (p_l_toPlan hd)) hE2 hl).mono fun y hy => by have r := l_toPlanS_R0_0 (q0 := q0) v0 v3 (i : Int) hd g1 hb hg h2 h3; rw [hw] at r; cases y <;> exact Loops.next r hy
theorem l_toPlanS_P0 {q0 : Kd} (x0 : List LPlan) (w0_3 : List GPlan) (h0 : 0 ≤ (x0.length : Int) ∧ (x0.length : Int) ≤ (x0.length : Int) ∧ ((104 : Nat) : Int) * (x0.length : Int) ≤ 281474976710656 ∧ (x0.length : Int) ≤ 4611686018427387904) (h1 : Loops E 39 (lpAt Try.f39 0) (stL 23 [(0, .one (.s .far () 9 (x0.map (LPlan.t q0 q0)))), (3, .one (.s .own () 9 ((List.replicate (x0.length : Int).toNat (GPlan.mk (GDag.mk ByteArray.empty ByteArray.empty (0 : Int) (0 : Int) false ([] : List GTask)) false (0 : Int) (0 : Int))).map (GPlan.t .own .own)))), (4, .one (tI (0 : Int)))]) (.exit 0) (stL 23 [(3, .one (.s .own () 9 (w0_3.map (GPlan.t .own .own))))])) : Does E 39 [.one (.s .far () 9 (x0.map (LPlan.t q0 q0)))] [(false, [.s .own () 9 (w0_3.map (GPlan.t .own .own))])] :=
  Does.path (fn := Try.f39) [.val (.int .i64 (x0.length : Int)), .rows ((List.replicate (x0.length : Int).toNat (GPlan.mk (GDag.mk ByteArray.empty ByteArray.empty (0 : Int) (0 : Int) false ([] : List GTask)) false (0 : Int) (0 : Int))).map (GPlan.t .own .own)), .lp (.exit 0) (stL 23 [(3, .one (.s .own () 9 (w0_3.map (GPlan.t .own .own))))])] [fun _ => ((x0.map (LPlan.t q0 q0)).length : Int) = (x0.length : Int), fun _ => 0 ≤ (x0.length : Int) ∧ (x0.length : Int) ≤ (x0.length : Int) ∧ ((104 : Nat) : Int) * (x0.length : Int) ≤ 281474976710656 ∧ (x0.length : Int) ≤ 4611686018427387904, fun _ => List.replicate (x0.length : Int).toNat [tS ByteArray.empty, tS ByteArray.empty, tI (0 : Int), tI (0 : Int), tB false, .s .own () 5 (([] : List GTask).map (GTask.t .own)), tB false, tI (0 : Int), tI (0 : Int)] = (List.replicate (x0.length : Int).toNat (GPlan.mk (GDag.mk ByteArray.empty ByteArray.empty (0 : Int) (0 : Int) false ([] : List GTask)) false (0 : Int) (0 : Int))).map (GPlan.t .own .own), fun k => LoopK E 39 (lpAt Try.f39 0) (stL 23 [(0, .one (.s .far () 9 (x0.map (LPlan.t q0 q0)))), (3, .one (.s .own () 9 ((List.replicate (x0.length : Int).toNat (GPlan.mk (GDag.mk ByteArray.empty ByteArray.empty (0 : Int) (0 : Int) false ([] : List GTask)) false (0 : Int) (0 : Int))).map (GPlan.t .own .own)))), (4, .one (tI (0 : Int)))]) (.exit 0) (stL 23 [(3, .one (.s .own () 9 (w0_3.map (GPlan.t .own .own))))]) k k] rfl rfl (fun k => by kernel_rfl) ⟨Ev.c lenMap, Ev.c h0, Ev.c (repMap rfl), Loops.ev h1, trivial⟩
noncomputable def l_toPlanS_F (x0 : List LPlan) : Option ((List GPlan)) :=
    if 0 ≤ (x0.length : Int) ∧ (x0.length : Int) ≤ (x0.length : Int) ∧ ((104 : Nat) : Int) * (x0.length : Int) ≤ 281474976710656 ∧ (x0.length : Int) ≤ 4611686018427387904 then if x0.length ≤ 9223372036854775807 then (l_toPlanS_l0 x0 0 (List.replicate (x0.length : Int).toNat (GPlan.mk (GDag.mk ByteArray.empty ByteArray.empty (0 : Int) (0 : Int) false ([] : List GTask)) false (0 : Int) (0 : Int)))).bind fun y => match y with
      | .x0 w0_3 => (some (w0_3)) else none else none
theorem l_toPlanS_D {q0 : Kd} (x0 : List LPlan) : Ans (l_toPlanS_F x0) (fun r => Does E 39 [.one (.s .far () 9 (x0.map (LPlan.t q0 q0)))] [(false, [.s .own () 9 (r.map (GPlan.t .own .own))])]) := by
  unfold l_toPlanS_F
  refine Ans.pre (fun h0 => ?_)
  refine Ans.pre (fun hl1 => ?_)
  refine Ans.bind (fun y hy => ?_)
  replace hy := l_toPlanS_L0 (q0 := q0) x0 x0 0 (List.replicate (x0.length : Int).toNat (GPlan.mk (GDag.mk ByteArray.empty ByteArray.empty (0 : Int) (0 : Int) false ([] : List GTask)) false (0 : Int) (0 : Int))) rfl hl1 y hy
  cases y with
  | x0 w0_3 =>
    have h1 := hy
    exact Ans.some (l_toPlanS_P0 (q0 := q0) x0 w0_3 h0 h1)
def p_l_toPlanS (l : List LPlan) : List GPlan := l.map p_l_toPlan
theorem cp_l_toPlanS : ∀ (rest : List LPlan) (i : Nat) (v : List GPlan), (∀ y ∈ rest, Small.sm y) → v.length = i + rest.length → l_toPlanS_l0 rest i v = some (.x0 (v.take i ++ rest.map p_l_toPlan))
  | [], i, v, _, hv => by unfold l_toPlanS_l0; rw [List.take_of_length_le (by simp at hv; omega)]; simp
  | x :: rest, i, v, h, hv => by
    have hx := h x (by simp)
    have hi : i < v.length := by simp at hv; omega
    unfold l_toPlanS_l0
    rw [getI_nat, List.getElem?_eq_getElem hi, Option.bind_some]
    try rw [if_pos hx]
    rw [Int.toNat_natCast, cp_l_toPlanS rest (i + 1) _ (fun y hy => h y (by simp [hy])) (by simp at hv ⊢; omega), takeSet hi]
    simp
theorem sm_l_toPlanS {l : List LPlan} (h : Small.sm l) : Small.sm (p_l_toPlanS l) := ⟨by unfold p_l_toPlanS; rw [List.length_map]; exact h.1, fun y hy => by obtain ⟨x, hx, rfl⟩ := List.mem_map.1 hy; exact sm_l_toPlan (h.2 x hx)⟩
theorem T_l_toPlanS {q0 : Kd} (x0 : List LPlan) (h : Small.sm x0) : Does E 39 [.one (.s .far () 9 (x0.map (LPlan.t q0 q0)))] [(false, [.s .own () 9 ((p_l_toPlanS x0).map (GPlan.t .own .own))])] := by
  exact l_toPlanS_D x0 _ (by
    unfold l_toPlanS_F
    rw [if_pos (makeOk 104 (by decide) h.1 rfl), if_pos (sm_wf_len h), cp_l_toPlanS x0 0 _ h.2 (by simp)]
    simp [p_l_toPlanS])
theorem l_toSpan_P0 (x0 : GSpan)  : Does E 97 [.agg (GSpan.t x0)] [(true, GSpan.t x0)] :=
  Does.path (fn := Try.f97) [] [] rfl rfl (fun k => by kernel_rfl) trivial
noncomputable def l_toSpan_F (x0 : GSpan) : Option (GSpan) :=
    some (x0)
theorem l_toSpan_D (x0 : GSpan) : Ans (l_toSpan_F x0) (fun r => Does E 97 [.agg (GSpan.t x0)] [(true, GSpan.t r)]) := by
  unfold l_toSpan_F
  exact Ans.some (l_toSpan_P0 x0)
def p_l_toSpan (x : GSpan) : GSpan := x
theorem T_l_toSpan (x0 : GSpan) (h : Small.sm x0) : Does E 97 [.agg (GSpan.t x0)] [(true, GSpan.t (p_l_toSpan x0))] := by
  skip
  exact l_toSpan_D x0 _ (by
    unfold l_toSpan_F
    repeat rw [if_pos (by assumption)]
    rfl)
theorem l_toState_P0 (x0 : GState)  : Does E 112 [.agg (GState.t x0)] [(true, GState.t x0)] :=
  Does.path (fn := Try.f112) [] [] rfl rfl (fun k => by kernel_rfl) trivial
noncomputable def l_toState_F (x0 : GState) : Option (GState) :=
    some (x0)
theorem l_toState_D (x0 : GState) : Ans (l_toState_F x0) (fun r => Does E 112 [.agg (GState.t x0)] [(true, GState.t r)]) := by
  unfold l_toState_F
  exact Ans.some (l_toState_P0 x0)
def p_l_toState (x : GState) : GState := x
theorem T_l_toState (x0 : GState) (h : Small.sm x0) : Does E 112 [.agg (GState.t x0)] [(true, GState.t (p_l_toState x0))] := by
  skip
  exact l_toState_D x0 _ (by
    unfold l_toState_F
    repeat rw [if_pos (by assumption)]
    rfl)
inductive l_toStateS_X0 where
  | x0 (v3 : List GState)
def l_toStateS_Q0 (v0 : List GState) (v3 : List GState) (v4 : Int) : l_toStateS_X0 → Prop
  | .x0 zv3 => Loops E 98 (lpAt Try.f98 0) (stL 23 [(0, .one (.s .far () 4 (v0.map GState.t))), (3, .one (.s .own () 4 (v3.map GState.t))), (4, .one (tI v4))]) (.exit 0) (stL 23 [(3, .one (.s .own () 4 (zv3.map GState.t)))])
theorem l_toStateS_R0_0 (v0 : List GState) (v3 : List GState) (v4 : Int) (g0 : GState) (g1 : GState) (h0 : (decide (v4 < (v0.length : Int))) = true) (h1 : getI v0 v4 = some g0) (h2 : Small.sm g0) (h3 : getI v3 v4 = some g1) : Round E 98 (lpAt Try.f98 0) (stL 23 [(0, .one (.s .far () 4 (v0.map GState.t))), (3, .one (.s .own () 4 (v3.map GState.t))), (4, .one (tI v4))]) .normal (stL 23 [(0, .one (.s .far () 4 (v0.map GState.t))), (3, .one (.s .own () 4 ((v3.set v4.toNat (p_l_toState g0)).map GState.t))), (4, .one (tI (inc v4)))]) :=
  Round.path [.val (.int .i64 (v0.length : Int)), .b true, .row (GState.t g0), .ret [(true, GState.t (p_l_toState g0))], .row (GState.t g1), .rows ((v3.set v4.toNat (p_l_toState g0)).map GState.t)] [fun _ => ((v0.map GState.t).length : Int) = (v0.length : Int), fun _ => (decide (v4 < (v0.length : Int))) = true, fun _ => 0 ≤ v4 ∧ (v0.map GState.t)[v4.toNat]? = some (GState.t g0), fun k => E.C k 112 [.agg (GState.t g0)] = some [(true, GState.t (p_l_toState g0))], fun _ => 0 ≤ v4 ∧ v4 < ((v3.map GState.t).length : Int), fun _ => (v3.map GState.t)[0 + v4.toNat]? = some (GState.t g1), fun _ => (v3.map GState.t).set (0 + v4.toNat) (spliceAt (GState.t g1) 0 [tI ((p_l_toState g0).f0), tI ((p_l_toState g0).f1), tI ((p_l_toState g0).f2), tI ((p_l_toState g0).f3)]) = (v3.set v4.toNat (p_l_toState g0)).map GState.t] (fun k => by kernel_rfl) ⟨Ev.c lenMap, Ev.c h0, Ev.c (getRow h1), T_l_toState g0 h2, Ev.c (getLt h3), Ev.c (getRow0 h3), Ev.c (setMap (by rfl)), trivial⟩
theorem l_toStateS_R0_1 (v0 : List GState) (v3 : List GState) (v4 : Int) (h0 : (decide (v4 < (v0.length : Int))) = false) : Round E 98 (lpAt Try.f98 0) (stL 23 [(0, .one (.s .far () 4 (v0.map GState.t))), (3, .one (.s .own () 4 (v3.map GState.t))), (4, .one (tI v4))]) (.exit 0) (stL 23 [(3, .one (.s .own () 4 (v3.map GState.t)))]) :=
  Round.path [.val (.int .i64 (v0.length : Int)), .b false] [fun _ => ((v0.map GState.t).length : Int) = (v0.length : Int), fun _ => (decide (v4 < (v0.length : Int))) = false] (fun k => by kernel_rfl) ⟨Ev.c lenMap, Ev.c h0, trivial⟩
noncomputable def l_toStateS_l0  : List GState → Nat → (List GState) → Option l_toStateS_X0
  | [], i, v3 => some (.x0 v3)
  | hd :: rest, i, v3 => if Small.sm hd then (getI v3 (i : Int)).bind fun g1 => l_toStateS_l0 rest (i + 1) (v3.set (i : Int).toNat (p_l_toState hd)) else none
theorem l_toStateS_L0 (v0 : List GState) (rest : List GState) : ∀ (i : Nat) (v3 : List GState), (v0).drop i = rest → v0.length ≤ 9223372036854775807 → Ans (l_toStateS_l0 rest i v3) (l_toStateS_Q0 v0 v3 (i : Int)) := by
  induction rest with
  | nil =>
    intro i v3 hE hl
    have hb := foldEnd hE
    unfold l_toStateS_l0
    exact Ans.some (Loops.stop (l_toStateS_R0_1 v0 v3 (i : Int) hb) (by intro h; cases h))
  | cons hd rest ih =>
    intro i v3 hE hl
    have hb := foldMore hE
    have hw := foldNext hE hl
    have hE2 := foldRest hE
    have hg := foldGet hE
    unfold l_toStateS_l0
    refine Ans.pre (fun h2 => ?_)
    refine Ans.bind (fun g1 h3 => ?_)
    exact (ih (i + 1) (v3.set (i : Int).toNat (p_l_toState hd)) hE2 hl).mono fun y hy => by have r := l_toStateS_R0_0 v0 v3 (i : Int) hd g1 hb hg h2 h3; rw [hw] at r; cases y <;> exact Loops.next r hy
theorem l_toStateS_P0 (x0 : List GState) (w0_3 : List GState) (h0 : 0 ≤ (x0.length : Int) ∧ (x0.length : Int) ≤ (x0.length : Int) ∧ ((32 : Nat) : Int) * (x0.length : Int) ≤ 281474976710656 ∧ (x0.length : Int) ≤ 4611686018427387904) (h1 : Loops E 98 (lpAt Try.f98 0) (stL 23 [(0, .one (.s .far () 4 (x0.map GState.t))), (3, .one (.s .own () 4 ((List.replicate (x0.length : Int).toNat (GState.mk (0 : Int) (0 : Int) (0 : Int) (0 : Int))).map GState.t))), (4, .one (tI (0 : Int)))]) (.exit 0) (stL 23 [(3, .one (.s .own () 4 (w0_3.map GState.t)))])) : Does E 98 [.one (.s .far () 4 (x0.map GState.t))] [(false, [.s .own () 4 (w0_3.map GState.t)])] :=
  Does.path (fn := Try.f98) [.val (.int .i64 (x0.length : Int)), .rows ((List.replicate (x0.length : Int).toNat (GState.mk (0 : Int) (0 : Int) (0 : Int) (0 : Int))).map GState.t), .lp (.exit 0) (stL 23 [(3, .one (.s .own () 4 (w0_3.map GState.t)))])] [fun _ => ((x0.map GState.t).length : Int) = (x0.length : Int), fun _ => 0 ≤ (x0.length : Int) ∧ (x0.length : Int) ≤ (x0.length : Int) ∧ ((32 : Nat) : Int) * (x0.length : Int) ≤ 281474976710656 ∧ (x0.length : Int) ≤ 4611686018427387904, fun _ => List.replicate (x0.length : Int).toNat [tI (0 : Int), tI (0 : Int), tI (0 : Int), tI (0 : Int)] = (List.replicate (x0.length : Int).toNat (GState.mk (0 : Int) (0 : Int) (0 : Int) (0 : Int))).map GState.t, fun k => LoopK E 98 (lpAt Try.f98 0) (stL 23 [(0, .one (.s .far () 4 (x0.map GState.t))), (3, .one (.s .own () 4 ((List.replicate (x0.length : Int).toNat (GState.mk (0 : Int) (0 : Int) (0 : Int) (0 : Int))).map GState.t))), (4, .one (tI (0 : Int)))]) (.exit 0) (stL 23 [(3, .one (.s .own () 4 (w0_3.map GState.t)))]) k k] rfl rfl (fun k => by kernel_rfl) ⟨Ev.c lenMap, Ev.c h0, Ev.c (repMap rfl), Loops.ev h1, trivial⟩
noncomputable def l_toStateS_F (x0 : List GState) : Option ((List GState)) :=
    if 0 ≤ (x0.length : Int) ∧ (x0.length : Int) ≤ (x0.length : Int) ∧ ((32 : Nat) : Int) * (x0.length : Int) ≤ 281474976710656 ∧ (x0.length : Int) ≤ 4611686018427387904 then if x0.length ≤ 9223372036854775807 then (l_toStateS_l0 x0 0 (List.replicate (x0.length : Int).toNat (GState.mk (0 : Int) (0 : Int) (0 : Int) (0 : Int)))).bind fun y => match y with
      | .x0 w0_3 => (some (w0_3)) else none else none
theorem l_toStateS_D (x0 : List GState) : Ans (l_toStateS_F x0) (fun r => Does E 98 [.one (.s .far () 4 (x0.map GState.t))] [(false, [.s .own () 4 (r.map GState.t)])]) := by
  unfold l_toStateS_F
  refine Ans.pre (fun h0 => ?_)
  refine Ans.pre (fun hl1 => ?_)
  refine Ans.bind (fun y hy => ?_)
  replace hy := l_toStateS_L0 x0 x0 0 (List.replicate (x0.length : Int).toNat (GState.mk (0 : Int) (0 : Int) (0 : Int) (0 : Int))) rfl hl1 y hy
  cases y with
  | x0 w0_3 =>
    have h1 := hy
    exact Ans.some (l_toStateS_P0 x0 w0_3 h0 h1)
def p_l_toStateS (l : List GState) : List GState := l
theorem cp_l_toStateS : ∀ (rest : List GState) (i : Nat) (v : List GState), (∀ y ∈ rest, Small.sm y) → v.length = i + rest.length → l_toStateS_l0 rest i v = some (.x0 (v.take i ++ rest))
  | [], i, v, _, hv => by unfold l_toStateS_l0; rw [List.take_of_length_le (by simp at hv; omega)]; simp
  | x :: rest, i, v, h, hv => by
    have hx := h x (by simp)
    have hi : i < v.length := by simp at hv; omega
    unfold l_toStateS_l0
    rw [getI_nat, List.getElem?_eq_getElem hi, Option.bind_some]
    try rw [if_pos hx]
    rw [Int.toNat_natCast, cp_l_toStateS rest (i + 1) _ (fun y hy => h y (by simp [hy])) (by simp at hv ⊢; omega), takeSet hi]
    simp [p_l_toState]
theorem T_l_toStateS (x0 : List GState) (h : Small.sm x0) : Does E 98 [.one (.s .far () 4 (x0.map GState.t))] [(false, [.s .own () 4 ((p_l_toStateS x0).map GState.t)])] := by
  exact l_toStateS_D x0 _ (by
    unfold l_toStateS_F
    rw [if_pos (makeOk 32 (by decide) h.1 rfl), if_pos (sm_wf_len h), cp_l_toStateS x0 0 _ h.2 (by simp)]
    simp [p_l_toStateS])
theorem l_toRun_P0 (x0 : LRun) (h0 : Small.sm x0.f1) (h1 : Small.sm x0.f3) : Does E 74 [.agg (LRun.t .far x0)] [(true, GRun.t .own (GRun.mk x0.f0 (p_l_toSpan x0.f1) x0.f2 (p_l_toStateS x0.f3)))] :=
  Does.path (fn := Try.f74) [.ret [(true, GSpan.t (p_l_toSpan x0.f1))], .ret [(false, [.s .own () 4 ((p_l_toStateS x0.f3).map GState.t)])]] [fun k => E.C k 97 [.agg (GSpan.t x0.f1)] = some [(true, GSpan.t (p_l_toSpan x0.f1))], fun k => E.C k 98 [.one (.s .far () 4 (x0.f3.map GState.t))] = some [(false, [.s .own () 4 ((p_l_toStateS x0.f3).map GState.t)])]] rfl rfl (fun k => by kernel_rfl) ⟨T_l_toSpan x0.f1 h0, T_l_toStateS x0.f3 h1, trivial⟩
noncomputable def l_toRun_F (x0 : LRun) : Option (GRun) :=
    if Small.sm x0.f1 then if Small.sm x0.f3 then some ((GRun.mk x0.f0 (p_l_toSpan x0.f1) x0.f2 (p_l_toStateS x0.f3))) else none else none
theorem l_toRun_D (x0 : LRun) : Ans (l_toRun_F x0) (fun r => Does E 74 [.agg (LRun.t .far x0)] [(true, GRun.t .own r)]) := by
  unfold l_toRun_F
  refine Ans.pre (fun h0 => ?_)
  refine Ans.pre (fun h1 => ?_)
  exact Ans.some (l_toRun_P0 x0 h0 h1)
def p_l_toRun (x : LRun) : GRun := ⟨x.f0, p_l_toSpan x.f1, x.f2, p_l_toStateS x.f3⟩
theorem sm_l_toRun {x : LRun} (h : Small.sm x) : Small.sm (p_l_toRun x) := by
  obtain ⟨w0, w1, w3⟩ := h
  exact ⟨w0, w1, w3⟩
theorem T_l_toRun (x0 : LRun) (h : Small.sm x0) : Does E 74 [.agg (LRun.t .far x0)] [(true, GRun.t .own (p_l_toRun x0))] := by
  obtain ⟨w0, w1, w3⟩ := h
  exact l_toRun_D x0 _ (by
    unfold l_toRun_F
    repeat rw [if_pos (by assumption)]
    rfl)
inductive l_toRunS_X0 where
  | x0 (v3 : List GRun)
def l_toRunS_Q0 {q0 : Kd} (v0 : List LRun) (v3 : List GRun) (v4 : Int) : l_toRunS_X0 → Prop
  | .x0 zv3 => Loops E 40 (lpAt Try.f40 0) (stL 23 [(0, .one (.s .far () 5 (v0.map (LRun.t q0)))), (3, .one (.s .own () 5 (v3.map (GRun.t .own)))), (4, .one (tI v4))]) (.exit 0) (stL 23 [(3, .one (.s .own () 5 (zv3.map (GRun.t .own))))])
theorem l_toRunS_R0_0 {q0 : Kd} (v0 : List LRun) (v3 : List GRun) (v4 : Int) (g0 : LRun) (g1 : GRun) (h0 : (decide (v4 < (v0.length : Int))) = true) (h1 : getI v0 v4 = some g0) (h2 : Small.sm g0) (h3 : getI v3 v4 = some g1) : Round E 40 (lpAt Try.f40 0) (stL 23 [(0, .one (.s .far () 5 (v0.map (LRun.t q0)))), (3, .one (.s .own () 5 (v3.map (GRun.t .own)))), (4, .one (tI v4))]) .normal (stL 23 [(0, .one (.s .far () 5 (v0.map (LRun.t q0)))), (3, .one (.s .own () 5 ((v3.set v4.toNat (p_l_toRun g0)).map (GRun.t .own)))), (4, .one (tI (inc v4)))]) :=
  Round.path [.val (.int .i64 (v0.length : Int)), .b true, .row ((LRun.t q0) g0), .ret [(true, GRun.t .own (p_l_toRun g0))], .row ((GRun.t .own) g1), .rows ((v3.set v4.toNat (p_l_toRun g0)).map (GRun.t .own))] [fun _ => ((v0.map (LRun.t q0)).length : Int) = (v0.length : Int), fun _ => (decide (v4 < (v0.length : Int))) = true, fun _ => 0 ≤ v4 ∧ (v0.map (LRun.t q0))[v4.toNat]? = some ((LRun.t q0) g0), fun k => E.C k 74 [.agg (LRun.t .far g0)] = some [(true, GRun.t .own (p_l_toRun g0))], fun _ => 0 ≤ v4 ∧ v4 < ((v3.map (GRun.t .own)).length : Int), fun _ => (v3.map (GRun.t .own))[0 + v4.toNat]? = some ((GRun.t .own) g1), fun _ => (v3.map (GRun.t .own)).set (0 + v4.toNat) (spliceAt ((GRun.t .own) g1) 0 [tS ((p_l_toRun g0).f0), tI (((p_l_toRun g0).f1).f0), tI (((p_l_toRun g0).f1).f1), tI ((p_l_toRun g0).f2), .s .own () 4 (((p_l_toRun g0).f3).map GState.t)]) = (v3.set v4.toNat (p_l_toRun g0)).map (GRun.t .own)] (fun k => by kernel_rfl) ⟨Ev.c lenMap, Ev.c h0, Ev.c (getRow h1), T_l_toRun g0 h2, Ev.c (getLt h3), Ev.c (getRow0 h3), Ev.c (setMap (by rfl)), trivial⟩
theorem l_toRunS_R0_1 {q0 : Kd} (v0 : List LRun) (v3 : List GRun) (v4 : Int) (h0 : (decide (v4 < (v0.length : Int))) = false) : Round E 40 (lpAt Try.f40 0) (stL 23 [(0, .one (.s .far () 5 (v0.map (LRun.t q0)))), (3, .one (.s .own () 5 (v3.map (GRun.t .own)))), (4, .one (tI v4))]) (.exit 0) (stL 23 [(3, .one (.s .own () 5 (v3.map (GRun.t .own))))]) :=
  Round.path [.val (.int .i64 (v0.length : Int)), .b false] [fun _ => ((v0.map (LRun.t q0)).length : Int) = (v0.length : Int), fun _ => (decide (v4 < (v0.length : Int))) = false] (fun k => by kernel_rfl) ⟨Ev.c lenMap, Ev.c h0, trivial⟩
noncomputable def l_toRunS_l0  : List LRun → Nat → (List GRun) → Option l_toRunS_X0
  | [], i, v3 => some (.x0 v3)
  | hd :: rest, i, v3 => if Small.sm hd then (getI v3 (i : Int)).bind fun g1 => l_toRunS_l0 rest (i + 1) (v3.set (i : Int).toNat (p_l_toRun hd)) else none
theorem l_toRunS_L0 {q0 : Kd} (v0 : List LRun) (rest : List LRun) : ∀ (i : Nat) (v3 : List GRun), (v0).drop i = rest → v0.length ≤ 9223372036854775807 → Ans (l_toRunS_l0 rest i v3) (l_toRunS_Q0 (q0 := q0) v0 v3 (i : Int)) := by
  induction rest with
  | nil =>
    intro i v3 hE hl
    have hb := foldEnd hE
    unfold l_toRunS_l0
    exact Ans.some (Loops.stop (l_toRunS_R0_1 (q0 := q0) v0 v3 (i : Int) hb) (by intro h; cases h))
  | cons hd rest ih =>
    intro i v3 hE hl
    have hb := foldMore hE
    have hw := foldNext hE hl
    have hE2 := foldRest hE
    have hg := foldGet hE
    unfold l_toRunS_l0
    refine Ans.pre (fun h2 => ?_)
    refine Ans.bind (fun g1 h3 => ?_)
    exact (ih (i + 1) (v3.set (i : Int).toNat (p_l_toRun hd)) hE2 hl).mono fun y hy => by have r := l_toRunS_R0_0 (q0 := q0) v0 v3 (i : Int) hd g1 hb hg h2 h3; rw [hw] at r; cases y <;> exact Loops.next r hy
theorem l_toRunS_P0 {q0 : Kd} (x0 : List LRun) (w0_3 : List GRun) (h0 : 0 ≤ (x0.length : Int) ∧ (x0.length : Int) ≤ (x0.length : Int) ∧ ((64 : Nat) : Int) * (x0.length : Int) ≤ 281474976710656 ∧ (x0.length : Int) ≤ 4611686018427387904) (h1 : Loops E 40 (lpAt Try.f40 0) (stL 23 [(0, .one (.s .far () 5 (x0.map (LRun.t q0)))), (3, .one (.s .own () 5 ((List.replicate (x0.length : Int).toNat (GRun.mk ByteArray.empty (GSpan.mk (0 : Int) (0 : Int)) (0 : Int) ([] : List GState))).map (GRun.t .own)))), (4, .one (tI (0 : Int)))]) (.exit 0) (stL 23 [(3, .one (.s .own () 5 (w0_3.map (GRun.t .own))))])) : Does E 40 [.one (.s .far () 5 (x0.map (LRun.t q0)))] [(false, [.s .own () 5 (w0_3.map (GRun.t .own))])] :=
  Does.path (fn := Try.f40) [.val (.int .i64 (x0.length : Int)), .rows ((List.replicate (x0.length : Int).toNat (GRun.mk ByteArray.empty (GSpan.mk (0 : Int) (0 : Int)) (0 : Int) ([] : List GState))).map (GRun.t .own)), .lp (.exit 0) (stL 23 [(3, .one (.s .own () 5 (w0_3.map (GRun.t .own))))])] [fun _ => ((x0.map (LRun.t q0)).length : Int) = (x0.length : Int), fun _ => 0 ≤ (x0.length : Int) ∧ (x0.length : Int) ≤ (x0.length : Int) ∧ ((64 : Nat) : Int) * (x0.length : Int) ≤ 281474976710656 ∧ (x0.length : Int) ≤ 4611686018427387904, fun _ => List.replicate (x0.length : Int).toNat [tS ByteArray.empty, tI (0 : Int), tI (0 : Int), tI (0 : Int), .s .own () 4 (([] : List GState).map GState.t)] = (List.replicate (x0.length : Int).toNat (GRun.mk ByteArray.empty (GSpan.mk (0 : Int) (0 : Int)) (0 : Int) ([] : List GState))).map (GRun.t .own), fun k => LoopK E 40 (lpAt Try.f40 0) (stL 23 [(0, .one (.s .far () 5 (x0.map (LRun.t q0)))), (3, .one (.s .own () 5 ((List.replicate (x0.length : Int).toNat (GRun.mk ByteArray.empty (GSpan.mk (0 : Int) (0 : Int)) (0 : Int) ([] : List GState))).map (GRun.t .own)))), (4, .one (tI (0 : Int)))]) (.exit 0) (stL 23 [(3, .one (.s .own () 5 (w0_3.map (GRun.t .own))))]) k k] rfl rfl (fun k => by kernel_rfl) ⟨Ev.c lenMap, Ev.c h0, Ev.c (repMap rfl), Loops.ev h1, trivial⟩
noncomputable def l_toRunS_F (x0 : List LRun) : Option ((List GRun)) :=
    if 0 ≤ (x0.length : Int) ∧ (x0.length : Int) ≤ (x0.length : Int) ∧ ((64 : Nat) : Int) * (x0.length : Int) ≤ 281474976710656 ∧ (x0.length : Int) ≤ 4611686018427387904 then if x0.length ≤ 9223372036854775807 then (l_toRunS_l0 x0 0 (List.replicate (x0.length : Int).toNat (GRun.mk ByteArray.empty (GSpan.mk (0 : Int) (0 : Int)) (0 : Int) ([] : List GState)))).bind fun y => match y with
      | .x0 w0_3 => (some (w0_3)) else none else none
theorem l_toRunS_D {q0 : Kd} (x0 : List LRun) : Ans (l_toRunS_F x0) (fun r => Does E 40 [.one (.s .far () 5 (x0.map (LRun.t q0)))] [(false, [.s .own () 5 (r.map (GRun.t .own))])]) := by
  unfold l_toRunS_F
  refine Ans.pre (fun h0 => ?_)
  refine Ans.pre (fun hl1 => ?_)
  refine Ans.bind (fun y hy => ?_)
  replace hy := l_toRunS_L0 (q0 := q0) x0 x0 0 (List.replicate (x0.length : Int).toNat (GRun.mk ByteArray.empty (GSpan.mk (0 : Int) (0 : Int)) (0 : Int) ([] : List GState))) rfl hl1 y hy
  cases y with
  | x0 w0_3 =>
    have h1 := hy
    exact Ans.some (l_toRunS_P0 (q0 := q0) x0 w0_3 h0 h1)
def p_l_toRunS (l : List LRun) : List GRun := l.map p_l_toRun
theorem cp_l_toRunS : ∀ (rest : List LRun) (i : Nat) (v : List GRun), (∀ y ∈ rest, Small.sm y) → v.length = i + rest.length → l_toRunS_l0 rest i v = some (.x0 (v.take i ++ rest.map p_l_toRun))
  | [], i, v, _, hv => by unfold l_toRunS_l0; rw [List.take_of_length_le (by simp at hv; omega)]; simp
  | x :: rest, i, v, h, hv => by
    have hx := h x (by simp)
    have hi : i < v.length := by simp at hv; omega
    unfold l_toRunS_l0
    rw [getI_nat, List.getElem?_eq_getElem hi, Option.bind_some]
    try rw [if_pos hx]
    rw [Int.toNat_natCast, cp_l_toRunS rest (i + 1) _ (fun y hy => h y (by simp [hy])) (by simp at hv ⊢; omega), takeSet hi]
    simp
theorem sm_l_toRunS {l : List LRun} (h : Small.sm l) : Small.sm (p_l_toRunS l) := ⟨by unfold p_l_toRunS; rw [List.length_map]; exact h.1, fun y hy => by obtain ⟨x, hx, rfl⟩ := List.mem_map.1 hy; exact sm_l_toRun (h.2 x hx)⟩
theorem T_l_toRunS {q0 : Kd} (x0 : List LRun) (h : Small.sm x0) : Does E 40 [.one (.s .far () 5 (x0.map (LRun.t q0)))] [(false, [.s .own () 5 ((p_l_toRunS x0).map (GRun.t .own))])] := by
  exact l_toRunS_D x0 _ (by
    unfold l_toRunS_F
    rw [if_pos (makeOk 64 (by decide) h.1 rfl), if_pos (sm_wf_len h), cp_l_toRunS x0 0 _ h.2 (by simp)]
    simp [p_l_toRunS])
theorem l_toBoard_P0 {q0 : Kd} (x0 : LBoard) (h0 : Small.sm x0.f0) (h1 : Small.sm x0.f1) (h2 : Small.sm x0.f2) : Does E 14 [.agg (LBoard.t .far q0 x0)] [(true, GBoard.t .own .own (GBoard.mk (p_l_toSessionS x0.f0) (p_l_toPlanS x0.f1) (p_l_toRunS x0.f2) x0.f3 x0.f4))] :=
  Does.path (fn := Try.f14) [.ret [(false, [.s .own () 3 ((p_l_toSessionS x0.f0).map GSession.t)])], .ret [(false, [.s .own () 9 ((p_l_toPlanS x0.f1).map (GPlan.t .own .own))])], .ret [(false, [.s .own () 5 ((p_l_toRunS x0.f2).map (GRun.t .own))])]] [fun k => E.C k 38 [.one (.s .far () 3 (x0.f0.map GSession.t))] = some [(false, [.s .own () 3 ((p_l_toSessionS x0.f0).map GSession.t)])], fun k => E.C k 39 [.one (.s .far () 9 (x0.f1.map (LPlan.t q0 q0)))] = some [(false, [.s .own () 9 ((p_l_toPlanS x0.f1).map (GPlan.t .own .own))])], fun k => E.C k 40 [.one (.s .far () 5 (x0.f2.map (LRun.t q0)))] = some [(false, [.s .own () 5 ((p_l_toRunS x0.f2).map (GRun.t .own))])]] rfl rfl (fun k => by kernel_rfl) ⟨T_l_toSessionS x0.f0 h0, T_l_toPlanS x0.f1 h1, T_l_toRunS x0.f2 h2, trivial⟩
noncomputable def l_toBoard_F (x0 : LBoard) : Option (GBoard) :=
    if Small.sm x0.f0 then if Small.sm x0.f1 then if Small.sm x0.f2 then some ((GBoard.mk (p_l_toSessionS x0.f0) (p_l_toPlanS x0.f1) (p_l_toRunS x0.f2) x0.f3 x0.f4)) else none else none else none
theorem l_toBoard_D {q0 : Kd} (x0 : LBoard) : Ans (l_toBoard_F x0) (fun r => Does E 14 [.agg (LBoard.t .far q0 x0)] [(true, GBoard.t .own .own r)]) := by
  unfold l_toBoard_F
  refine Ans.pre (fun h0 => ?_)
  refine Ans.pre (fun h1 => ?_)
  refine Ans.pre (fun h2 => ?_)
  exact Ans.some (l_toBoard_P0 (q0 := q0) x0 h0 h1 h2)
def p_l_toBoard (x : LBoard) : GBoard := ⟨p_l_toSessionS x.f0, p_l_toPlanS x.f1, p_l_toRunS x.f2, x.f3, x.f4⟩
theorem sm_l_toBoard {x : LBoard} (h : Small.sm x) : Small.sm (p_l_toBoard x) := by
  obtain ⟨w0, w1, w2⟩ := h
  exact ⟨w0, (sm_l_toPlanS w1), (sm_l_toRunS w2)⟩
theorem T_l_toBoard {q0 : Kd} (x0 : LBoard) (h : Small.sm x0) : Does E 14 [.agg (LBoard.t .far q0 x0)] [(true, GBoard.t .own .own (p_l_toBoard x0))] := by
  obtain ⟨w0, w1, w2⟩ := h
  exact l_toBoard_D x0 _ (by
    unfold l_toBoard_F
    repeat rw [if_pos (by assumption)]
    rfl)
theorem l_eqSession_P0 (x0 : GSession) (x1 : GSession) (h0 : (x0.f0 != x1.f0) = true) : Does E 75 [.agg (GSession.t x0), .agg (GSession.t x1)] [(false, [tB false])] :=
  Does.path (fn := Try.f75) [.b true] [fun _ => (x0.f0 != x1.f0) = true] rfl rfl (fun k => by kernel_rfl) ⟨Ev.c h0, trivial⟩
theorem l_eqSession_P1 (x0 : GSession) (x1 : GSession) (h0 : (x0.f0 != x1.f0) = false) (h1 : (x0.f1 != x1.f1) = true) : Does E 75 [.agg (GSession.t x0), .agg (GSession.t x1)] [(false, [tB false])] :=
  Does.path (fn := Try.f75) [.b false, .b true] [fun _ => (x0.f0 != x1.f0) = false, fun _ => (x0.f1 != x1.f1) = true] rfl rfl (fun k => by kernel_rfl) ⟨Ev.c h0, Ev.c h1, trivial⟩
theorem l_eqSession_P2 (x0 : GSession) (x1 : GSession) (h0 : (x0.f0 != x1.f0) = false) (h1 : (x0.f1 != x1.f1) = false) (h2 : (!(x0.f2.toList == x1.f2.toList)) = true) : Does E 75 [.agg (GSession.t x0), .agg (GSession.t x1)] [(false, [tB false])] :=
  Does.path (fn := Try.f75) [.b false, .b false, .b true] [fun _ => (x0.f0 != x1.f0) = false, fun _ => (x0.f1 != x1.f1) = false, fun _ => (!(x0.f2.toList == x1.f2.toList)) = true] rfl rfl (fun k => by kernel_rfl) ⟨Ev.c h0, Ev.c h1, Ev.c h2, trivial⟩
theorem l_eqSession_P3 (x0 : GSession) (x1 : GSession) (h0 : (x0.f0 != x1.f0) = false) (h1 : (x0.f1 != x1.f1) = false) (h2 : (!(x0.f2.toList == x1.f2.toList)) = false) : Does E 75 [.agg (GSession.t x0), .agg (GSession.t x1)] [(false, [tB true])] :=
  Does.path (fn := Try.f75) [.b false, .b false, .b false] [fun _ => (x0.f0 != x1.f0) = false, fun _ => (x0.f1 != x1.f1) = false, fun _ => (!(x0.f2.toList == x1.f2.toList)) = false] rfl rfl (fun k => by kernel_rfl) ⟨Ev.c h0, Ev.c h1, Ev.c h2, trivial⟩
noncomputable def l_eqSession_F (x0 : GSession) (x1 : GSession) : Option (Bool) :=
    cond (x0.f0 != x1.f0)
      (some (false))
      (cond (x0.f1 != x1.f1)
        (some (false))
        (cond (!(x0.f2.toList == x1.f2.toList))
          (some (false))
          (some (true))))
theorem l_eqSession_D (x0 : GSession) (x1 : GSession) : Ans (l_eqSession_F x0 x1) (fun r => Does E 75 [.agg (GSession.t x0), .agg (GSession.t x1)] [(false, [tB r])]) := by
  unfold l_eqSession_F
  refine Ans.ite (fun h0 => ?_) (fun h0 => ?_)
  · exact Ans.some (l_eqSession_P0 x0 x1 h0)
  · refine Ans.ite (fun h1 => ?_) (fun h1 => ?_)
    · exact Ans.some (l_eqSession_P1 x0 x1 h0 h1)
    · refine Ans.ite (fun h2 => ?_) (fun h2 => ?_)
      · exact Ans.some (l_eqSession_P2 x0 x1 h0 h1 h2)
      · exact Ans.some (l_eqSession_P3 x0 x1 h0 h1 h2)
theorem T_l_eqSession (x0 : GSession) (x1 : GSession) (e : x0 = x1) (h : Small.sm x0) : Does E 75 [.agg (GSession.t x0), .agg (GSession.t x1)] [(false, [tB (yes x0 x1)])] := by
  subst e
  have w2 : Small.sm x0.f2 := h
  exact l_eqSession_D x0 x0 _ (by
    unfold l_eqSession_F
    simp only [if_true, yes, bne_self_eq_false, BEq.rfl, Bool.not_true, cond_false, cond_true])
inductive l_eqSessionS_X0 where
  | ret (v4 : Bool)
  | x0 
def l_eqSessionS_Q0 (v0 : List GSession) (v1 : List GSession) (v5 : Int) : l_eqSessionS_X0 → Prop
  | .ret zv4 => Loops E 43 (lpAt Try.f43 0) (stL 27 [(0, .one (.s .far () 3 (v0.map GSession.t))), (1, .one (.s .far () 3 (v1.map GSession.t))), (5, .one (tI v5))]) .ret (stL 27 [(4, .one (tB zv4))])
  | .x0 => Loops E 43 (lpAt Try.f43 0) (stL 27 [(0, .one (.s .far () 3 (v0.map GSession.t))), (1, .one (.s .far () 3 (v1.map GSession.t))), (5, .one (tI v5))]) (.exit 0) (stL 27 [])
theorem l_eqSessionS_R0_0 (v0 : List GSession) (v1 : List GSession) (v5 : Int) (g0 : GSession) (g1 : GSession) (h0 : (decide (v5 < (v0.length : Int))) = true) (h1 : getI v0 v5 = some g0) (h2 : getI v1 v5 = some g1) (h3 : g0 = g1) (h4 : Small.sm g0) (h5 : (yes g0 g1) = true) : Round E 43 (lpAt Try.f43 0) (stL 27 [(0, .one (.s .far () 3 (v0.map GSession.t))), (1, .one (.s .far () 3 (v1.map GSession.t))), (5, .one (tI v5))]) .normal (stL 27 [(0, .one (.s .far () 3 (v0.map GSession.t))), (1, .one (.s .far () 3 (v1.map GSession.t))), (5, .one (tI (inc v5)))]) :=
  Round.path [.val (.int .i64 (v0.length : Int)), .b true, .row (GSession.t g0), .row (GSession.t g1), .ret [(false, [tB true])]] [fun _ => ((v0.map GSession.t).length : Int) = (v0.length : Int), fun _ => (decide (v5 < (v0.length : Int))) = true, fun _ => 0 ≤ v5 ∧ (v0.map GSession.t)[v5.toNat]? = some (GSession.t g0), fun _ => 0 ≤ v5 ∧ (v1.map GSession.t)[v5.toNat]? = some (GSession.t g1), fun k => E.C k 75 [.agg (GSession.t g0), .agg (GSession.t g1)] = some [(false, [tB true])]] (fun k => by kernel_rfl) ⟨Ev.c lenMap, Ev.c h0, Ev.c (getRow h1), Ev.c (getRow h2), Does.to (T_l_eqSession g0 g1 h3 h4) (by rw [h5]), trivial⟩
theorem l_eqSessionS_R0_1 (v0 : List GSession) (v1 : List GSession) (v5 : Int) (g0 : GSession) (g1 : GSession) (h0 : (decide (v5 < (v0.length : Int))) = true) (h1 : getI v0 v5 = some g0) (h2 : getI v1 v5 = some g1) (h3 : g0 = g1) (h4 : Small.sm g0) (h5 : (yes g0 g1) = false) : Round E 43 (lpAt Try.f43 0) (stL 27 [(0, .one (.s .far () 3 (v0.map GSession.t))), (1, .one (.s .far () 3 (v1.map GSession.t))), (5, .one (tI v5))]) .ret (stL 27 [(4, .one (tB false))]) :=
  Round.path [.val (.int .i64 (v0.length : Int)), .b true, .row (GSession.t g0), .row (GSession.t g1), .ret [(false, [tB false])]] [fun _ => ((v0.map GSession.t).length : Int) = (v0.length : Int), fun _ => (decide (v5 < (v0.length : Int))) = true, fun _ => 0 ≤ v5 ∧ (v0.map GSession.t)[v5.toNat]? = some (GSession.t g0), fun _ => 0 ≤ v5 ∧ (v1.map GSession.t)[v5.toNat]? = some (GSession.t g1), fun k => E.C k 75 [.agg (GSession.t g0), .agg (GSession.t g1)] = some [(false, [tB false])]] (fun k => by kernel_rfl) ⟨Ev.c lenMap, Ev.c h0, Ev.c (getRow h1), Ev.c (getRow h2), Does.to (T_l_eqSession g0 g1 h3 h4) (by rw [h5]), trivial⟩
theorem l_eqSessionS_R0_2 (v0 : List GSession) (v1 : List GSession) (v5 : Int) (h0 : (decide (v5 < (v0.length : Int))) = false) : Round E 43 (lpAt Try.f43 0) (stL 27 [(0, .one (.s .far () 3 (v0.map GSession.t))), (1, .one (.s .far () 3 (v1.map GSession.t))), (5, .one (tI v5))]) (.exit 0) (stL 27 []) :=
  Round.path [.val (.int .i64 (v0.length : Int)), .b false] [fun _ => ((v0.map GSession.t).length : Int) = (v0.length : Int), fun _ => (decide (v5 < (v0.length : Int))) = false] (fun k => by kernel_rfl) ⟨Ev.c lenMap, Ev.c h0, trivial⟩
noncomputable def l_eqSessionS_l0 (v1 : List GSession) : List GSession → Nat → Option l_eqSessionS_X0
  | [], i => some (.x0)
  | hd :: rest, i => (getI v1 (i : Int)).bind fun g1 => if hd = g1 then if Small.sm hd then cond (yes hd g1)
    (l_eqSessionS_l0 v1 rest (i + 1))
    (some (.ret false)) else none else none
theorem l_eqSessionS_L0 (v0 : List GSession) (v1 : List GSession) (rest : List GSession) : ∀ (i : Nat) , (v0).drop i = rest → v0.length ≤ 9223372036854775807 → Ans (l_eqSessionS_l0 v1 rest i) (l_eqSessionS_Q0 v0 v1 (i : Int)) := by
  induction rest with
  | nil =>
    intro i hE hl
    have hb := foldEnd hE
    unfold l_eqSessionS_l0
    exact Ans.some (Loops.stop (l_eqSessionS_R0_2 v0 v1 (i : Int) hb) (by intro h; cases h))
  | cons hd rest ih =>
    intro i hE hl
    have hb := foldMore hE
    have hw := foldNext hE hl
    have hE2 := foldRest hE
    have hg := foldGet hE
    unfold l_eqSessionS_l0
    refine Ans.bind (fun g1 h2 => ?_)
    refine Ans.pre (fun h3 => ?_)
    refine Ans.pre (fun h4 => ?_)
    refine Ans.ite (fun h5 => ?_) (fun h5 => ?_)
    · exact (ih (i + 1) hE2 hl).mono fun y hy => by have r := l_eqSessionS_R0_0 v0 v1 (i : Int) hd g1 hb hg h2 h3 h4 h5; rw [hw] at r; cases y <;> exact Loops.next r hy
    · exact Ans.some (Loops.stop (l_eqSessionS_R0_1 v0 v1 (i : Int) hd g1 hb hg h2 h3 h4 h5) (by intro h; cases h))
theorem l_eqSessionS_P0 (x0 : List GSession) (x1 : List GSession) (h0 : ((x0.length : Int) != (x1.length : Int)) = true) : Does E 43 [.one (.s .far () 3 (x0.map GSession.t)), .one (.s .far () 3 (x1.map GSession.t))] [(false, [tB false])] :=
  Does.path (fn := Try.f43) [.val (.int .i64 (x0.length : Int)), .val (.int .i64 (x1.length : Int)), .b true] [fun _ => ((x0.map GSession.t).length : Int) = (x0.length : Int), fun _ => ((x1.map GSession.t).length : Int) = (x1.length : Int), fun _ => ((x0.length : Int) != (x1.length : Int)) = true] rfl rfl (fun k => by kernel_rfl) ⟨Ev.c lenMap, Ev.c lenMap, Ev.c h0, trivial⟩
theorem l_eqSessionS_P1 (x0 : List GSession) (x1 : List GSession) (w0_4 : Bool) (h0 : ((x0.length : Int) != (x1.length : Int)) = false) (h1 : Loops E 43 (lpAt Try.f43 0) (stL 27 [(0, .one (.s .far () 3 (x0.map GSession.t))), (1, .one (.s .far () 3 (x1.map GSession.t))), (5, .one (tI (0 : Int)))]) .ret (stL 27 [(4, .one (tB w0_4))])) : Does E 43 [.one (.s .far () 3 (x0.map GSession.t)), .one (.s .far () 3 (x1.map GSession.t))] [(false, [tB w0_4])] :=
  Does.path (fn := Try.f43) [.val (.int .i64 (x0.length : Int)), .val (.int .i64 (x1.length : Int)), .b false, .lp .ret (stL 27 [(4, .one (tB w0_4))])] [fun _ => ((x0.map GSession.t).length : Int) = (x0.length : Int), fun _ => ((x1.map GSession.t).length : Int) = (x1.length : Int), fun _ => ((x0.length : Int) != (x1.length : Int)) = false, fun k => LoopK E 43 (lpAt Try.f43 0) (stL 27 [(0, .one (.s .far () 3 (x0.map GSession.t))), (1, .one (.s .far () 3 (x1.map GSession.t))), (5, .one (tI (0 : Int)))]) .ret (stL 27 [(4, .one (tB w0_4))]) k k] rfl rfl (fun k => by kernel_rfl) ⟨Ev.c lenMap, Ev.c lenMap, Ev.c h0, Loops.ev h1, trivial⟩
theorem l_eqSessionS_P2 (x0 : List GSession) (x1 : List GSession) (h0 : ((x0.length : Int) != (x1.length : Int)) = false) (h1 : Loops E 43 (lpAt Try.f43 0) (stL 27 [(0, .one (.s .far () 3 (x0.map GSession.t))), (1, .one (.s .far () 3 (x1.map GSession.t))), (5, .one (tI (0 : Int)))]) (.exit 0) (stL 27 [])) : Does E 43 [.one (.s .far () 3 (x0.map GSession.t)), .one (.s .far () 3 (x1.map GSession.t))] [(false, [tB true])] :=
  Does.path (fn := Try.f43) [.val (.int .i64 (x0.length : Int)), .val (.int .i64 (x1.length : Int)), .b false, .lp (.exit 0) (stL 27 [])] [fun _ => ((x0.map GSession.t).length : Int) = (x0.length : Int), fun _ => ((x1.map GSession.t).length : Int) = (x1.length : Int), fun _ => ((x0.length : Int) != (x1.length : Int)) = false, fun k => LoopK E 43 (lpAt Try.f43 0) (stL 27 [(0, .one (.s .far () 3 (x0.map GSession.t))), (1, .one (.s .far () 3 (x1.map GSession.t))), (5, .one (tI (0 : Int)))]) (.exit 0) (stL 27 []) k k] rfl rfl (fun k => by kernel_rfl) ⟨Ev.c lenMap, Ev.c lenMap, Ev.c h0, Loops.ev h1, trivial⟩
noncomputable def l_eqSessionS_F (x0 : List GSession) (x1 : List GSession) : Option (Bool) :=
    cond ((x0.length : Int) != (x1.length : Int))
      (some (false))
      (if x0.length ≤ 9223372036854775807 then (l_eqSessionS_l0 x1 x0 0).bind fun y => match y with
        | .ret w0_4 => (some (w0_4))
        | .x0 => (some (true)) else none)
theorem l_eqSessionS_D (x0 : List GSession) (x1 : List GSession) : Ans (l_eqSessionS_F x0 x1) (fun r => Does E 43 [.one (.s .far () 3 (x0.map GSession.t)), .one (.s .far () 3 (x1.map GSession.t))] [(false, [tB r])]) := by
  unfold l_eqSessionS_F
  refine Ans.ite (fun h0 => ?_) (fun h0 => ?_)
  · exact Ans.some (l_eqSessionS_P0 x0 x1 h0)
  · refine Ans.pre (fun hl2 => ?_)
    refine Ans.bind (fun y hy => ?_)
    replace hy := l_eqSessionS_L0 x0 x1 x0 0 rfl hl2 y hy
    cases y with
    | ret w0_4 =>
      have h1 := hy
      exact Ans.some (l_eqSessionS_P1 x0 x1 w0_4 h0 h1)
    | x0 =>
      have h1 := hy
      exact Ans.some (l_eqSessionS_P2 x0 x1 h0 h1)
theorem el_l_eqSessionS (l : List GSession) : ∀ (rest : List GSession) (i : Nat), l.drop i = rest → (∀ y ∈ rest, Small.sm y) → l_eqSessionS_l0 l rest i = some .x0
  | [], i, _, _ => rfl
  | x :: rest, i, hE, h => by
    have hx := h x (by simp)
    unfold l_eqSessionS_l0
    rw [foldGet hE, Option.bind_some]
    simp only [hx, if_true, yes, bne_self_eq_false, BEq.rfl, Bool.not_true, cond_false, cond_true]
    exact el_l_eqSessionS l rest (i + 1) (foldRest hE) (fun y hy => h y (by simp [hy]))
theorem T_l_eqSessionS (x0 : List GSession) (x1 : List GSession) (e : x0 = x1) (h : Small.sm x0) : Does E 43 [.one (.s .far () 3 (x0.map GSession.t)), .one (.s .far () 3 (x1.map GSession.t))] [(false, [tB (yes x0 x1)])] := by
  subst e
  exact l_eqSessionS_D x0 x0 _ (by
    unfold l_eqSessionS_F
    rw [if_pos (sm_wf_len h), el_l_eqSessionS x0 x0 0 rfl h.2]
    simp [yes])
inductive l_eqStringS_X0 where
  | ret (v4 : Bool)
  | x0 
def l_eqStringS_Q0 (v0 : List ByteArray) (v1 : List ByteArray) (v5 : Int) : l_eqStringS_X0 → Prop
  | .ret zv4 => Loops E 124 (lpAt Try.f124 0) (stL 26 [(0, .one (.s .far () 1 (v0.map etS))), (1, .one (.s .far () 1 (v1.map etS))), (5, .one (tI v5))]) .ret (stL 26 [(4, .one (tB zv4))])
  | .x0 => Loops E 124 (lpAt Try.f124 0) (stL 26 [(0, .one (.s .far () 1 (v0.map etS))), (1, .one (.s .far () 1 (v1.map etS))), (5, .one (tI v5))]) (.exit 0) (stL 26 [])
theorem l_eqStringS_R0_0 (v0 : List ByteArray) (v1 : List ByteArray) (v5 : Int) (g0 : ByteArray) (g1 : ByteArray) (h0 : (decide (v5 < (v0.length : Int))) = true) (h1 : getI v0 v5 = some g0) (h2 : getI v1 v5 = some g1) (h3 : (!(g0.toList == g1.toList)) = true) : Round E 124 (lpAt Try.f124 0) (stL 26 [(0, .one (.s .far () 1 (v0.map etS))), (1, .one (.s .far () 1 (v1.map etS))), (5, .one (tI v5))]) .ret (stL 26 [(4, .one (tB false))]) :=
  Round.path [.val (.int .i64 (v0.length : Int)), .b true, .row (etS g0), .row (etS g1), .b true] [fun _ => ((v0.map etS).length : Int) = (v0.length : Int), fun _ => (decide (v5 < (v0.length : Int))) = true, fun _ => 0 ≤ v5 ∧ (v0.map etS)[v5.toNat]? = some (etS g0), fun _ => 0 ≤ v5 ∧ (v1.map etS)[v5.toNat]? = some (etS g1), fun _ => (!(g0.toList == g1.toList)) = true] (fun k => by kernel_rfl) ⟨Ev.c lenMap, Ev.c h0, Ev.c (getRow h1), Ev.c (getRow h2), Ev.c h3, trivial⟩
theorem l_eqStringS_R0_1 (v0 : List ByteArray) (v1 : List ByteArray) (v5 : Int) (g0 : ByteArray) (g1 : ByteArray) (h0 : (decide (v5 < (v0.length : Int))) = true) (h1 : getI v0 v5 = some g0) (h2 : getI v1 v5 = some g1) (h3 : (!(g0.toList == g1.toList)) = false) : Round E 124 (lpAt Try.f124 0) (stL 26 [(0, .one (.s .far () 1 (v0.map etS))), (1, .one (.s .far () 1 (v1.map etS))), (5, .one (tI v5))]) .normal (stL 26 [(0, .one (.s .far () 1 (v0.map etS))), (1, .one (.s .far () 1 (v1.map etS))), (5, .one (tI (inc v5)))]) :=
  Round.path [.val (.int .i64 (v0.length : Int)), .b true, .row (etS g0), .row (etS g1), .b false] [fun _ => ((v0.map etS).length : Int) = (v0.length : Int), fun _ => (decide (v5 < (v0.length : Int))) = true, fun _ => 0 ≤ v5 ∧ (v0.map etS)[v5.toNat]? = some (etS g0), fun _ => 0 ≤ v5 ∧ (v1.map etS)[v5.toNat]? = some (etS g1), fun _ => (!(g0.toList == g1.toList)) = false] (fun k => by kernel_rfl) ⟨Ev.c lenMap, Ev.c h0, Ev.c (getRow h1), Ev.c (getRow h2), Ev.c h3, trivial⟩
theorem l_eqStringS_R0_2 (v0 : List ByteArray) (v1 : List ByteArray) (v5 : Int) (h0 : (decide (v5 < (v0.length : Int))) = false) : Round E 124 (lpAt Try.f124 0) (stL 26 [(0, .one (.s .far () 1 (v0.map etS))), (1, .one (.s .far () 1 (v1.map etS))), (5, .one (tI v5))]) (.exit 0) (stL 26 []) :=
  Round.path [.val (.int .i64 (v0.length : Int)), .b false] [fun _ => ((v0.map etS).length : Int) = (v0.length : Int), fun _ => (decide (v5 < (v0.length : Int))) = false] (fun k => by kernel_rfl) ⟨Ev.c lenMap, Ev.c h0, trivial⟩
noncomputable def l_eqStringS_l0 (v1 : List ByteArray) : List ByteArray → Nat → Option l_eqStringS_X0
  | [], i => some (.x0)
  | hd :: rest, i => (getI v1 (i : Int)).bind fun g1 => cond (!(hd.toList == g1.toList))
    (some (.ret false))
    (l_eqStringS_l0 v1 rest (i + 1))
theorem l_eqStringS_L0 (v0 : List ByteArray) (v1 : List ByteArray) (rest : List ByteArray) : ∀ (i : Nat) , (v0).drop i = rest → v0.length ≤ 9223372036854775807 → Ans (l_eqStringS_l0 v1 rest i) (l_eqStringS_Q0 v0 v1 (i : Int)) := by
  induction rest with
  | nil =>
    intro i hE hl
    have hb := foldEnd hE
    unfold l_eqStringS_l0
    exact Ans.some (Loops.stop (l_eqStringS_R0_2 v0 v1 (i : Int) hb) (by intro h; cases h))
  | cons hd rest ih =>
    intro i hE hl
    have hb := foldMore hE
    have hw := foldNext hE hl
    have hE2 := foldRest hE
    have hg := foldGet hE
    unfold l_eqStringS_l0
    refine Ans.bind (fun g1 h2 => ?_)
    refine Ans.ite (fun h3 => ?_) (fun h3 => ?_)
    · exact Ans.some (Loops.stop (l_eqStringS_R0_0 v0 v1 (i : Int) hd g1 hb hg h2 h3) (by intro h; cases h))
    · exact (ih (i + 1) hE2 hl).mono fun y hy => by have r := l_eqStringS_R0_1 v0 v1 (i : Int) hd g1 hb hg h2 h3; rw [hw] at r; cases y <;> exact Loops.next r hy
theorem l_eqStringS_P0 (x0 : List ByteArray) (x1 : List ByteArray) (h0 : ((x0.length : Int) != (x1.length : Int)) = true) : Does E 124 [.one (.s .far () 1 (x0.map etS)), .one (.s .far () 1 (x1.map etS))] [(false, [tB false])] :=
  Does.path (fn := Try.f124) [.val (.int .i64 (x0.length : Int)), .val (.int .i64 (x1.length : Int)), .b true] [fun _ => ((x0.map etS).length : Int) = (x0.length : Int), fun _ => ((x1.map etS).length : Int) = (x1.length : Int), fun _ => ((x0.length : Int) != (x1.length : Int)) = true] rfl rfl (fun k => by kernel_rfl) ⟨Ev.c lenMap, Ev.c lenMap, Ev.c h0, trivial⟩
theorem l_eqStringS_P1 (x0 : List ByteArray) (x1 : List ByteArray) (w0_4 : Bool) (h0 : ((x0.length : Int) != (x1.length : Int)) = false) (h1 : Loops E 124 (lpAt Try.f124 0) (stL 26 [(0, .one (.s .far () 1 (x0.map etS))), (1, .one (.s .far () 1 (x1.map etS))), (5, .one (tI (0 : Int)))]) .ret (stL 26 [(4, .one (tB w0_4))])) : Does E 124 [.one (.s .far () 1 (x0.map etS)), .one (.s .far () 1 (x1.map etS))] [(false, [tB w0_4])] :=
  Does.path (fn := Try.f124) [.val (.int .i64 (x0.length : Int)), .val (.int .i64 (x1.length : Int)), .b false, .lp .ret (stL 26 [(4, .one (tB w0_4))])] [fun _ => ((x0.map etS).length : Int) = (x0.length : Int), fun _ => ((x1.map etS).length : Int) = (x1.length : Int), fun _ => ((x0.length : Int) != (x1.length : Int)) = false, fun k => LoopK E 124 (lpAt Try.f124 0) (stL 26 [(0, .one (.s .far () 1 (x0.map etS))), (1, .one (.s .far () 1 (x1.map etS))), (5, .one (tI (0 : Int)))]) .ret (stL 26 [(4, .one (tB w0_4))]) k k] rfl rfl (fun k => by kernel_rfl) ⟨Ev.c lenMap, Ev.c lenMap, Ev.c h0, Loops.ev h1, trivial⟩
theorem l_eqStringS_P2 (x0 : List ByteArray) (x1 : List ByteArray) (h0 : ((x0.length : Int) != (x1.length : Int)) = false) (h1 : Loops E 124 (lpAt Try.f124 0) (stL 26 [(0, .one (.s .far () 1 (x0.map etS))), (1, .one (.s .far () 1 (x1.map etS))), (5, .one (tI (0 : Int)))]) (.exit 0) (stL 26 [])) : Does E 124 [.one (.s .far () 1 (x0.map etS)), .one (.s .far () 1 (x1.map etS))] [(false, [tB true])] :=
  Does.path (fn := Try.f124) [.val (.int .i64 (x0.length : Int)), .val (.int .i64 (x1.length : Int)), .b false, .lp (.exit 0) (stL 26 [])] [fun _ => ((x0.map etS).length : Int) = (x0.length : Int), fun _ => ((x1.map etS).length : Int) = (x1.length : Int), fun _ => ((x0.length : Int) != (x1.length : Int)) = false, fun k => LoopK E 124 (lpAt Try.f124 0) (stL 26 [(0, .one (.s .far () 1 (x0.map etS))), (1, .one (.s .far () 1 (x1.map etS))), (5, .one (tI (0 : Int)))]) (.exit 0) (stL 26 []) k k] rfl rfl (fun k => by kernel_rfl) ⟨Ev.c lenMap, Ev.c lenMap, Ev.c h0, Loops.ev h1, trivial⟩
noncomputable def l_eqStringS_F (x0 : List ByteArray) (x1 : List ByteArray) : Option (Bool) :=
    cond ((x0.length : Int) != (x1.length : Int))
      (some (false))
      (if x0.length ≤ 9223372036854775807 then (l_eqStringS_l0 x1 x0 0).bind fun y => match y with
        | .ret w0_4 => (some (w0_4))
        | .x0 => (some (true)) else none)
theorem l_eqStringS_D (x0 : List ByteArray) (x1 : List ByteArray) : Ans (l_eqStringS_F x0 x1) (fun r => Does E 124 [.one (.s .far () 1 (x0.map etS)), .one (.s .far () 1 (x1.map etS))] [(false, [tB r])]) := by
  unfold l_eqStringS_F
  refine Ans.ite (fun h0 => ?_) (fun h0 => ?_)
  · exact Ans.some (l_eqStringS_P0 x0 x1 h0)
  · refine Ans.pre (fun hl2 => ?_)
    refine Ans.bind (fun y hy => ?_)
    replace hy := l_eqStringS_L0 x0 x1 x0 0 rfl hl2 y hy
    cases y with
    | ret w0_4 =>
      have h1 := hy
      exact Ans.some (l_eqStringS_P1 x0 x1 w0_4 h0 h1)
    | x0 =>
      have h1 := hy
      exact Ans.some (l_eqStringS_P2 x0 x1 h0 h1)
theorem el_l_eqStringS (l : List ByteArray) : ∀ (rest : List ByteArray) (i : Nat), l.drop i = rest → (∀ y ∈ rest, Small.sm y) → l_eqStringS_l0 l rest i = some .x0
  | [], i, _, _ => rfl
  | x :: rest, i, hE, h => by
    have hx := h x (by simp)
    unfold l_eqStringS_l0
    rw [foldGet hE, Option.bind_some]
    simp only [hx, if_true, yes, bne_self_eq_false, BEq.rfl, Bool.not_true, cond_false, cond_true]
    exact el_l_eqStringS l rest (i + 1) (foldRest hE) (fun y hy => h y (by simp [hy]))
theorem T_l_eqStringS (x0 : List ByteArray) (x1 : List ByteArray) (e : x0 = x1) (h : Small.sm x0) : Does E 124 [.one (.s .far () 1 (x0.map etS)), .one (.s .far () 1 (x1.map etS))] [(false, [tB (yes x0 x1)])] := by
  subst e
  exact l_eqStringS_D x0 x0 _ (by
    unfold l_eqStringS_F
    rw [if_pos (sm_wf_len h), el_l_eqStringS x0 x0 0 rfl h.2]
    simp [yes])
theorem l_eqTask_P0 (x0 : GTask) (x1 : GTask) (h0 : (!(x0.f0.toList == x1.f0.toList)) = true) : Does E 120 [.agg (GTask.t .far x0), .agg (GTask.t .far x1)] [(false, [tB false])] :=
  Does.path (fn := Try.f120) [.b true] [fun _ => (!(x0.f0.toList == x1.f0.toList)) = true] rfl rfl (fun k => by kernel_rfl) ⟨Ev.c h0, trivial⟩
theorem l_eqTask_P1 (x0 : GTask) (x1 : GTask) (h0 : (!(x0.f0.toList == x1.f0.toList)) = false) (h1 : (!(x0.f1.toList == x1.f1.toList)) = true) : Does E 120 [.agg (GTask.t .far x0), .agg (GTask.t .far x1)] [(false, [tB false])] :=
  Does.path (fn := Try.f120) [.b false, .b true] [fun _ => (!(x0.f0.toList == x1.f0.toList)) = false, fun _ => (!(x0.f1.toList == x1.f1.toList)) = true] rfl rfl (fun k => by kernel_rfl) ⟨Ev.c h0, Ev.c h1, trivial⟩
theorem l_eqTask_P2 (x0 : GTask) (x1 : GTask) (h0 : (!(x0.f0.toList == x1.f0.toList)) = false) (h1 : (!(x0.f1.toList == x1.f1.toList)) = false) (h2 : (x0.f2 != x1.f2) = true) : Does E 120 [.agg (GTask.t .far x0), .agg (GTask.t .far x1)] [(false, [tB false])] :=
  Does.path (fn := Try.f120) [.b false, .b false, .b true] [fun _ => (!(x0.f0.toList == x1.f0.toList)) = false, fun _ => (!(x0.f1.toList == x1.f1.toList)) = false, fun _ => (x0.f2 != x1.f2) = true] rfl rfl (fun k => by kernel_rfl) ⟨Ev.c h0, Ev.c h1, Ev.c h2, trivial⟩
theorem l_eqTask_P3 (x0 : GTask) (x1 : GTask) (h0 : (!(x0.f0.toList == x1.f0.toList)) = false) (h1 : (!(x0.f1.toList == x1.f1.toList)) = false) (h2 : (x0.f2 != x1.f2) = false) (h3 : (!(x0.f3 == x1.f3)) = true) : Does E 120 [.agg (GTask.t .far x0), .agg (GTask.t .far x1)] [(false, [tB false])] :=
  Does.path (fn := Try.f120) [.b false, .b false, .b false, .b true] [fun _ => (!(x0.f0.toList == x1.f0.toList)) = false, fun _ => (!(x0.f1.toList == x1.f1.toList)) = false, fun _ => (x0.f2 != x1.f2) = false, fun _ => (!(x0.f3 == x1.f3)) = true] rfl rfl (fun k => by kernel_rfl) ⟨Ev.c h0, Ev.c h1, Ev.c h2, Ev.c h3, trivial⟩
theorem l_eqTask_P4 (x0 : GTask) (x1 : GTask) (h0 : (!(x0.f0.toList == x1.f0.toList)) = false) (h1 : (!(x0.f1.toList == x1.f1.toList)) = false) (h2 : (x0.f2 != x1.f2) = false) (h3 : (!(x0.f3 == x1.f3)) = false) (h4 : x0.f4 = x1.f4) (h5 : Small.sm x0.f4) (h6 : (yes x0.f4 x1.f4) = true) : Does E 120 [.agg (GTask.t .far x0), .agg (GTask.t .far x1)] [(false, [tB true])] :=
  Does.path (fn := Try.f120) [.b false, .b false, .b false, .b false, .ret [(false, [tB true])]] [fun _ => (!(x0.f0.toList == x1.f0.toList)) = false, fun _ => (!(x0.f1.toList == x1.f1.toList)) = false, fun _ => (x0.f2 != x1.f2) = false, fun _ => (!(x0.f3 == x1.f3)) = false, fun k => E.C k 124 [.one (.s .far () 1 (x0.f4.map etS)), .one (.s .far () 1 (x1.f4.map etS))] = some [(false, [tB true])]] rfl rfl (fun k => by kernel_rfl) ⟨Ev.c h0, Ev.c h1, Ev.c h2, Ev.c h3, Does.to (T_l_eqStringS x0.f4 x1.f4 h4 h5) (by rw [h6]), trivial⟩
theorem l_eqTask_P5 (x0 : GTask) (x1 : GTask) (h0 : (!(x0.f0.toList == x1.f0.toList)) = false) (h1 : (!(x0.f1.toList == x1.f1.toList)) = false) (h2 : (x0.f2 != x1.f2) = false) (h3 : (!(x0.f3 == x1.f3)) = false) (h4 : x0.f4 = x1.f4) (h5 : Small.sm x0.f4) (h6 : (yes x0.f4 x1.f4) = false) : Does E 120 [.agg (GTask.t .far x0), .agg (GTask.t .far x1)] [(false, [tB false])] :=
  Does.path (fn := Try.f120) [.b false, .b false, .b false, .b false, .ret [(false, [tB false])]] [fun _ => (!(x0.f0.toList == x1.f0.toList)) = false, fun _ => (!(x0.f1.toList == x1.f1.toList)) = false, fun _ => (x0.f2 != x1.f2) = false, fun _ => (!(x0.f3 == x1.f3)) = false, fun k => E.C k 124 [.one (.s .far () 1 (x0.f4.map etS)), .one (.s .far () 1 (x1.f4.map etS))] = some [(false, [tB false])]] rfl rfl (fun k => by kernel_rfl) ⟨Ev.c h0, Ev.c h1, Ev.c h2, Ev.c h3, Does.to (T_l_eqStringS x0.f4 x1.f4 h4 h5) (by rw [h6]), trivial⟩
noncomputable def l_eqTask_F (x0 : GTask) (x1 : GTask) : Option (Bool) :=
    cond (!(x0.f0.toList == x1.f0.toList))
      (some (false))
      (cond (!(x0.f1.toList == x1.f1.toList))
        (some (false))
        (cond (x0.f2 != x1.f2)
          (some (false))
          (cond (!(x0.f3 == x1.f3))
            (some (false))
            (if x0.f4 = x1.f4 then if Small.sm x0.f4 then cond (yes x0.f4 x1.f4)
              (some (true))
              (some (false)) else none else none))))
theorem l_eqTask_D (x0 : GTask) (x1 : GTask) : Ans (l_eqTask_F x0 x1) (fun r => Does E 120 [.agg (GTask.t .far x0), .agg (GTask.t .far x1)] [(false, [tB r])]) := by
  unfold l_eqTask_F
  refine Ans.ite (fun h0 => ?_) (fun h0 => ?_)
  · exact Ans.some (l_eqTask_P0 x0 x1 h0)
  · refine Ans.ite (fun h1 => ?_) (fun h1 => ?_)
    · exact Ans.some (l_eqTask_P1 x0 x1 h0 h1)
    · refine Ans.ite (fun h2 => ?_) (fun h2 => ?_)
      · exact Ans.some (l_eqTask_P2 x0 x1 h0 h1 h2)
      · refine Ans.ite (fun h3 => ?_) (fun h3 => ?_)
        · exact Ans.some (l_eqTask_P3 x0 x1 h0 h1 h2 h3)
        · refine Ans.pre (fun h4 => ?_)
          refine Ans.pre (fun h5 => ?_)
          refine Ans.ite (fun h6 => ?_) (fun h6 => ?_)
          · exact Ans.some (l_eqTask_P4 x0 x1 h0 h1 h2 h3 h4 h5 h6)
          · exact Ans.some (l_eqTask_P5 x0 x1 h0 h1 h2 h3 h4 h5 h6)
theorem T_l_eqTask (x0 : GTask) (x1 : GTask) (e : x0 = x1) (h : Small.sm x0) : Does E 120 [.agg (GTask.t .far x0), .agg (GTask.t .far x1)] [(false, [tB (yes x0 x1)])] := by
  subst e
  obtain ⟨w0, w1, w4⟩ := h
  exact l_eqTask_D x0 x0 _ (by
    unfold l_eqTask_F
    simp only [w4, if_true, yes, bne_self_eq_false, BEq.rfl, Bool.not_true, cond_false, cond_true])
inductive l_eqTaskS_X0 where
  | ret (v4 : Bool)
  | x0 
def l_eqTaskS_Q0 {q0 : Kd} {q1 : Kd} (v0 : List GTask) (v1 : List GTask) (v5 : Int) : l_eqTaskS_X0 → Prop
  | .ret zv4 => Loops E 113 (lpAt Try.f113 0) (stL 27 [(0, .one (.s .far () 5 (v0.map (GTask.t q0)))), (1, .one (.s .far () 5 (v1.map (GTask.t q1)))), (5, .one (tI v5))]) .ret (stL 27 [(4, .one (tB zv4))])
  | .x0 => Loops E 113 (lpAt Try.f113 0) (stL 27 [(0, .one (.s .far () 5 (v0.map (GTask.t q0)))), (1, .one (.s .far () 5 (v1.map (GTask.t q1)))), (5, .one (tI v5))]) (.exit 0) (stL 27 [])
theorem l_eqTaskS_R0_0 {q0 : Kd} {q1 : Kd} (v0 : List GTask) (v1 : List GTask) (v5 : Int) (g0 : GTask) (g1 : GTask) (h0 : (decide (v5 < (v0.length : Int))) = true) (h1 : getI v0 v5 = some g0) (h2 : getI v1 v5 = some g1) (h3 : g0 = g1) (h4 : Small.sm g0) (h5 : (yes g0 g1) = true) : Round E 113 (lpAt Try.f113 0) (stL 27 [(0, .one (.s .far () 5 (v0.map (GTask.t q0)))), (1, .one (.s .far () 5 (v1.map (GTask.t q1)))), (5, .one (tI v5))]) .normal (stL 27 [(0, .one (.s .far () 5 (v0.map (GTask.t q0)))), (1, .one (.s .far () 5 (v1.map (GTask.t q1)))), (5, .one (tI (inc v5)))]) :=
  Round.path [.val (.int .i64 (v0.length : Int)), .b true, .row ((GTask.t q0) g0), .row ((GTask.t q1) g1), .ret [(false, [tB true])]] [fun _ => ((v0.map (GTask.t q0)).length : Int) = (v0.length : Int), fun _ => (decide (v5 < (v0.length : Int))) = true, fun _ => 0 ≤ v5 ∧ (v0.map (GTask.t q0))[v5.toNat]? = some ((GTask.t q0) g0), fun _ => 0 ≤ v5 ∧ (v1.map (GTask.t q1))[v5.toNat]? = some ((GTask.t q1) g1), fun k => E.C k 120 [.agg (GTask.t .far g0), .agg (GTask.t .far g1)] = some [(false, [tB true])]] (fun k => by kernel_rfl) ⟨Ev.c lenMap, Ev.c h0, Ev.c (getRow h1), Ev.c (getRow h2), Does.to (T_l_eqTask g0 g1 h3 h4) (by rw [h5]), trivial⟩
theorem l_eqTaskS_R0_1 {q0 : Kd} {q1 : Kd} (v0 : List GTask) (v1 : List GTask) (v5 : Int) (g0 : GTask) (g1 : GTask) (h0 : (decide (v5 < (v0.length : Int))) = true) (h1 : getI v0 v5 = some g0) (h2 : getI v1 v5 = some g1) (h3 : g0 = g1) (h4 : Small.sm g0) (h5 : (yes g0 g1) = false) : Round E 113 (lpAt Try.f113 0) (stL 27 [(0, .one (.s .far () 5 (v0.map (GTask.t q0)))), (1, .one (.s .far () 5 (v1.map (GTask.t q1)))), (5, .one (tI v5))]) .ret (stL 27 [(4, .one (tB false))]) :=
  Round.path [.val (.int .i64 (v0.length : Int)), .b true, .row ((GTask.t q0) g0), .row ((GTask.t q1) g1), .ret [(false, [tB false])]] [fun _ => ((v0.map (GTask.t q0)).length : Int) = (v0.length : Int), fun _ => (decide (v5 < (v0.length : Int))) = true, fun _ => 0 ≤ v5 ∧ (v0.map (GTask.t q0))[v5.toNat]? = some ((GTask.t q0) g0), fun _ => 0 ≤ v5 ∧ (v1.map (GTask.t q1))[v5.toNat]? = some ((GTask.t q1) g1), fun k => E.C k 120 [.agg (GTask.t .far g0), .agg (GTask.t .far g1)] = some [(false, [tB false])]] (fun k => by kernel_rfl) ⟨Ev.c lenMap, Ev.c h0, Ev.c (getRow h1), Ev.c (getRow h2), Does.to (T_l_eqTask g0 g1 h3 h4) (by rw [h5]), trivial⟩
theorem l_eqTaskS_R0_2 {q0 : Kd} {q1 : Kd} (v0 : List GTask) (v1 : List GTask) (v5 : Int) (h0 : (decide (v5 < (v0.length : Int))) = false) : Round E 113 (lpAt Try.f113 0) (stL 27 [(0, .one (.s .far () 5 (v0.map (GTask.t q0)))), (1, .one (.s .far () 5 (v1.map (GTask.t q1)))), (5, .one (tI v5))]) (.exit 0) (stL 27 []) :=
  Round.path [.val (.int .i64 (v0.length : Int)), .b false] [fun _ => ((v0.map (GTask.t q0)).length : Int) = (v0.length : Int), fun _ => (decide (v5 < (v0.length : Int))) = false] (fun k => by kernel_rfl) ⟨Ev.c lenMap, Ev.c h0, trivial⟩
noncomputable def l_eqTaskS_l0 (v1 : List GTask) : List GTask → Nat → Option l_eqTaskS_X0
  | [], i => some (.x0)
  | hd :: rest, i => (getI v1 (i : Int)).bind fun g1 => if hd = g1 then if Small.sm hd then cond (yes hd g1)
    (l_eqTaskS_l0 v1 rest (i + 1))
    (some (.ret false)) else none else none
theorem l_eqTaskS_L0 {q0 : Kd} {q1 : Kd} (v0 : List GTask) (v1 : List GTask) (rest : List GTask) : ∀ (i : Nat) , (v0).drop i = rest → v0.length ≤ 9223372036854775807 → Ans (l_eqTaskS_l0 v1 rest i) (l_eqTaskS_Q0 (q0 := q0) (q1 := q1) v0 v1 (i : Int)) := by
  induction rest with
  | nil =>
    intro i hE hl
    have hb := foldEnd hE
    unfold l_eqTaskS_l0
    exact Ans.some (Loops.stop (l_eqTaskS_R0_2 (q0 := q0) (q1 := q1) v0 v1 (i : Int) hb) (by intro h; cases h))
  | cons hd rest ih =>
    intro i hE hl
    have hb := foldMore hE
    have hw := foldNext hE hl
    have hE2 := foldRest hE
    have hg := foldGet hE
    unfold l_eqTaskS_l0
    refine Ans.bind (fun g1 h2 => ?_)
    refine Ans.pre (fun h3 => ?_)
    refine Ans.pre (fun h4 => ?_)
    refine Ans.ite (fun h5 => ?_) (fun h5 => ?_)
    · exact (ih (i + 1) hE2 hl).mono fun y hy => by have r := l_eqTaskS_R0_0 (q0 := q0) (q1 := q1) v0 v1 (i : Int) hd g1 hb hg h2 h3 h4 h5; rw [hw] at r; cases y <;> exact Loops.next r hy
    · exact Ans.some (Loops.stop (l_eqTaskS_R0_1 (q0 := q0) (q1 := q1) v0 v1 (i : Int) hd g1 hb hg h2 h3 h4 h5) (by intro h; cases h))
theorem l_eqTaskS_P0 {q0 : Kd} {q1 : Kd} (x0 : List GTask) (x1 : List GTask) (h0 : ((x0.length : Int) != (x1.length : Int)) = true) : Does E 113 [.one (.s .far () 5 (x0.map (GTask.t q0))), .one (.s .far () 5 (x1.map (GTask.t q1)))] [(false, [tB false])] :=
  Does.path (fn := Try.f113) [.val (.int .i64 (x0.length : Int)), .val (.int .i64 (x1.length : Int)), .b true] [fun _ => ((x0.map (GTask.t q0)).length : Int) = (x0.length : Int), fun _ => ((x1.map (GTask.t q1)).length : Int) = (x1.length : Int), fun _ => ((x0.length : Int) != (x1.length : Int)) = true] rfl rfl (fun k => by kernel_rfl) ⟨Ev.c lenMap, Ev.c lenMap, Ev.c h0, trivial⟩
theorem l_eqTaskS_P1 {q0 : Kd} {q1 : Kd} (x0 : List GTask) (x1 : List GTask) (w0_4 : Bool) (h0 : ((x0.length : Int) != (x1.length : Int)) = false) (h1 : Loops E 113 (lpAt Try.f113 0) (stL 27 [(0, .one (.s .far () 5 (x0.map (GTask.t q0)))), (1, .one (.s .far () 5 (x1.map (GTask.t q1)))), (5, .one (tI (0 : Int)))]) .ret (stL 27 [(4, .one (tB w0_4))])) : Does E 113 [.one (.s .far () 5 (x0.map (GTask.t q0))), .one (.s .far () 5 (x1.map (GTask.t q1)))] [(false, [tB w0_4])] :=
  Does.path (fn := Try.f113) [.val (.int .i64 (x0.length : Int)), .val (.int .i64 (x1.length : Int)), .b false, .lp .ret (stL 27 [(4, .one (tB w0_4))])] [fun _ => ((x0.map (GTask.t q0)).length : Int) = (x0.length : Int), fun _ => ((x1.map (GTask.t q1)).length : Int) = (x1.length : Int), fun _ => ((x0.length : Int) != (x1.length : Int)) = false, fun k => LoopK E 113 (lpAt Try.f113 0) (stL 27 [(0, .one (.s .far () 5 (x0.map (GTask.t q0)))), (1, .one (.s .far () 5 (x1.map (GTask.t q1)))), (5, .one (tI (0 : Int)))]) .ret (stL 27 [(4, .one (tB w0_4))]) k k] rfl rfl (fun k => by kernel_rfl) ⟨Ev.c lenMap, Ev.c lenMap, Ev.c h0, Loops.ev h1, trivial⟩
theorem l_eqTaskS_P2 {q0 : Kd} {q1 : Kd} (x0 : List GTask) (x1 : List GTask) (h0 : ((x0.length : Int) != (x1.length : Int)) = false) (h1 : Loops E 113 (lpAt Try.f113 0) (stL 27 [(0, .one (.s .far () 5 (x0.map (GTask.t q0)))), (1, .one (.s .far () 5 (x1.map (GTask.t q1)))), (5, .one (tI (0 : Int)))]) (.exit 0) (stL 27 [])) : Does E 113 [.one (.s .far () 5 (x0.map (GTask.t q0))), .one (.s .far () 5 (x1.map (GTask.t q1)))] [(false, [tB true])] :=
  Does.path (fn := Try.f113) [.val (.int .i64 (x0.length : Int)), .val (.int .i64 (x1.length : Int)), .b false, .lp (.exit 0) (stL 27 [])] [fun _ => ((x0.map (GTask.t q0)).length : Int) = (x0.length : Int), fun _ => ((x1.map (GTask.t q1)).length : Int) = (x1.length : Int), fun _ => ((x0.length : Int) != (x1.length : Int)) = false, fun k => LoopK E 113 (lpAt Try.f113 0) (stL 27 [(0, .one (.s .far () 5 (x0.map (GTask.t q0)))), (1, .one (.s .far () 5 (x1.map (GTask.t q1)))), (5, .one (tI (0 : Int)))]) (.exit 0) (stL 27 []) k k] rfl rfl (fun k => by kernel_rfl) ⟨Ev.c lenMap, Ev.c lenMap, Ev.c h0, Loops.ev h1, trivial⟩
noncomputable def l_eqTaskS_F (x0 : List GTask) (x1 : List GTask) : Option (Bool) :=
    cond ((x0.length : Int) != (x1.length : Int))
      (some (false))
      (if x0.length ≤ 9223372036854775807 then (l_eqTaskS_l0 x1 x0 0).bind fun y => match y with
        | .ret w0_4 => (some (w0_4))
        | .x0 => (some (true)) else none)
theorem l_eqTaskS_D {q0 : Kd} {q1 : Kd} (x0 : List GTask) (x1 : List GTask) : Ans (l_eqTaskS_F x0 x1) (fun r => Does E 113 [.one (.s .far () 5 (x0.map (GTask.t q0))), .one (.s .far () 5 (x1.map (GTask.t q1)))] [(false, [tB r])]) := by
  unfold l_eqTaskS_F
  refine Ans.ite (fun h0 => ?_) (fun h0 => ?_)
  · exact Ans.some (l_eqTaskS_P0 (q0 := q0) (q1 := q1) x0 x1 h0)
  · refine Ans.pre (fun hl2 => ?_)
    refine Ans.bind (fun y hy => ?_)
    replace hy := l_eqTaskS_L0 (q0 := q0) (q1 := q1) x0 x1 x0 0 rfl hl2 y hy
    cases y with
    | ret w0_4 =>
      have h1 := hy
      exact Ans.some (l_eqTaskS_P1 (q0 := q0) (q1 := q1) x0 x1 w0_4 h0 h1)
    | x0 =>
      have h1 := hy
      exact Ans.some (l_eqTaskS_P2 (q0 := q0) (q1 := q1) x0 x1 h0 h1)
theorem el_l_eqTaskS (l : List GTask) : ∀ (rest : List GTask) (i : Nat), l.drop i = rest → (∀ y ∈ rest, Small.sm y) → l_eqTaskS_l0 l rest i = some .x0
  | [], i, _, _ => rfl
  | x :: rest, i, hE, h => by
    have hx := h x (by simp)
    unfold l_eqTaskS_l0
    rw [foldGet hE, Option.bind_some]
    simp only [hx, if_true, yes, bne_self_eq_false, BEq.rfl, Bool.not_true, cond_false, cond_true]
    exact el_l_eqTaskS l rest (i + 1) (foldRest hE) (fun y hy => h y (by simp [hy]))
theorem T_l_eqTaskS {q0 : Kd} {q1 : Kd} (x0 : List GTask) (x1 : List GTask) (e : x0 = x1) (h : Small.sm x0) : Does E 113 [.one (.s .far () 5 (x0.map (GTask.t q0))), .one (.s .far () 5 (x1.map (GTask.t q1)))] [(false, [tB (yes x0 x1)])] := by
  subst e
  exact l_eqTaskS_D x0 x0 _ (by
    unfold l_eqTaskS_F
    rw [if_pos (sm_wf_len h), el_l_eqTaskS x0 x0 0 rfl h.2]
    simp [yes])
theorem l_eqDag_P0 {q0 : Kd} {q1 : Kd} (x0 : GDag) (x1 : GDag) (h0 : (!(x0.f0.toList == x1.f0.toList)) = true) : Does E 99 [.agg (GDag.t .far q0 x0), .agg (GDag.t .far q1 x1)] [(false, [tB false])] :=
  Does.path (fn := Try.f99) [.b true] [fun _ => (!(x0.f0.toList == x1.f0.toList)) = true] rfl rfl (fun k => by kernel_rfl) ⟨Ev.c h0, trivial⟩
theorem l_eqDag_P1 {q0 : Kd} {q1 : Kd} (x0 : GDag) (x1 : GDag) (h0 : (!(x0.f0.toList == x1.f0.toList)) = false) (h1 : (!(x0.f1.toList == x1.f1.toList)) = true) : Does E 99 [.agg (GDag.t .far q0 x0), .agg (GDag.t .far q1 x1)] [(false, [tB false])] :=
  Does.path (fn := Try.f99) [.b false, .b true] [fun _ => (!(x0.f0.toList == x1.f0.toList)) = false, fun _ => (!(x0.f1.toList == x1.f1.toList)) = true] rfl rfl (fun k => by kernel_rfl) ⟨Ev.c h0, Ev.c h1, trivial⟩
theorem l_eqDag_P2 {q0 : Kd} {q1 : Kd} (x0 : GDag) (x1 : GDag) (h0 : (!(x0.f0.toList == x1.f0.toList)) = false) (h1 : (!(x0.f1.toList == x1.f1.toList)) = false) (h2 : (x0.f2 != x1.f2) = true) : Does E 99 [.agg (GDag.t .far q0 x0), .agg (GDag.t .far q1 x1)] [(false, [tB false])] :=
  Does.path (fn := Try.f99) [.b false, .b false, .b true] [fun _ => (!(x0.f0.toList == x1.f0.toList)) = false, fun _ => (!(x0.f1.toList == x1.f1.toList)) = false, fun _ => (x0.f2 != x1.f2) = true] rfl rfl (fun k => by kernel_rfl) ⟨Ev.c h0, Ev.c h1, Ev.c h2, trivial⟩
theorem l_eqDag_P3 {q0 : Kd} {q1 : Kd} (x0 : GDag) (x1 : GDag) (h0 : (!(x0.f0.toList == x1.f0.toList)) = false) (h1 : (!(x0.f1.toList == x1.f1.toList)) = false) (h2 : (x0.f2 != x1.f2) = false) (h3 : (x0.f3 != x1.f3) = true) : Does E 99 [.agg (GDag.t .far q0 x0), .agg (GDag.t .far q1 x1)] [(false, [tB false])] :=
  Does.path (fn := Try.f99) [.b false, .b false, .b false, .b true] [fun _ => (!(x0.f0.toList == x1.f0.toList)) = false, fun _ => (!(x0.f1.toList == x1.f1.toList)) = false, fun _ => (x0.f2 != x1.f2) = false, fun _ => (x0.f3 != x1.f3) = true] rfl rfl (fun k => by kernel_rfl) ⟨Ev.c h0, Ev.c h1, Ev.c h2, Ev.c h3, trivial⟩
theorem l_eqDag_P4 {q0 : Kd} {q1 : Kd} (x0 : GDag) (x1 : GDag) (h0 : (!(x0.f0.toList == x1.f0.toList)) = false) (h1 : (!(x0.f1.toList == x1.f1.toList)) = false) (h2 : (x0.f2 != x1.f2) = false) (h3 : (x0.f3 != x1.f3) = false) (h4 : (!(x0.f4 == x1.f4)) = true) : Does E 99 [.agg (GDag.t .far q0 x0), .agg (GDag.t .far q1 x1)] [(false, [tB false])] :=
  Does.path (fn := Try.f99) [.b false, .b false, .b false, .b false, .b true] [fun _ => (!(x0.f0.toList == x1.f0.toList)) = false, fun _ => (!(x0.f1.toList == x1.f1.toList)) = false, fun _ => (x0.f2 != x1.f2) = false, fun _ => (x0.f3 != x1.f3) = false, fun _ => (!(x0.f4 == x1.f4)) = true] rfl rfl (fun k => by kernel_rfl) ⟨Ev.c h0, Ev.c h1, Ev.c h2, Ev.c h3, Ev.c h4, trivial⟩
theorem l_eqDag_P5 {q0 : Kd} {q1 : Kd} (x0 : GDag) (x1 : GDag) (h0 : (!(x0.f0.toList == x1.f0.toList)) = false) (h1 : (!(x0.f1.toList == x1.f1.toList)) = false) (h2 : (x0.f2 != x1.f2) = false) (h3 : (x0.f3 != x1.f3) = false) (h4 : (!(x0.f4 == x1.f4)) = false) (h5 : x0.f5 = x1.f5) (h6 : Small.sm x0.f5) (h7 : (yes x0.f5 x1.f5) = true) : Does E 99 [.agg (GDag.t .far q0 x0), .agg (GDag.t .far q1 x1)] [(false, [tB true])] :=
  Does.path (fn := Try.f99) [.b false, .b false, .b false, .b false, .b false, .ret [(false, [tB true])]] [fun _ => (!(x0.f0.toList == x1.f0.toList)) = false, fun _ => (!(x0.f1.toList == x1.f1.toList)) = false, fun _ => (x0.f2 != x1.f2) = false, fun _ => (x0.f3 != x1.f3) = false, fun _ => (!(x0.f4 == x1.f4)) = false, fun k => E.C k 113 [.one (.s .far () 5 (x0.f5.map (GTask.t q0))), .one (.s .far () 5 (x1.f5.map (GTask.t q1)))] = some [(false, [tB true])]] rfl rfl (fun k => by kernel_rfl) ⟨Ev.c h0, Ev.c h1, Ev.c h2, Ev.c h3, Ev.c h4, Does.to (T_l_eqTaskS x0.f5 x1.f5 h5 h6) (by rw [h7]), trivial⟩
theorem l_eqDag_P6 {q0 : Kd} {q1 : Kd} (x0 : GDag) (x1 : GDag) (h0 : (!(x0.f0.toList == x1.f0.toList)) = false) (h1 : (!(x0.f1.toList == x1.f1.toList)) = false) (h2 : (x0.f2 != x1.f2) = false) (h3 : (x0.f3 != x1.f3) = false) (h4 : (!(x0.f4 == x1.f4)) = false) (h5 : x0.f5 = x1.f5) (h6 : Small.sm x0.f5) (h7 : (yes x0.f5 x1.f5) = false) : Does E 99 [.agg (GDag.t .far q0 x0), .agg (GDag.t .far q1 x1)] [(false, [tB false])] :=
  Does.path (fn := Try.f99) [.b false, .b false, .b false, .b false, .b false, .ret [(false, [tB false])]] [fun _ => (!(x0.f0.toList == x1.f0.toList)) = false, fun _ => (!(x0.f1.toList == x1.f1.toList)) = false, fun _ => (x0.f2 != x1.f2) = false, fun _ => (x0.f3 != x1.f3) = false, fun _ => (!(x0.f4 == x1.f4)) = false, fun k => E.C k 113 [.one (.s .far () 5 (x0.f5.map (GTask.t q0))), .one (.s .far () 5 (x1.f5.map (GTask.t q1)))] = some [(false, [tB false])]] rfl rfl (fun k => by kernel_rfl) ⟨Ev.c h0, Ev.c h1, Ev.c h2, Ev.c h3, Ev.c h4, Does.to (T_l_eqTaskS x0.f5 x1.f5 h5 h6) (by rw [h7]), trivial⟩
noncomputable def l_eqDag_F (x0 : GDag) (x1 : GDag) : Option (Bool) :=
    cond (!(x0.f0.toList == x1.f0.toList))
      (some (false))
      (cond (!(x0.f1.toList == x1.f1.toList))
        (some (false))
        (cond (x0.f2 != x1.f2)
          (some (false))
          (cond (x0.f3 != x1.f3)
            (some (false))
            (cond (!(x0.f4 == x1.f4))
              (some (false))
              (if x0.f5 = x1.f5 then if Small.sm x0.f5 then cond (yes x0.f5 x1.f5)
                (some (true))
                (some (false)) else none else none)))))
theorem l_eqDag_D {q0 : Kd} {q1 : Kd} (x0 : GDag) (x1 : GDag) : Ans (l_eqDag_F x0 x1) (fun r => Does E 99 [.agg (GDag.t .far q0 x0), .agg (GDag.t .far q1 x1)] [(false, [tB r])]) := by
  unfold l_eqDag_F
  refine Ans.ite (fun h0 => ?_) (fun h0 => ?_)
  · exact Ans.some (l_eqDag_P0 (q0 := q0) (q1 := q1) x0 x1 h0)
  · refine Ans.ite (fun h1 => ?_) (fun h1 => ?_)
    · exact Ans.some (l_eqDag_P1 (q0 := q0) (q1 := q1) x0 x1 h0 h1)
    · refine Ans.ite (fun h2 => ?_) (fun h2 => ?_)
      · exact Ans.some (l_eqDag_P2 (q0 := q0) (q1 := q1) x0 x1 h0 h1 h2)
      · refine Ans.ite (fun h3 => ?_) (fun h3 => ?_)
        · exact Ans.some (l_eqDag_P3 (q0 := q0) (q1 := q1) x0 x1 h0 h1 h2 h3)
        · refine Ans.ite (fun h4 => ?_) (fun h4 => ?_)
          · exact Ans.some (l_eqDag_P4 (q0 := q0) (q1 := q1) x0 x1 h0 h1 h2 h3 h4)
          · refine Ans.pre (fun h5 => ?_)
            refine Ans.pre (fun h6 => ?_)
            refine Ans.ite (fun h7 => ?_) (fun h7 => ?_)
            · exact Ans.some (l_eqDag_P5 (q0 := q0) (q1 := q1) x0 x1 h0 h1 h2 h3 h4 h5 h6 h7)
            · exact Ans.some (l_eqDag_P6 (q0 := q0) (q1 := q1) x0 x1 h0 h1 h2 h3 h4 h5 h6 h7)
theorem T_l_eqDag {q0 : Kd} {q1 : Kd} (x0 : GDag) (x1 : GDag) (e : x0 = x1) (h : Small.sm x0) : Does E 99 [.agg (GDag.t .far q0 x0), .agg (GDag.t .far q1 x1)] [(false, [tB (yes x0 x1)])] := by
  subst e
  obtain ⟨w0, w1, w5⟩ := h
  exact l_eqDag_D x0 x0 _ (by
    unfold l_eqDag_F
    simp only [w5, if_true, yes, bne_self_eq_false, BEq.rfl, Bool.not_true, cond_false, cond_true])
theorem l_eqPlan_P0 {q0 : Kd} {q1 : Kd} (x0 : GPlan) (x1 : GPlan) (h0 : x0.f0 = x1.f0) (h1 : Small.sm x0.f0) (h2 : (yes x0.f0 x1.f0) = true) (h3 : (!(x0.f1 == x1.f1)) = true) : Does E 76 [.agg (GPlan.t .far q0 x0), .agg (GPlan.t .far q1 x1)] [(false, [tB false])] :=
  Does.path (fn := Try.f76) [.ret [(false, [tB true])], .b true] [fun k => E.C k 99 [.agg (GDag.t .far q0 x0.f0), .agg (GDag.t .far q1 x1.f0)] = some [(false, [tB true])], fun _ => (!(x0.f1 == x1.f1)) = true] rfl rfl (fun k => by kernel_rfl) ⟨Does.to (T_l_eqDag x0.f0 x1.f0 h0 h1) (by rw [h2]), Ev.c h3, trivial⟩
theorem l_eqPlan_P1 {q0 : Kd} {q1 : Kd} (x0 : GPlan) (x1 : GPlan) (h0 : x0.f0 = x1.f0) (h1 : Small.sm x0.f0) (h2 : (yes x0.f0 x1.f0) = true) (h3 : (!(x0.f1 == x1.f1)) = false) (h4 : (x0.f2 != x1.f2) = true) : Does E 76 [.agg (GPlan.t .far q0 x0), .agg (GPlan.t .far q1 x1)] [(false, [tB false])] :=
  Does.path (fn := Try.f76) [.ret [(false, [tB true])], .b false, .b true] [fun k => E.C k 99 [.agg (GDag.t .far q0 x0.f0), .agg (GDag.t .far q1 x1.f0)] = some [(false, [tB true])], fun _ => (!(x0.f1 == x1.f1)) = false, fun _ => (x0.f2 != x1.f2) = true] rfl rfl (fun k => by kernel_rfl) ⟨Does.to (T_l_eqDag x0.f0 x1.f0 h0 h1) (by rw [h2]), Ev.c h3, Ev.c h4, trivial⟩
theorem l_eqPlan_P2 {q0 : Kd} {q1 : Kd} (x0 : GPlan) (x1 : GPlan) (h0 : x0.f0 = x1.f0) (h1 : Small.sm x0.f0) (h2 : (yes x0.f0 x1.f0) = true) (h3 : (!(x0.f1 == x1.f1)) = false) (h4 : (x0.f2 != x1.f2) = false) (h5 : (x0.f3 != x1.f3) = true) : Does E 76 [.agg (GPlan.t .far q0 x0), .agg (GPlan.t .far q1 x1)] [(false, [tB false])] :=
  Does.path (fn := Try.f76) [.ret [(false, [tB true])], .b false, .b false, .b true] [fun k => E.C k 99 [.agg (GDag.t .far q0 x0.f0), .agg (GDag.t .far q1 x1.f0)] = some [(false, [tB true])], fun _ => (!(x0.f1 == x1.f1)) = false, fun _ => (x0.f2 != x1.f2) = false, fun _ => (x0.f3 != x1.f3) = true] rfl rfl (fun k => by kernel_rfl) ⟨Does.to (T_l_eqDag x0.f0 x1.f0 h0 h1) (by rw [h2]), Ev.c h3, Ev.c h4, Ev.c h5, trivial⟩
theorem l_eqPlan_P3 {q0 : Kd} {q1 : Kd} (x0 : GPlan) (x1 : GPlan) (h0 : x0.f0 = x1.f0) (h1 : Small.sm x0.f0) (h2 : (yes x0.f0 x1.f0) = true) (h3 : (!(x0.f1 == x1.f1)) = false) (h4 : (x0.f2 != x1.f2) = false) (h5 : (x0.f3 != x1.f3) = false) : Does E 76 [.agg (GPlan.t .far q0 x0), .agg (GPlan.t .far q1 x1)] [(false, [tB true])] :=
  Does.path (fn := Try.f76) [.ret [(false, [tB true])], .b false, .b false, .b false] [fun k => E.C k 99 [.agg (GDag.t .far q0 x0.f0), .agg (GDag.t .far q1 x1.f0)] = some [(false, [tB true])], fun _ => (!(x0.f1 == x1.f1)) = false, fun _ => (x0.f2 != x1.f2) = false, fun _ => (x0.f3 != x1.f3) = false] rfl rfl (fun k => by kernel_rfl) ⟨Does.to (T_l_eqDag x0.f0 x1.f0 h0 h1) (by rw [h2]), Ev.c h3, Ev.c h4, Ev.c h5, trivial⟩
theorem l_eqPlan_P4 {q0 : Kd} {q1 : Kd} (x0 : GPlan) (x1 : GPlan) (h0 : x0.f0 = x1.f0) (h1 : Small.sm x0.f0) (h2 : (yes x0.f0 x1.f0) = false) : Does E 76 [.agg (GPlan.t .far q0 x0), .agg (GPlan.t .far q1 x1)] [(false, [tB false])] :=
  Does.path (fn := Try.f76) [.ret [(false, [tB false])]] [fun k => E.C k 99 [.agg (GDag.t .far q0 x0.f0), .agg (GDag.t .far q1 x1.f0)] = some [(false, [tB false])]] rfl rfl (fun k => by kernel_rfl) ⟨Does.to (T_l_eqDag x0.f0 x1.f0 h0 h1) (by rw [h2]), trivial⟩
noncomputable def l_eqPlan_F (x0 : GPlan) (x1 : GPlan) : Option (Bool) :=
    if x0.f0 = x1.f0 then if Small.sm x0.f0 then cond (yes x0.f0 x1.f0)
      (cond (!(x0.f1 == x1.f1))
        (some (false))
        (cond (x0.f2 != x1.f2)
          (some (false))
          (cond (x0.f3 != x1.f3)
            (some (false))
            (some (true)))))
      (some (false)) else none else none
theorem l_eqPlan_D {q0 : Kd} {q1 : Kd} (x0 : GPlan) (x1 : GPlan) : Ans (l_eqPlan_F x0 x1) (fun r => Does E 76 [.agg (GPlan.t .far q0 x0), .agg (GPlan.t .far q1 x1)] [(false, [tB r])]) := by
  unfold l_eqPlan_F
  refine Ans.pre (fun h0 => ?_)
  refine Ans.pre (fun h1 => ?_)
  refine Ans.ite (fun h2 => ?_) (fun h2 => ?_)
  · refine Ans.ite (fun h3 => ?_) (fun h3 => ?_)
    · exact Ans.some (l_eqPlan_P0 (q0 := q0) (q1 := q1) x0 x1 h0 h1 h2 h3)
    · refine Ans.ite (fun h4 => ?_) (fun h4 => ?_)
      · exact Ans.some (l_eqPlan_P1 (q0 := q0) (q1 := q1) x0 x1 h0 h1 h2 h3 h4)
      · refine Ans.ite (fun h5 => ?_) (fun h5 => ?_)
        · exact Ans.some (l_eqPlan_P2 (q0 := q0) (q1 := q1) x0 x1 h0 h1 h2 h3 h4 h5)
        · exact Ans.some (l_eqPlan_P3 (q0 := q0) (q1 := q1) x0 x1 h0 h1 h2 h3 h4 h5)
  · exact Ans.some (l_eqPlan_P4 (q0 := q0) (q1 := q1) x0 x1 h0 h1 h2)
theorem T_l_eqPlan {q0 : Kd} {q1 : Kd} (x0 : GPlan) (x1 : GPlan) (e : x0 = x1) (h : Small.sm x0) : Does E 76 [.agg (GPlan.t .far q0 x0), .agg (GPlan.t .far q1 x1)] [(false, [tB (yes x0 x1)])] := by
  subst e
  have w0 : Small.sm x0.f0 := h
  exact l_eqPlan_D x0 x0 _ (by
    unfold l_eqPlan_F
    simp only [w0, if_true, yes, bne_self_eq_false, BEq.rfl, Bool.not_true, cond_false, cond_true])
inductive l_eqPlanS_X0 where
  | ret (v4 : Bool)
  | x0 
def l_eqPlanS_Q0 {q0 : Kd} {q1 : Kd} (v0 : List GPlan) (v1 : List GPlan) (v5 : Int) : l_eqPlanS_X0 → Prop
  | .ret zv4 => Loops E 44 (lpAt Try.f44 0) (stL 27 [(0, .one (.s .far () 9 (v0.map (GPlan.t q0 q0)))), (1, .one (.s .far () 9 (v1.map (GPlan.t q1 q1)))), (5, .one (tI v5))]) .ret (stL 27 [(4, .one (tB zv4))])
  | .x0 => Loops E 44 (lpAt Try.f44 0) (stL 27 [(0, .one (.s .far () 9 (v0.map (GPlan.t q0 q0)))), (1, .one (.s .far () 9 (v1.map (GPlan.t q1 q1)))), (5, .one (tI v5))]) (.exit 0) (stL 27 [])
theorem l_eqPlanS_R0_0 {q0 : Kd} {q1 : Kd} (v0 : List GPlan) (v1 : List GPlan) (v5 : Int) (g0 : GPlan) (g1 : GPlan) (h0 : (decide (v5 < (v0.length : Int))) = true) (h1 : getI v0 v5 = some g0) (h2 : getI v1 v5 = some g1) (h3 : g0 = g1) (h4 : Small.sm g0) (h5 : (yes g0 g1) = true) : Round E 44 (lpAt Try.f44 0) (stL 27 [(0, .one (.s .far () 9 (v0.map (GPlan.t q0 q0)))), (1, .one (.s .far () 9 (v1.map (GPlan.t q1 q1)))), (5, .one (tI v5))]) .normal (stL 27 [(0, .one (.s .far () 9 (v0.map (GPlan.t q0 q0)))), (1, .one (.s .far () 9 (v1.map (GPlan.t q1 q1)))), (5, .one (tI (inc v5)))]) :=
  Round.path [.val (.int .i64 (v0.length : Int)), .b true, .row ((GPlan.t q0 q0) g0), .row ((GPlan.t q1 q1) g1), .ret [(false, [tB true])]] [fun _ => ((v0.map (GPlan.t q0 q0)).length : Int) = (v0.length : Int), fun _ => (decide (v5 < (v0.length : Int))) = true, fun _ => 0 ≤ v5 ∧ (v0.map (GPlan.t q0 q0))[v5.toNat]? = some ((GPlan.t q0 q0) g0), fun _ => 0 ≤ v5 ∧ (v1.map (GPlan.t q1 q1))[v5.toNat]? = some ((GPlan.t q1 q1) g1), fun k => E.C k 76 [.agg (GPlan.t .far q0 g0), .agg (GPlan.t .far q1 g1)] = some [(false, [tB true])]] (fun k => by kernel_rfl) ⟨Ev.c lenMap, Ev.c h0, Ev.c (getRow h1), Ev.c (getRow h2), Does.to (T_l_eqPlan g0 g1 h3 h4) (by rw [h5]), trivial⟩
theorem l_eqPlanS_R0_1 {q0 : Kd} {q1 : Kd} (v0 : List GPlan) (v1 : List GPlan) (v5 : Int) (g0 : GPlan) (g1 : GPlan) (h0 : (decide (v5 < (v0.length : Int))) = true) (h1 : getI v0 v5 = some g0) (h2 : getI v1 v5 = some g1) (h3 : g0 = g1) (h4 : Small.sm g0) (h5 : (yes g0 g1) = false) : Round E 44 (lpAt Try.f44 0) (stL 27 [(0, .one (.s .far () 9 (v0.map (GPlan.t q0 q0)))), (1, .one (.s .far () 9 (v1.map (GPlan.t q1 q1)))), (5, .one (tI v5))]) .ret (stL 27 [(4, .one (tB false))]) :=
  Round.path [.val (.int .i64 (v0.length : Int)), .b true, .row ((GPlan.t q0 q0) g0), .row ((GPlan.t q1 q1) g1), .ret [(false, [tB false])]] [fun _ => ((v0.map (GPlan.t q0 q0)).length : Int) = (v0.length : Int), fun _ => (decide (v5 < (v0.length : Int))) = true, fun _ => 0 ≤ v5 ∧ (v0.map (GPlan.t q0 q0))[v5.toNat]? = some ((GPlan.t q0 q0) g0), fun _ => 0 ≤ v5 ∧ (v1.map (GPlan.t q1 q1))[v5.toNat]? = some ((GPlan.t q1 q1) g1), fun k => E.C k 76 [.agg (GPlan.t .far q0 g0), .agg (GPlan.t .far q1 g1)] = some [(false, [tB false])]] (fun k => by kernel_rfl) ⟨Ev.c lenMap, Ev.c h0, Ev.c (getRow h1), Ev.c (getRow h2), Does.to (T_l_eqPlan g0 g1 h3 h4) (by rw [h5]), trivial⟩
theorem l_eqPlanS_R0_2 {q0 : Kd} {q1 : Kd} (v0 : List GPlan) (v1 : List GPlan) (v5 : Int) (h0 : (decide (v5 < (v0.length : Int))) = false) : Round E 44 (lpAt Try.f44 0) (stL 27 [(0, .one (.s .far () 9 (v0.map (GPlan.t q0 q0)))), (1, .one (.s .far () 9 (v1.map (GPlan.t q1 q1)))), (5, .one (tI v5))]) (.exit 0) (stL 27 []) :=
  Round.path [.val (.int .i64 (v0.length : Int)), .b false] [fun _ => ((v0.map (GPlan.t q0 q0)).length : Int) = (v0.length : Int), fun _ => (decide (v5 < (v0.length : Int))) = false] (fun k => by kernel_rfl) ⟨Ev.c lenMap, Ev.c h0, trivial⟩
noncomputable def l_eqPlanS_l0 (v1 : List GPlan) : List GPlan → Nat → Option l_eqPlanS_X0
  | [], i => some (.x0)
  | hd :: rest, i => (getI v1 (i : Int)).bind fun g1 => if hd = g1 then if Small.sm hd then cond (yes hd g1)
    (l_eqPlanS_l0 v1 rest (i + 1))
    (some (.ret false)) else none else none
theorem l_eqPlanS_L0 {q0 : Kd} {q1 : Kd} (v0 : List GPlan) (v1 : List GPlan) (rest : List GPlan) : ∀ (i : Nat) , (v0).drop i = rest → v0.length ≤ 9223372036854775807 → Ans (l_eqPlanS_l0 v1 rest i) (l_eqPlanS_Q0 (q0 := q0) (q1 := q1) v0 v1 (i : Int)) := by
  induction rest with
  | nil =>
    intro i hE hl
    have hb := foldEnd hE
    unfold l_eqPlanS_l0
    exact Ans.some (Loops.stop (l_eqPlanS_R0_2 (q0 := q0) (q1 := q1) v0 v1 (i : Int) hb) (by intro h; cases h))
  | cons hd rest ih =>
    intro i hE hl
    have hb := foldMore hE
    have hw := foldNext hE hl
    have hE2 := foldRest hE
    have hg := foldGet hE
    unfold l_eqPlanS_l0
    refine Ans.bind (fun g1 h2 => ?_)
    refine Ans.pre (fun h3 => ?_)
    refine Ans.pre (fun h4 => ?_)
    refine Ans.ite (fun h5 => ?_) (fun h5 => ?_)
    · exact (ih (i + 1) hE2 hl).mono fun y hy => by have r := l_eqPlanS_R0_0 (q0 := q0) (q1 := q1) v0 v1 (i : Int) hd g1 hb hg h2 h3 h4 h5; rw [hw] at r; cases y <;> exact Loops.next r hy
    · exact Ans.some (Loops.stop (l_eqPlanS_R0_1 (q0 := q0) (q1 := q1) v0 v1 (i : Int) hd g1 hb hg h2 h3 h4 h5) (by intro h; cases h))
theorem l_eqPlanS_P0 {q0 : Kd} {q1 : Kd} (x0 : List GPlan) (x1 : List GPlan) (h0 : ((x0.length : Int) != (x1.length : Int)) = true) : Does E 44 [.one (.s .far () 9 (x0.map (GPlan.t q0 q0))), .one (.s .far () 9 (x1.map (GPlan.t q1 q1)))] [(false, [tB false])] :=
  Does.path (fn := Try.f44) [.val (.int .i64 (x0.length : Int)), .val (.int .i64 (x1.length : Int)), .b true] [fun _ => ((x0.map (GPlan.t q0 q0)).length : Int) = (x0.length : Int), fun _ => ((x1.map (GPlan.t q1 q1)).length : Int) = (x1.length : Int), fun _ => ((x0.length : Int) != (x1.length : Int)) = true] rfl rfl (fun k => by kernel_rfl) ⟨Ev.c lenMap, Ev.c lenMap, Ev.c h0, trivial⟩
theorem l_eqPlanS_P1 {q0 : Kd} {q1 : Kd} (x0 : List GPlan) (x1 : List GPlan) (w0_4 : Bool) (h0 : ((x0.length : Int) != (x1.length : Int)) = false) (h1 : Loops E 44 (lpAt Try.f44 0) (stL 27 [(0, .one (.s .far () 9 (x0.map (GPlan.t q0 q0)))), (1, .one (.s .far () 9 (x1.map (GPlan.t q1 q1)))), (5, .one (tI (0 : Int)))]) .ret (stL 27 [(4, .one (tB w0_4))])) : Does E 44 [.one (.s .far () 9 (x0.map (GPlan.t q0 q0))), .one (.s .far () 9 (x1.map (GPlan.t q1 q1)))] [(false, [tB w0_4])] :=
  Does.path (fn := Try.f44) [.val (.int .i64 (x0.length : Int)), .val (.int .i64 (x1.length : Int)), .b false, .lp .ret (stL 27 [(4, .one (tB w0_4))])] [fun _ => ((x0.map (GPlan.t q0 q0)).length : Int) = (x0.length : Int), fun _ => ((x1.map (GPlan.t q1 q1)).length : Int) = (x1.length : Int), fun _ => ((x0.length : Int) != (x1.length : Int)) = false, fun k => LoopK E 44 (lpAt Try.f44 0) (stL 27 [(0, .one (.s .far () 9 (x0.map (GPlan.t q0 q0)))), (1, .one (.s .far () 9 (x1.map (GPlan.t q1 q1)))), (5, .one (tI (0 : Int)))]) .ret (stL 27 [(4, .one (tB w0_4))]) k k] rfl rfl (fun k => by kernel_rfl) ⟨Ev.c lenMap, Ev.c lenMap, Ev.c h0, Loops.ev h1, trivial⟩
theorem l_eqPlanS_P2 {q0 : Kd} {q1 : Kd} (x0 : List GPlan) (x1 : List GPlan) (h0 : ((x0.length : Int) != (x1.length : Int)) = false) (h1 : Loops E 44 (lpAt Try.f44 0) (stL 27 [(0, .one (.s .far () 9 (x0.map (GPlan.t q0 q0)))), (1, .one (.s .far () 9 (x1.map (GPlan.t q1 q1)))), (5, .one (tI (0 : Int)))]) (.exit 0) (stL 27 [])) : Does E 44 [.one (.s .far () 9 (x0.map (GPlan.t q0 q0))), .one (.s .far () 9 (x1.map (GPlan.t q1 q1)))] [(false, [tB true])] :=
  Does.path (fn := Try.f44) [.val (.int .i64 (x0.length : Int)), .val (.int .i64 (x1.length : Int)), .b false, .lp (.exit 0) (stL 27 [])] [fun _ => ((x0.map (GPlan.t q0 q0)).length : Int) = (x0.length : Int), fun _ => ((x1.map (GPlan.t q1 q1)).length : Int) = (x1.length : Int), fun _ => ((x0.length : Int) != (x1.length : Int)) = false, fun k => LoopK E 44 (lpAt Try.f44 0) (stL 27 [(0, .one (.s .far () 9 (x0.map (GPlan.t q0 q0)))), (1, .one (.s .far () 9 (x1.map (GPlan.t q1 q1)))), (5, .one (tI (0 : Int)))]) (.exit 0) (stL 27 []) k k] rfl rfl (fun k => by kernel_rfl) ⟨Ev.c lenMap, Ev.c lenMap, Ev.c h0, Loops.ev h1, trivial⟩
noncomputable def l_eqPlanS_F (x0 : List GPlan) (x1 : List GPlan) : Option (Bool) :=
    cond ((x0.length : Int) != (x1.length : Int))
      (some (false))
      (if x0.length ≤ 9223372036854775807 then (l_eqPlanS_l0 x1 x0 0).bind fun y => match y with
        | .ret w0_4 => (some (w0_4))
        | .x0 => (some (true)) else none)
theorem l_eqPlanS_D {q0 : Kd} {q1 : Kd} (x0 : List GPlan) (x1 : List GPlan) : Ans (l_eqPlanS_F x0 x1) (fun r => Does E 44 [.one (.s .far () 9 (x0.map (GPlan.t q0 q0))), .one (.s .far () 9 (x1.map (GPlan.t q1 q1)))] [(false, [tB r])]) := by
  unfold l_eqPlanS_F
  refine Ans.ite (fun h0 => ?_) (fun h0 => ?_)
  · exact Ans.some (l_eqPlanS_P0 (q0 := q0) (q1 := q1) x0 x1 h0)
  · refine Ans.pre (fun hl2 => ?_)
    refine Ans.bind (fun y hy => ?_)
    replace hy := l_eqPlanS_L0 (q0 := q0) (q1 := q1) x0 x1 x0 0 rfl hl2 y hy
    cases y with
    | ret w0_4 =>
      have h1 := hy
      exact Ans.some (l_eqPlanS_P1 (q0 := q0) (q1 := q1) x0 x1 w0_4 h0 h1)
    | x0 =>
      have h1 := hy
      exact Ans.some (l_eqPlanS_P2 (q0 := q0) (q1 := q1) x0 x1 h0 h1)
theorem el_l_eqPlanS (l : List GPlan) : ∀ (rest : List GPlan) (i : Nat), l.drop i = rest → (∀ y ∈ rest, Small.sm y) → l_eqPlanS_l0 l rest i = some .x0
  | [], i, _, _ => rfl
  | x :: rest, i, hE, h => by
    have hx := h x (by simp)
    unfold l_eqPlanS_l0
    rw [foldGet hE, Option.bind_some]
    simp only [hx, if_true, yes, bne_self_eq_false, BEq.rfl, Bool.not_true, cond_false, cond_true]
    exact el_l_eqPlanS l rest (i + 1) (foldRest hE) (fun y hy => h y (by simp [hy]))
theorem T_l_eqPlanS {q0 : Kd} {q1 : Kd} (x0 : List GPlan) (x1 : List GPlan) (e : x0 = x1) (h : Small.sm x0) : Does E 44 [.one (.s .far () 9 (x0.map (GPlan.t q0 q0))), .one (.s .far () 9 (x1.map (GPlan.t q1 q1)))] [(false, [tB (yes x0 x1)])] := by
  subst e
  exact l_eqPlanS_D x0 x0 _ (by
    unfold l_eqPlanS_F
    rw [if_pos (sm_wf_len h), el_l_eqPlanS x0 x0 0 rfl h.2]
    simp [yes])
theorem l_eqSpan_P0 (x0 : GSpan) (x1 : GSpan) (h0 : (x0.f0 != x1.f0) = true) : Does E 100 [.agg (GSpan.t x0), .agg (GSpan.t x1)] [(false, [tB false])] :=
  Does.path (fn := Try.f100) [.b true] [fun _ => (x0.f0 != x1.f0) = true] rfl rfl (fun k => by kernel_rfl) ⟨Ev.c h0, trivial⟩
theorem l_eqSpan_P1 (x0 : GSpan) (x1 : GSpan) (h0 : (x0.f0 != x1.f0) = false) (h1 : (x0.f1 != x1.f1) = true) : Does E 100 [.agg (GSpan.t x0), .agg (GSpan.t x1)] [(false, [tB false])] :=
  Does.path (fn := Try.f100) [.b false, .b true] [fun _ => (x0.f0 != x1.f0) = false, fun _ => (x0.f1 != x1.f1) = true] rfl rfl (fun k => by kernel_rfl) ⟨Ev.c h0, Ev.c h1, trivial⟩
theorem l_eqSpan_P2 (x0 : GSpan) (x1 : GSpan) (h0 : (x0.f0 != x1.f0) = false) (h1 : (x0.f1 != x1.f1) = false) : Does E 100 [.agg (GSpan.t x0), .agg (GSpan.t x1)] [(false, [tB true])] :=
  Does.path (fn := Try.f100) [.b false, .b false] [fun _ => (x0.f0 != x1.f0) = false, fun _ => (x0.f1 != x1.f1) = false] rfl rfl (fun k => by kernel_rfl) ⟨Ev.c h0, Ev.c h1, trivial⟩
noncomputable def l_eqSpan_F (x0 : GSpan) (x1 : GSpan) : Option (Bool) :=
    cond (x0.f0 != x1.f0)
      (some (false))
      (cond (x0.f1 != x1.f1)
        (some (false))
        (some (true)))
theorem l_eqSpan_D (x0 : GSpan) (x1 : GSpan) : Ans (l_eqSpan_F x0 x1) (fun r => Does E 100 [.agg (GSpan.t x0), .agg (GSpan.t x1)] [(false, [tB r])]) := by
  unfold l_eqSpan_F
  refine Ans.ite (fun h0 => ?_) (fun h0 => ?_)
  · exact Ans.some (l_eqSpan_P0 x0 x1 h0)
  · refine Ans.ite (fun h1 => ?_) (fun h1 => ?_)
    · exact Ans.some (l_eqSpan_P1 x0 x1 h0 h1)
    · exact Ans.some (l_eqSpan_P2 x0 x1 h0 h1)
theorem T_l_eqSpan (x0 : GSpan) (x1 : GSpan) (e : x0 = x1) (h : Small.sm x0) : Does E 100 [.agg (GSpan.t x0), .agg (GSpan.t x1)] [(false, [tB (yes x0 x1)])] := by
  subst e
  skip
  exact l_eqSpan_D x0 x0 _ (by
    unfold l_eqSpan_F
    simp only [if_true, yes, bne_self_eq_false, BEq.rfl, Bool.not_true, cond_false, cond_true])
theorem l_eqState_P0 (x0 : GState) (x1 : GState) (h0 : (x0.f0 != x1.f0) = true) : Does E 114 [.agg (GState.t x0), .agg (GState.t x1)] [(false, [tB false])] :=
  Does.path (fn := Try.f114) [.b true] [fun _ => (x0.f0 != x1.f0) = true] rfl rfl (fun k => by kernel_rfl) ⟨Ev.c h0, trivial⟩
theorem l_eqState_P1 (x0 : GState) (x1 : GState) (h0 : (x0.f0 != x1.f0) = false) (h1 : (x0.f1 != x1.f1) = true) : Does E 114 [.agg (GState.t x0), .agg (GState.t x1)] [(false, [tB false])] :=
  Does.path (fn := Try.f114) [.b false, .b true] [fun _ => (x0.f0 != x1.f0) = false, fun _ => (x0.f1 != x1.f1) = true] rfl rfl (fun k => by kernel_rfl) ⟨Ev.c h0, Ev.c h1, trivial⟩
theorem l_eqState_P2 (x0 : GState) (x1 : GState) (h0 : (x0.f0 != x1.f0) = false) (h1 : (x0.f1 != x1.f1) = false) (h2 : (x0.f2 != x1.f2) = true) : Does E 114 [.agg (GState.t x0), .agg (GState.t x1)] [(false, [tB false])] :=
  Does.path (fn := Try.f114) [.b false, .b false, .b true] [fun _ => (x0.f0 != x1.f0) = false, fun _ => (x0.f1 != x1.f1) = false, fun _ => (x0.f2 != x1.f2) = true] rfl rfl (fun k => by kernel_rfl) ⟨Ev.c h0, Ev.c h1, Ev.c h2, trivial⟩
theorem l_eqState_P3 (x0 : GState) (x1 : GState) (h0 : (x0.f0 != x1.f0) = false) (h1 : (x0.f1 != x1.f1) = false) (h2 : (x0.f2 != x1.f2) = false) (h3 : (x0.f3 != x1.f3) = true) : Does E 114 [.agg (GState.t x0), .agg (GState.t x1)] [(false, [tB false])] :=
  Does.path (fn := Try.f114) [.b false, .b false, .b false, .b true] [fun _ => (x0.f0 != x1.f0) = false, fun _ => (x0.f1 != x1.f1) = false, fun _ => (x0.f2 != x1.f2) = false, fun _ => (x0.f3 != x1.f3) = true] rfl rfl (fun k => by kernel_rfl) ⟨Ev.c h0, Ev.c h1, Ev.c h2, Ev.c h3, trivial⟩
theorem l_eqState_P4 (x0 : GState) (x1 : GState) (h0 : (x0.f0 != x1.f0) = false) (h1 : (x0.f1 != x1.f1) = false) (h2 : (x0.f2 != x1.f2) = false) (h3 : (x0.f3 != x1.f3) = false) : Does E 114 [.agg (GState.t x0), .agg (GState.t x1)] [(false, [tB true])] :=
  Does.path (fn := Try.f114) [.b false, .b false, .b false, .b false] [fun _ => (x0.f0 != x1.f0) = false, fun _ => (x0.f1 != x1.f1) = false, fun _ => (x0.f2 != x1.f2) = false, fun _ => (x0.f3 != x1.f3) = false] rfl rfl (fun k => by kernel_rfl) ⟨Ev.c h0, Ev.c h1, Ev.c h2, Ev.c h3, trivial⟩
noncomputable def l_eqState_F (x0 : GState) (x1 : GState) : Option (Bool) :=
    cond (x0.f0 != x1.f0)
      (some (false))
      (cond (x0.f1 != x1.f1)
        (some (false))
        (cond (x0.f2 != x1.f2)
          (some (false))
          (cond (x0.f3 != x1.f3)
            (some (false))
            (some (true)))))
theorem l_eqState_D (x0 : GState) (x1 : GState) : Ans (l_eqState_F x0 x1) (fun r => Does E 114 [.agg (GState.t x0), .agg (GState.t x1)] [(false, [tB r])]) := by
  unfold l_eqState_F
  refine Ans.ite (fun h0 => ?_) (fun h0 => ?_)
  · exact Ans.some (l_eqState_P0 x0 x1 h0)
  · refine Ans.ite (fun h1 => ?_) (fun h1 => ?_)
    · exact Ans.some (l_eqState_P1 x0 x1 h0 h1)
    · refine Ans.ite (fun h2 => ?_) (fun h2 => ?_)
      · exact Ans.some (l_eqState_P2 x0 x1 h0 h1 h2)
      · refine Ans.ite (fun h3 => ?_) (fun h3 => ?_)
        · exact Ans.some (l_eqState_P3 x0 x1 h0 h1 h2 h3)
        · exact Ans.some (l_eqState_P4 x0 x1 h0 h1 h2 h3)
theorem T_l_eqState (x0 : GState) (x1 : GState) (e : x0 = x1) (h : Small.sm x0) : Does E 114 [.agg (GState.t x0), .agg (GState.t x1)] [(false, [tB (yes x0 x1)])] := by
  subst e
  skip
  exact l_eqState_D x0 x0 _ (by
    unfold l_eqState_F
    simp only [if_true, yes, bne_self_eq_false, BEq.rfl, Bool.not_true, cond_false, cond_true])
inductive l_eqStateS_X0 where
  | ret (v4 : Bool)
  | x0 
def l_eqStateS_Q0 (v0 : List GState) (v1 : List GState) (v5 : Int) : l_eqStateS_X0 → Prop
  | .ret zv4 => Loops E 101 (lpAt Try.f101 0) (stL 27 [(0, .one (.s .far () 4 (v0.map GState.t))), (1, .one (.s .far () 4 (v1.map GState.t))), (5, .one (tI v5))]) .ret (stL 27 [(4, .one (tB zv4))])
  | .x0 => Loops E 101 (lpAt Try.f101 0) (stL 27 [(0, .one (.s .far () 4 (v0.map GState.t))), (1, .one (.s .far () 4 (v1.map GState.t))), (5, .one (tI v5))]) (.exit 0) (stL 27 [])
theorem l_eqStateS_R0_0 (v0 : List GState) (v1 : List GState) (v5 : Int) (g0 : GState) (g1 : GState) (h0 : (decide (v5 < (v0.length : Int))) = true) (h1 : getI v0 v5 = some g0) (h2 : getI v1 v5 = some g1) (h3 : g0 = g1) (h4 : Small.sm g0) (h5 : (yes g0 g1) = true) : Round E 101 (lpAt Try.f101 0) (stL 27 [(0, .one (.s .far () 4 (v0.map GState.t))), (1, .one (.s .far () 4 (v1.map GState.t))), (5, .one (tI v5))]) .normal (stL 27 [(0, .one (.s .far () 4 (v0.map GState.t))), (1, .one (.s .far () 4 (v1.map GState.t))), (5, .one (tI (inc v5)))]) :=
  Round.path [.val (.int .i64 (v0.length : Int)), .b true, .row (GState.t g0), .row (GState.t g1), .ret [(false, [tB true])]] [fun _ => ((v0.map GState.t).length : Int) = (v0.length : Int), fun _ => (decide (v5 < (v0.length : Int))) = true, fun _ => 0 ≤ v5 ∧ (v0.map GState.t)[v5.toNat]? = some (GState.t g0), fun _ => 0 ≤ v5 ∧ (v1.map GState.t)[v5.toNat]? = some (GState.t g1), fun k => E.C k 114 [.agg (GState.t g0), .agg (GState.t g1)] = some [(false, [tB true])]] (fun k => by kernel_rfl) ⟨Ev.c lenMap, Ev.c h0, Ev.c (getRow h1), Ev.c (getRow h2), Does.to (T_l_eqState g0 g1 h3 h4) (by rw [h5]), trivial⟩
theorem l_eqStateS_R0_1 (v0 : List GState) (v1 : List GState) (v5 : Int) (g0 : GState) (g1 : GState) (h0 : (decide (v5 < (v0.length : Int))) = true) (h1 : getI v0 v5 = some g0) (h2 : getI v1 v5 = some g1) (h3 : g0 = g1) (h4 : Small.sm g0) (h5 : (yes g0 g1) = false) : Round E 101 (lpAt Try.f101 0) (stL 27 [(0, .one (.s .far () 4 (v0.map GState.t))), (1, .one (.s .far () 4 (v1.map GState.t))), (5, .one (tI v5))]) .ret (stL 27 [(4, .one (tB false))]) :=
  Round.path [.val (.int .i64 (v0.length : Int)), .b true, .row (GState.t g0), .row (GState.t g1), .ret [(false, [tB false])]] [fun _ => ((v0.map GState.t).length : Int) = (v0.length : Int), fun _ => (decide (v5 < (v0.length : Int))) = true, fun _ => 0 ≤ v5 ∧ (v0.map GState.t)[v5.toNat]? = some (GState.t g0), fun _ => 0 ≤ v5 ∧ (v1.map GState.t)[v5.toNat]? = some (GState.t g1), fun k => E.C k 114 [.agg (GState.t g0), .agg (GState.t g1)] = some [(false, [tB false])]] (fun k => by kernel_rfl) ⟨Ev.c lenMap, Ev.c h0, Ev.c (getRow h1), Ev.c (getRow h2), Does.to (T_l_eqState g0 g1 h3 h4) (by rw [h5]), trivial⟩
theorem l_eqStateS_R0_2 (v0 : List GState) (v1 : List GState) (v5 : Int) (h0 : (decide (v5 < (v0.length : Int))) = false) : Round E 101 (lpAt Try.f101 0) (stL 27 [(0, .one (.s .far () 4 (v0.map GState.t))), (1, .one (.s .far () 4 (v1.map GState.t))), (5, .one (tI v5))]) (.exit 0) (stL 27 []) :=
  Round.path [.val (.int .i64 (v0.length : Int)), .b false] [fun _ => ((v0.map GState.t).length : Int) = (v0.length : Int), fun _ => (decide (v5 < (v0.length : Int))) = false] (fun k => by kernel_rfl) ⟨Ev.c lenMap, Ev.c h0, trivial⟩
noncomputable def l_eqStateS_l0 (v1 : List GState) : List GState → Nat → Option l_eqStateS_X0
  | [], i => some (.x0)
  | hd :: rest, i => (getI v1 (i : Int)).bind fun g1 => if hd = g1 then if Small.sm hd then cond (yes hd g1)
    (l_eqStateS_l0 v1 rest (i + 1))
    (some (.ret false)) else none else none
theorem l_eqStateS_L0 (v0 : List GState) (v1 : List GState) (rest : List GState) : ∀ (i : Nat) , (v0).drop i = rest → v0.length ≤ 9223372036854775807 → Ans (l_eqStateS_l0 v1 rest i) (l_eqStateS_Q0 v0 v1 (i : Int)) := by
  induction rest with
  | nil =>
    intro i hE hl
    have hb := foldEnd hE
    unfold l_eqStateS_l0
    exact Ans.some (Loops.stop (l_eqStateS_R0_2 v0 v1 (i : Int) hb) (by intro h; cases h))
  | cons hd rest ih =>
    intro i hE hl
    have hb := foldMore hE
    have hw := foldNext hE hl
    have hE2 := foldRest hE
    have hg := foldGet hE
    unfold l_eqStateS_l0
    refine Ans.bind (fun g1 h2 => ?_)
    refine Ans.pre (fun h3 => ?_)
    refine Ans.pre (fun h4 => ?_)
    refine Ans.ite (fun h5 => ?_) (fun h5 => ?_)
    · exact (ih (i + 1) hE2 hl).mono fun y hy => by have r := l_eqStateS_R0_0 v0 v1 (i : Int) hd g1 hb hg h2 h3 h4 h5; rw [hw] at r; cases y <;> exact Loops.next r hy
    · exact Ans.some (Loops.stop (l_eqStateS_R0_1 v0 v1 (i : Int) hd g1 hb hg h2 h3 h4 h5) (by intro h; cases h))
theorem l_eqStateS_P0 (x0 : List GState) (x1 : List GState) (h0 : ((x0.length : Int) != (x1.length : Int)) = true) : Does E 101 [.one (.s .far () 4 (x0.map GState.t)), .one (.s .far () 4 (x1.map GState.t))] [(false, [tB false])] :=
  Does.path (fn := Try.f101) [.val (.int .i64 (x0.length : Int)), .val (.int .i64 (x1.length : Int)), .b true] [fun _ => ((x0.map GState.t).length : Int) = (x0.length : Int), fun _ => ((x1.map GState.t).length : Int) = (x1.length : Int), fun _ => ((x0.length : Int) != (x1.length : Int)) = true] rfl rfl (fun k => by kernel_rfl) ⟨Ev.c lenMap, Ev.c lenMap, Ev.c h0, trivial⟩
theorem l_eqStateS_P1 (x0 : List GState) (x1 : List GState) (w0_4 : Bool) (h0 : ((x0.length : Int) != (x1.length : Int)) = false) (h1 : Loops E 101 (lpAt Try.f101 0) (stL 27 [(0, .one (.s .far () 4 (x0.map GState.t))), (1, .one (.s .far () 4 (x1.map GState.t))), (5, .one (tI (0 : Int)))]) .ret (stL 27 [(4, .one (tB w0_4))])) : Does E 101 [.one (.s .far () 4 (x0.map GState.t)), .one (.s .far () 4 (x1.map GState.t))] [(false, [tB w0_4])] :=
  Does.path (fn := Try.f101) [.val (.int .i64 (x0.length : Int)), .val (.int .i64 (x1.length : Int)), .b false, .lp .ret (stL 27 [(4, .one (tB w0_4))])] [fun _ => ((x0.map GState.t).length : Int) = (x0.length : Int), fun _ => ((x1.map GState.t).length : Int) = (x1.length : Int), fun _ => ((x0.length : Int) != (x1.length : Int)) = false, fun k => LoopK E 101 (lpAt Try.f101 0) (stL 27 [(0, .one (.s .far () 4 (x0.map GState.t))), (1, .one (.s .far () 4 (x1.map GState.t))), (5, .one (tI (0 : Int)))]) .ret (stL 27 [(4, .one (tB w0_4))]) k k] rfl rfl (fun k => by kernel_rfl) ⟨Ev.c lenMap, Ev.c lenMap, Ev.c h0, Loops.ev h1, trivial⟩
theorem l_eqStateS_P2 (x0 : List GState) (x1 : List GState) (h0 : ((x0.length : Int) != (x1.length : Int)) = false) (h1 : Loops E 101 (lpAt Try.f101 0) (stL 27 [(0, .one (.s .far () 4 (x0.map GState.t))), (1, .one (.s .far () 4 (x1.map GState.t))), (5, .one (tI (0 : Int)))]) (.exit 0) (stL 27 [])) : Does E 101 [.one (.s .far () 4 (x0.map GState.t)), .one (.s .far () 4 (x1.map GState.t))] [(false, [tB true])] :=
  Does.path (fn := Try.f101) [.val (.int .i64 (x0.length : Int)), .val (.int .i64 (x1.length : Int)), .b false, .lp (.exit 0) (stL 27 [])] [fun _ => ((x0.map GState.t).length : Int) = (x0.length : Int), fun _ => ((x1.map GState.t).length : Int) = (x1.length : Int), fun _ => ((x0.length : Int) != (x1.length : Int)) = false, fun k => LoopK E 101 (lpAt Try.f101 0) (stL 27 [(0, .one (.s .far () 4 (x0.map GState.t))), (1, .one (.s .far () 4 (x1.map GState.t))), (5, .one (tI (0 : Int)))]) (.exit 0) (stL 27 []) k k] rfl rfl (fun k => by kernel_rfl) ⟨Ev.c lenMap, Ev.c lenMap, Ev.c h0, Loops.ev h1, trivial⟩
noncomputable def l_eqStateS_F (x0 : List GState) (x1 : List GState) : Option (Bool) :=
    cond ((x0.length : Int) != (x1.length : Int))
      (some (false))
      (if x0.length ≤ 9223372036854775807 then (l_eqStateS_l0 x1 x0 0).bind fun y => match y with
        | .ret w0_4 => (some (w0_4))
        | .x0 => (some (true)) else none)
theorem l_eqStateS_D (x0 : List GState) (x1 : List GState) : Ans (l_eqStateS_F x0 x1) (fun r => Does E 101 [.one (.s .far () 4 (x0.map GState.t)), .one (.s .far () 4 (x1.map GState.t))] [(false, [tB r])]) := by
  unfold l_eqStateS_F
  refine Ans.ite (fun h0 => ?_) (fun h0 => ?_)
  · exact Ans.some (l_eqStateS_P0 x0 x1 h0)
  · refine Ans.pre (fun hl2 => ?_)
    refine Ans.bind (fun y hy => ?_)
    replace hy := l_eqStateS_L0 x0 x1 x0 0 rfl hl2 y hy
    cases y with
    | ret w0_4 =>
      have h1 := hy
      exact Ans.some (l_eqStateS_P1 x0 x1 w0_4 h0 h1)
    | x0 =>
      have h1 := hy
      exact Ans.some (l_eqStateS_P2 x0 x1 h0 h1)
theorem el_l_eqStateS (l : List GState) : ∀ (rest : List GState) (i : Nat), l.drop i = rest → (∀ y ∈ rest, Small.sm y) → l_eqStateS_l0 l rest i = some .x0
  | [], i, _, _ => rfl
  | x :: rest, i, hE, h => by
    have hx := h x (by simp)
    unfold l_eqStateS_l0
    rw [foldGet hE, Option.bind_some]
    simp only [hx, if_true, yes, bne_self_eq_false, BEq.rfl, Bool.not_true, cond_false, cond_true]
    exact el_l_eqStateS l rest (i + 1) (foldRest hE) (fun y hy => h y (by simp [hy]))
theorem T_l_eqStateS (x0 : List GState) (x1 : List GState) (e : x0 = x1) (h : Small.sm x0) : Does E 101 [.one (.s .far () 4 (x0.map GState.t)), .one (.s .far () 4 (x1.map GState.t))] [(false, [tB (yes x0 x1)])] := by
  subst e
  exact l_eqStateS_D x0 x0 _ (by
    unfold l_eqStateS_F
    rw [if_pos (sm_wf_len h), el_l_eqStateS x0 x0 0 rfl h.2]
    simp [yes])
theorem l_eqRun_P0 (x0 : GRun) (x1 : GRun) (h0 : (!(x0.f0.toList == x1.f0.toList)) = true) : Does E 77 [.agg (GRun.t .far x0), .agg (GRun.t .far x1)] [(false, [tB false])] :=
  Does.path (fn := Try.f77) [.b true] [fun _ => (!(x0.f0.toList == x1.f0.toList)) = true] rfl rfl (fun k => by kernel_rfl) ⟨Ev.c h0, trivial⟩
theorem l_eqRun_P1 (x0 : GRun) (x1 : GRun) (h0 : (!(x0.f0.toList == x1.f0.toList)) = false) (h1 : x0.f1 = x1.f1) (h2 : Small.sm x0.f1) (h3 : (yes x0.f1 x1.f1) = true) (h4 : (x0.f2 != x1.f2) = true) : Does E 77 [.agg (GRun.t .far x0), .agg (GRun.t .far x1)] [(false, [tB false])] :=
  Does.path (fn := Try.f77) [.b false, .ret [(false, [tB true])], .b true] [fun _ => (!(x0.f0.toList == x1.f0.toList)) = false, fun k => E.C k 100 [.agg (GSpan.t x0.f1), .agg (GSpan.t x1.f1)] = some [(false, [tB true])], fun _ => (x0.f2 != x1.f2) = true] rfl rfl (fun k => by kernel_rfl) ⟨Ev.c h0, Does.to (T_l_eqSpan x0.f1 x1.f1 h1 h2) (by rw [h3]), Ev.c h4, trivial⟩
theorem l_eqRun_P2 (x0 : GRun) (x1 : GRun) (h0 : (!(x0.f0.toList == x1.f0.toList)) = false) (h1 : x0.f1 = x1.f1) (h2 : Small.sm x0.f1) (h3 : (yes x0.f1 x1.f1) = true) (h4 : (x0.f2 != x1.f2) = false) (h5 : x0.f3 = x1.f3) (h6 : Small.sm x0.f3) (h7 : (yes x0.f3 x1.f3) = true) : Does E 77 [.agg (GRun.t .far x0), .agg (GRun.t .far x1)] [(false, [tB true])] :=
  Does.path (fn := Try.f77) [.b false, .ret [(false, [tB true])], .b false, .ret [(false, [tB true])]] [fun _ => (!(x0.f0.toList == x1.f0.toList)) = false, fun k => E.C k 100 [.agg (GSpan.t x0.f1), .agg (GSpan.t x1.f1)] = some [(false, [tB true])], fun _ => (x0.f2 != x1.f2) = false, fun k => E.C k 101 [.one (.s .far () 4 (x0.f3.map GState.t)), .one (.s .far () 4 (x1.f3.map GState.t))] = some [(false, [tB true])]] rfl rfl (fun k => by kernel_rfl) ⟨Ev.c h0, Does.to (T_l_eqSpan x0.f1 x1.f1 h1 h2) (by rw [h3]), Ev.c h4, Does.to (T_l_eqStateS x0.f3 x1.f3 h5 h6) (by rw [h7]), trivial⟩
theorem l_eqRun_P3 (x0 : GRun) (x1 : GRun) (h0 : (!(x0.f0.toList == x1.f0.toList)) = false) (h1 : x0.f1 = x1.f1) (h2 : Small.sm x0.f1) (h3 : (yes x0.f1 x1.f1) = true) (h4 : (x0.f2 != x1.f2) = false) (h5 : x0.f3 = x1.f3) (h6 : Small.sm x0.f3) (h7 : (yes x0.f3 x1.f3) = false) : Does E 77 [.agg (GRun.t .far x0), .agg (GRun.t .far x1)] [(false, [tB false])] :=
  Does.path (fn := Try.f77) [.b false, .ret [(false, [tB true])], .b false, .ret [(false, [tB false])]] [fun _ => (!(x0.f0.toList == x1.f0.toList)) = false, fun k => E.C k 100 [.agg (GSpan.t x0.f1), .agg (GSpan.t x1.f1)] = some [(false, [tB true])], fun _ => (x0.f2 != x1.f2) = false, fun k => E.C k 101 [.one (.s .far () 4 (x0.f3.map GState.t)), .one (.s .far () 4 (x1.f3.map GState.t))] = some [(false, [tB false])]] rfl rfl (fun k => by kernel_rfl) ⟨Ev.c h0, Does.to (T_l_eqSpan x0.f1 x1.f1 h1 h2) (by rw [h3]), Ev.c h4, Does.to (T_l_eqStateS x0.f3 x1.f3 h5 h6) (by rw [h7]), trivial⟩
theorem l_eqRun_P4 (x0 : GRun) (x1 : GRun) (h0 : (!(x0.f0.toList == x1.f0.toList)) = false) (h1 : x0.f1 = x1.f1) (h2 : Small.sm x0.f1) (h3 : (yes x0.f1 x1.f1) = false) : Does E 77 [.agg (GRun.t .far x0), .agg (GRun.t .far x1)] [(false, [tB false])] :=
  Does.path (fn := Try.f77) [.b false, .ret [(false, [tB false])]] [fun _ => (!(x0.f0.toList == x1.f0.toList)) = false, fun k => E.C k 100 [.agg (GSpan.t x0.f1), .agg (GSpan.t x1.f1)] = some [(false, [tB false])]] rfl rfl (fun k => by kernel_rfl) ⟨Ev.c h0, Does.to (T_l_eqSpan x0.f1 x1.f1 h1 h2) (by rw [h3]), trivial⟩
noncomputable def l_eqRun_F (x0 : GRun) (x1 : GRun) : Option (Bool) :=
    cond (!(x0.f0.toList == x1.f0.toList))
      (some (false))
      (if x0.f1 = x1.f1 then if Small.sm x0.f1 then cond (yes x0.f1 x1.f1)
        (cond (x0.f2 != x1.f2)
          (some (false))
          (if x0.f3 = x1.f3 then if Small.sm x0.f3 then cond (yes x0.f3 x1.f3)
            (some (true))
            (some (false)) else none else none))
        (some (false)) else none else none)
theorem l_eqRun_D (x0 : GRun) (x1 : GRun) : Ans (l_eqRun_F x0 x1) (fun r => Does E 77 [.agg (GRun.t .far x0), .agg (GRun.t .far x1)] [(false, [tB r])]) := by
  unfold l_eqRun_F
  refine Ans.ite (fun h0 => ?_) (fun h0 => ?_)
  · exact Ans.some (l_eqRun_P0 x0 x1 h0)
  · refine Ans.pre (fun h1 => ?_)
    refine Ans.pre (fun h2 => ?_)
    refine Ans.ite (fun h3 => ?_) (fun h3 => ?_)
    · refine Ans.ite (fun h4 => ?_) (fun h4 => ?_)
      · exact Ans.some (l_eqRun_P1 x0 x1 h0 h1 h2 h3 h4)
      · refine Ans.pre (fun h5 => ?_)
        refine Ans.pre (fun h6 => ?_)
        refine Ans.ite (fun h7 => ?_) (fun h7 => ?_)
        · exact Ans.some (l_eqRun_P2 x0 x1 h0 h1 h2 h3 h4 h5 h6 h7)
        · exact Ans.some (l_eqRun_P3 x0 x1 h0 h1 h2 h3 h4 h5 h6 h7)
    · exact Ans.some (l_eqRun_P4 x0 x1 h0 h1 h2 h3)
theorem T_l_eqRun (x0 : GRun) (x1 : GRun) (e : x0 = x1) (h : Small.sm x0) : Does E 77 [.agg (GRun.t .far x0), .agg (GRun.t .far x1)] [(false, [tB (yes x0 x1)])] := by
  subst e
  obtain ⟨w0, w1, w3⟩ := h
  exact l_eqRun_D x0 x0 _ (by
    unfold l_eqRun_F
    simp only [w1, w3, if_true, yes, bne_self_eq_false, BEq.rfl, Bool.not_true, cond_false, cond_true])
inductive l_eqRunS_X0 where
  | ret (v4 : Bool)
  | x0 
def l_eqRunS_Q0 {q0 : Kd} {q1 : Kd} (v0 : List GRun) (v1 : List GRun) (v5 : Int) : l_eqRunS_X0 → Prop
  | .ret zv4 => Loops E 45 (lpAt Try.f45 0) (stL 27 [(0, .one (.s .far () 5 (v0.map (GRun.t q0)))), (1, .one (.s .far () 5 (v1.map (GRun.t q1)))), (5, .one (tI v5))]) .ret (stL 27 [(4, .one (tB zv4))])
  | .x0 => Loops E 45 (lpAt Try.f45 0) (stL 27 [(0, .one (.s .far () 5 (v0.map (GRun.t q0)))), (1, .one (.s .far () 5 (v1.map (GRun.t q1)))), (5, .one (tI v5))]) (.exit 0) (stL 27 [])
theorem l_eqRunS_R0_0 {q0 : Kd} {q1 : Kd} (v0 : List GRun) (v1 : List GRun) (v5 : Int) (g0 : GRun) (g1 : GRun) (h0 : (decide (v5 < (v0.length : Int))) = true) (h1 : getI v0 v5 = some g0) (h2 : getI v1 v5 = some g1) (h3 : g0 = g1) (h4 : Small.sm g0) (h5 : (yes g0 g1) = true) : Round E 45 (lpAt Try.f45 0) (stL 27 [(0, .one (.s .far () 5 (v0.map (GRun.t q0)))), (1, .one (.s .far () 5 (v1.map (GRun.t q1)))), (5, .one (tI v5))]) .normal (stL 27 [(0, .one (.s .far () 5 (v0.map (GRun.t q0)))), (1, .one (.s .far () 5 (v1.map (GRun.t q1)))), (5, .one (tI (inc v5)))]) :=
  Round.path [.val (.int .i64 (v0.length : Int)), .b true, .row ((GRun.t q0) g0), .row ((GRun.t q1) g1), .ret [(false, [tB true])]] [fun _ => ((v0.map (GRun.t q0)).length : Int) = (v0.length : Int), fun _ => (decide (v5 < (v0.length : Int))) = true, fun _ => 0 ≤ v5 ∧ (v0.map (GRun.t q0))[v5.toNat]? = some ((GRun.t q0) g0), fun _ => 0 ≤ v5 ∧ (v1.map (GRun.t q1))[v5.toNat]? = some ((GRun.t q1) g1), fun k => E.C k 77 [.agg (GRun.t .far g0), .agg (GRun.t .far g1)] = some [(false, [tB true])]] (fun k => by kernel_rfl) ⟨Ev.c lenMap, Ev.c h0, Ev.c (getRow h1), Ev.c (getRow h2), Does.to (T_l_eqRun g0 g1 h3 h4) (by rw [h5]), trivial⟩
theorem l_eqRunS_R0_1 {q0 : Kd} {q1 : Kd} (v0 : List GRun) (v1 : List GRun) (v5 : Int) (g0 : GRun) (g1 : GRun) (h0 : (decide (v5 < (v0.length : Int))) = true) (h1 : getI v0 v5 = some g0) (h2 : getI v1 v5 = some g1) (h3 : g0 = g1) (h4 : Small.sm g0) (h5 : (yes g0 g1) = false) : Round E 45 (lpAt Try.f45 0) (stL 27 [(0, .one (.s .far () 5 (v0.map (GRun.t q0)))), (1, .one (.s .far () 5 (v1.map (GRun.t q1)))), (5, .one (tI v5))]) .ret (stL 27 [(4, .one (tB false))]) :=
  Round.path [.val (.int .i64 (v0.length : Int)), .b true, .row ((GRun.t q0) g0), .row ((GRun.t q1) g1), .ret [(false, [tB false])]] [fun _ => ((v0.map (GRun.t q0)).length : Int) = (v0.length : Int), fun _ => (decide (v5 < (v0.length : Int))) = true, fun _ => 0 ≤ v5 ∧ (v0.map (GRun.t q0))[v5.toNat]? = some ((GRun.t q0) g0), fun _ => 0 ≤ v5 ∧ (v1.map (GRun.t q1))[v5.toNat]? = some ((GRun.t q1) g1), fun k => E.C k 77 [.agg (GRun.t .far g0), .agg (GRun.t .far g1)] = some [(false, [tB false])]] (fun k => by kernel_rfl) ⟨Ev.c lenMap, Ev.c h0, Ev.c (getRow h1), Ev.c (getRow h2), Does.to (T_l_eqRun g0 g1 h3 h4) (by rw [h5]), trivial⟩
theorem l_eqRunS_R0_2 {q0 : Kd} {q1 : Kd} (v0 : List GRun) (v1 : List GRun) (v5 : Int) (h0 : (decide (v5 < (v0.length : Int))) = false) : Round E 45 (lpAt Try.f45 0) (stL 27 [(0, .one (.s .far () 5 (v0.map (GRun.t q0)))), (1, .one (.s .far () 5 (v1.map (GRun.t q1)))), (5, .one (tI v5))]) (.exit 0) (stL 27 []) :=
  Round.path [.val (.int .i64 (v0.length : Int)), .b false] [fun _ => ((v0.map (GRun.t q0)).length : Int) = (v0.length : Int), fun _ => (decide (v5 < (v0.length : Int))) = false] (fun k => by kernel_rfl) ⟨Ev.c lenMap, Ev.c h0, trivial⟩
noncomputable def l_eqRunS_l0 (v1 : List GRun) : List GRun → Nat → Option l_eqRunS_X0
  | [], i => some (.x0)
  | hd :: rest, i => (getI v1 (i : Int)).bind fun g1 => if hd = g1 then if Small.sm hd then cond (yes hd g1)
    (l_eqRunS_l0 v1 rest (i + 1))
    (some (.ret false)) else none else none
theorem l_eqRunS_L0 {q0 : Kd} {q1 : Kd} (v0 : List GRun) (v1 : List GRun) (rest : List GRun) : ∀ (i : Nat) , (v0).drop i = rest → v0.length ≤ 9223372036854775807 → Ans (l_eqRunS_l0 v1 rest i) (l_eqRunS_Q0 (q0 := q0) (q1 := q1) v0 v1 (i : Int)) := by
  induction rest with
  | nil =>
    intro i hE hl
    have hb := foldEnd hE
    unfold l_eqRunS_l0
    exact Ans.some (Loops.stop (l_eqRunS_R0_2 (q0 := q0) (q1 := q1) v0 v1 (i : Int) hb) (by intro h; cases h))
  | cons hd rest ih =>
    intro i hE hl
    have hb := foldMore hE
    have hw := foldNext hE hl
    have hE2 := foldRest hE
    have hg := foldGet hE
    unfold l_eqRunS_l0
    refine Ans.bind (fun g1 h2 => ?_)
    refine Ans.pre (fun h3 => ?_)
    refine Ans.pre (fun h4 => ?_)
    refine Ans.ite (fun h5 => ?_) (fun h5 => ?_)
    · exact (ih (i + 1) hE2 hl).mono fun y hy => by have r := l_eqRunS_R0_0 (q0 := q0) (q1 := q1) v0 v1 (i : Int) hd g1 hb hg h2 h3 h4 h5; rw [hw] at r; cases y <;> exact Loops.next r hy
    · exact Ans.some (Loops.stop (l_eqRunS_R0_1 (q0 := q0) (q1 := q1) v0 v1 (i : Int) hd g1 hb hg h2 h3 h4 h5) (by intro h; cases h))
theorem l_eqRunS_P0 {q0 : Kd} {q1 : Kd} (x0 : List GRun) (x1 : List GRun) (h0 : ((x0.length : Int) != (x1.length : Int)) = true) : Does E 45 [.one (.s .far () 5 (x0.map (GRun.t q0))), .one (.s .far () 5 (x1.map (GRun.t q1)))] [(false, [tB false])] :=
  Does.path (fn := Try.f45) [.val (.int .i64 (x0.length : Int)), .val (.int .i64 (x1.length : Int)), .b true] [fun _ => ((x0.map (GRun.t q0)).length : Int) = (x0.length : Int), fun _ => ((x1.map (GRun.t q1)).length : Int) = (x1.length : Int), fun _ => ((x0.length : Int) != (x1.length : Int)) = true] rfl rfl (fun k => by kernel_rfl) ⟨Ev.c lenMap, Ev.c lenMap, Ev.c h0, trivial⟩
theorem l_eqRunS_P1 {q0 : Kd} {q1 : Kd} (x0 : List GRun) (x1 : List GRun) (w0_4 : Bool) (h0 : ((x0.length : Int) != (x1.length : Int)) = false) (h1 : Loops E 45 (lpAt Try.f45 0) (stL 27 [(0, .one (.s .far () 5 (x0.map (GRun.t q0)))), (1, .one (.s .far () 5 (x1.map (GRun.t q1)))), (5, .one (tI (0 : Int)))]) .ret (stL 27 [(4, .one (tB w0_4))])) : Does E 45 [.one (.s .far () 5 (x0.map (GRun.t q0))), .one (.s .far () 5 (x1.map (GRun.t q1)))] [(false, [tB w0_4])] :=
  Does.path (fn := Try.f45) [.val (.int .i64 (x0.length : Int)), .val (.int .i64 (x1.length : Int)), .b false, .lp .ret (stL 27 [(4, .one (tB w0_4))])] [fun _ => ((x0.map (GRun.t q0)).length : Int) = (x0.length : Int), fun _ => ((x1.map (GRun.t q1)).length : Int) = (x1.length : Int), fun _ => ((x0.length : Int) != (x1.length : Int)) = false, fun k => LoopK E 45 (lpAt Try.f45 0) (stL 27 [(0, .one (.s .far () 5 (x0.map (GRun.t q0)))), (1, .one (.s .far () 5 (x1.map (GRun.t q1)))), (5, .one (tI (0 : Int)))]) .ret (stL 27 [(4, .one (tB w0_4))]) k k] rfl rfl (fun k => by kernel_rfl) ⟨Ev.c lenMap, Ev.c lenMap, Ev.c h0, Loops.ev h1, trivial⟩
theorem l_eqRunS_P2 {q0 : Kd} {q1 : Kd} (x0 : List GRun) (x1 : List GRun) (h0 : ((x0.length : Int) != (x1.length : Int)) = false) (h1 : Loops E 45 (lpAt Try.f45 0) (stL 27 [(0, .one (.s .far () 5 (x0.map (GRun.t q0)))), (1, .one (.s .far () 5 (x1.map (GRun.t q1)))), (5, .one (tI (0 : Int)))]) (.exit 0) (stL 27 [])) : Does E 45 [.one (.s .far () 5 (x0.map (GRun.t q0))), .one (.s .far () 5 (x1.map (GRun.t q1)))] [(false, [tB true])] :=
  Does.path (fn := Try.f45) [.val (.int .i64 (x0.length : Int)), .val (.int .i64 (x1.length : Int)), .b false, .lp (.exit 0) (stL 27 [])] [fun _ => ((x0.map (GRun.t q0)).length : Int) = (x0.length : Int), fun _ => ((x1.map (GRun.t q1)).length : Int) = (x1.length : Int), fun _ => ((x0.length : Int) != (x1.length : Int)) = false, fun k => LoopK E 45 (lpAt Try.f45 0) (stL 27 [(0, .one (.s .far () 5 (x0.map (GRun.t q0)))), (1, .one (.s .far () 5 (x1.map (GRun.t q1)))), (5, .one (tI (0 : Int)))]) (.exit 0) (stL 27 []) k k] rfl rfl (fun k => by kernel_rfl) ⟨Ev.c lenMap, Ev.c lenMap, Ev.c h0, Loops.ev h1, trivial⟩
noncomputable def l_eqRunS_F (x0 : List GRun) (x1 : List GRun) : Option (Bool) :=
    cond ((x0.length : Int) != (x1.length : Int))
      (some (false))
      (if x0.length ≤ 9223372036854775807 then (l_eqRunS_l0 x1 x0 0).bind fun y => match y with
        | .ret w0_4 => (some (w0_4))
        | .x0 => (some (true)) else none)
theorem l_eqRunS_D {q0 : Kd} {q1 : Kd} (x0 : List GRun) (x1 : List GRun) : Ans (l_eqRunS_F x0 x1) (fun r => Does E 45 [.one (.s .far () 5 (x0.map (GRun.t q0))), .one (.s .far () 5 (x1.map (GRun.t q1)))] [(false, [tB r])]) := by
  unfold l_eqRunS_F
  refine Ans.ite (fun h0 => ?_) (fun h0 => ?_)
  · exact Ans.some (l_eqRunS_P0 (q0 := q0) (q1 := q1) x0 x1 h0)
  · refine Ans.pre (fun hl2 => ?_)
    refine Ans.bind (fun y hy => ?_)
    replace hy := l_eqRunS_L0 (q0 := q0) (q1 := q1) x0 x1 x0 0 rfl hl2 y hy
    cases y with
    | ret w0_4 =>
      have h1 := hy
      exact Ans.some (l_eqRunS_P1 (q0 := q0) (q1 := q1) x0 x1 w0_4 h0 h1)
    | x0 =>
      have h1 := hy
      exact Ans.some (l_eqRunS_P2 (q0 := q0) (q1 := q1) x0 x1 h0 h1)
theorem el_l_eqRunS (l : List GRun) : ∀ (rest : List GRun) (i : Nat), l.drop i = rest → (∀ y ∈ rest, Small.sm y) → l_eqRunS_l0 l rest i = some .x0
  | [], i, _, _ => rfl
  | x :: rest, i, hE, h => by
    have hx := h x (by simp)
    unfold l_eqRunS_l0
    rw [foldGet hE, Option.bind_some]
    simp only [hx, if_true, yes, bne_self_eq_false, BEq.rfl, Bool.not_true, cond_false, cond_true]
    exact el_l_eqRunS l rest (i + 1) (foldRest hE) (fun y hy => h y (by simp [hy]))
theorem T_l_eqRunS {q0 : Kd} {q1 : Kd} (x0 : List GRun) (x1 : List GRun) (e : x0 = x1) (h : Small.sm x0) : Does E 45 [.one (.s .far () 5 (x0.map (GRun.t q0))), .one (.s .far () 5 (x1.map (GRun.t q1)))] [(false, [tB (yes x0 x1)])] := by
  subst e
  exact l_eqRunS_D x0 x0 _ (by
    unfold l_eqRunS_F
    rw [if_pos (sm_wf_len h), el_l_eqRunS x0 x0 0 rfl h.2]
    simp [yes])
theorem l_eqBoard_P0 {q0 : Kd} {q1 : Kd} (x0 : GBoard) (x1 : GBoard) (h0 : x0.f0 = x1.f0) (h1 : Small.sm x0.f0) (h2 : (yes x0.f0 x1.f0) = true) (h3 : x0.f1 = x1.f1) (h4 : Small.sm x0.f1) (h5 : (yes x0.f1 x1.f1) = true) (h6 : x0.f2 = x1.f2) (h7 : Small.sm x0.f2) (h8 : (yes x0.f2 x1.f2) = true) (h9 : (x0.f3 != x1.f3) = true) : Does E 16 [.agg (GBoard.t .far q0 x0), .agg (GBoard.t .far q1 x1)] [(false, [tB false])] :=
  Does.path (fn := Try.f16) [.ret [(false, [tB true])], .ret [(false, [tB true])], .ret [(false, [tB true])], .b true] [fun k => E.C k 43 [.one (.s .far () 3 (x0.f0.map GSession.t)), .one (.s .far () 3 (x1.f0.map GSession.t))] = some [(false, [tB true])], fun k => E.C k 44 [.one (.s .far () 9 (x0.f1.map (GPlan.t q0 q0))), .one (.s .far () 9 (x1.f1.map (GPlan.t q1 q1)))] = some [(false, [tB true])], fun k => E.C k 45 [.one (.s .far () 5 (x0.f2.map (GRun.t q0))), .one (.s .far () 5 (x1.f2.map (GRun.t q1)))] = some [(false, [tB true])], fun _ => (x0.f3 != x1.f3) = true] rfl rfl (fun k => by kernel_rfl) ⟨Does.to (T_l_eqSessionS x0.f0 x1.f0 h0 h1) (by rw [h2]), Does.to (T_l_eqPlanS x0.f1 x1.f1 h3 h4) (by rw [h5]), Does.to (T_l_eqRunS x0.f2 x1.f2 h6 h7) (by rw [h8]), Ev.c h9, trivial⟩
theorem l_eqBoard_P1 {q0 : Kd} {q1 : Kd} (x0 : GBoard) (x1 : GBoard) (h0 : x0.f0 = x1.f0) (h1 : Small.sm x0.f0) (h2 : (yes x0.f0 x1.f0) = true) (h3 : x0.f1 = x1.f1) (h4 : Small.sm x0.f1) (h5 : (yes x0.f1 x1.f1) = true) (h6 : x0.f2 = x1.f2) (h7 : Small.sm x0.f2) (h8 : (yes x0.f2 x1.f2) = true) (h9 : (x0.f3 != x1.f3) = false) (h10 : (x0.f4 != x1.f4) = true) : Does E 16 [.agg (GBoard.t .far q0 x0), .agg (GBoard.t .far q1 x1)] [(false, [tB false])] :=
  Does.path (fn := Try.f16) [.ret [(false, [tB true])], .ret [(false, [tB true])], .ret [(false, [tB true])], .b false, .b true] [fun k => E.C k 43 [.one (.s .far () 3 (x0.f0.map GSession.t)), .one (.s .far () 3 (x1.f0.map GSession.t))] = some [(false, [tB true])], fun k => E.C k 44 [.one (.s .far () 9 (x0.f1.map (GPlan.t q0 q0))), .one (.s .far () 9 (x1.f1.map (GPlan.t q1 q1)))] = some [(false, [tB true])], fun k => E.C k 45 [.one (.s .far () 5 (x0.f2.map (GRun.t q0))), .one (.s .far () 5 (x1.f2.map (GRun.t q1)))] = some [(false, [tB true])], fun _ => (x0.f3 != x1.f3) = false, fun _ => (x0.f4 != x1.f4) = true] rfl rfl (fun k => by kernel_rfl) ⟨Does.to (T_l_eqSessionS x0.f0 x1.f0 h0 h1) (by rw [h2]), Does.to (T_l_eqPlanS x0.f1 x1.f1 h3 h4) (by rw [h5]), Does.to (T_l_eqRunS x0.f2 x1.f2 h6 h7) (by rw [h8]), Ev.c h9, Ev.c h10, trivial⟩
theorem l_eqBoard_P2 {q0 : Kd} {q1 : Kd} (x0 : GBoard) (x1 : GBoard) (h0 : x0.f0 = x1.f0) (h1 : Small.sm x0.f0) (h2 : (yes x0.f0 x1.f0) = true) (h3 : x0.f1 = x1.f1) (h4 : Small.sm x0.f1) (h5 : (yes x0.f1 x1.f1) = true) (h6 : x0.f2 = x1.f2) (h7 : Small.sm x0.f2) (h8 : (yes x0.f2 x1.f2) = true) (h9 : (x0.f3 != x1.f3) = false) (h10 : (x0.f4 != x1.f4) = false) : Does E 16 [.agg (GBoard.t .far q0 x0), .agg (GBoard.t .far q1 x1)] [(false, [tB true])] :=
  Does.path (fn := Try.f16) [.ret [(false, [tB true])], .ret [(false, [tB true])], .ret [(false, [tB true])], .b false, .b false] [fun k => E.C k 43 [.one (.s .far () 3 (x0.f0.map GSession.t)), .one (.s .far () 3 (x1.f0.map GSession.t))] = some [(false, [tB true])], fun k => E.C k 44 [.one (.s .far () 9 (x0.f1.map (GPlan.t q0 q0))), .one (.s .far () 9 (x1.f1.map (GPlan.t q1 q1)))] = some [(false, [tB true])], fun k => E.C k 45 [.one (.s .far () 5 (x0.f2.map (GRun.t q0))), .one (.s .far () 5 (x1.f2.map (GRun.t q1)))] = some [(false, [tB true])], fun _ => (x0.f3 != x1.f3) = false, fun _ => (x0.f4 != x1.f4) = false] rfl rfl (fun k => by kernel_rfl) ⟨Does.to (T_l_eqSessionS x0.f0 x1.f0 h0 h1) (by rw [h2]), Does.to (T_l_eqPlanS x0.f1 x1.f1 h3 h4) (by rw [h5]), Does.to (T_l_eqRunS x0.f2 x1.f2 h6 h7) (by rw [h8]), Ev.c h9, Ev.c h10, trivial⟩
theorem l_eqBoard_P3 {q0 : Kd} {q1 : Kd} (x0 : GBoard) (x1 : GBoard) (h0 : x0.f0 = x1.f0) (h1 : Small.sm x0.f0) (h2 : (yes x0.f0 x1.f0) = true) (h3 : x0.f1 = x1.f1) (h4 : Small.sm x0.f1) (h5 : (yes x0.f1 x1.f1) = true) (h6 : x0.f2 = x1.f2) (h7 : Small.sm x0.f2) (h8 : (yes x0.f2 x1.f2) = false) : Does E 16 [.agg (GBoard.t .far q0 x0), .agg (GBoard.t .far q1 x1)] [(false, [tB false])] :=
  Does.path (fn := Try.f16) [.ret [(false, [tB true])], .ret [(false, [tB true])], .ret [(false, [tB false])]] [fun k => E.C k 43 [.one (.s .far () 3 (x0.f0.map GSession.t)), .one (.s .far () 3 (x1.f0.map GSession.t))] = some [(false, [tB true])], fun k => E.C k 44 [.one (.s .far () 9 (x0.f1.map (GPlan.t q0 q0))), .one (.s .far () 9 (x1.f1.map (GPlan.t q1 q1)))] = some [(false, [tB true])], fun k => E.C k 45 [.one (.s .far () 5 (x0.f2.map (GRun.t q0))), .one (.s .far () 5 (x1.f2.map (GRun.t q1)))] = some [(false, [tB false])]] rfl rfl (fun k => by kernel_rfl) ⟨Does.to (T_l_eqSessionS x0.f0 x1.f0 h0 h1) (by rw [h2]), Does.to (T_l_eqPlanS x0.f1 x1.f1 h3 h4) (by rw [h5]), Does.to (T_l_eqRunS x0.f2 x1.f2 h6 h7) (by rw [h8]), trivial⟩
theorem l_eqBoard_P4 {q0 : Kd} {q1 : Kd} (x0 : GBoard) (x1 : GBoard) (h0 : x0.f0 = x1.f0) (h1 : Small.sm x0.f0) (h2 : (yes x0.f0 x1.f0) = true) (h3 : x0.f1 = x1.f1) (h4 : Small.sm x0.f1) (h5 : (yes x0.f1 x1.f1) = false) : Does E 16 [.agg (GBoard.t .far q0 x0), .agg (GBoard.t .far q1 x1)] [(false, [tB false])] :=
  Does.path (fn := Try.f16) [.ret [(false, [tB true])], .ret [(false, [tB false])]] [fun k => E.C k 43 [.one (.s .far () 3 (x0.f0.map GSession.t)), .one (.s .far () 3 (x1.f0.map GSession.t))] = some [(false, [tB true])], fun k => E.C k 44 [.one (.s .far () 9 (x0.f1.map (GPlan.t q0 q0))), .one (.s .far () 9 (x1.f1.map (GPlan.t q1 q1)))] = some [(false, [tB false])]] rfl rfl (fun k => by kernel_rfl) ⟨Does.to (T_l_eqSessionS x0.f0 x1.f0 h0 h1) (by rw [h2]), Does.to (T_l_eqPlanS x0.f1 x1.f1 h3 h4) (by rw [h5]), trivial⟩
theorem l_eqBoard_P5 {q0 : Kd} {q1 : Kd} (x0 : GBoard) (x1 : GBoard) (h0 : x0.f0 = x1.f0) (h1 : Small.sm x0.f0) (h2 : (yes x0.f0 x1.f0) = false) : Does E 16 [.agg (GBoard.t .far q0 x0), .agg (GBoard.t .far q1 x1)] [(false, [tB false])] :=
  Does.path (fn := Try.f16) [.ret [(false, [tB false])]] [fun k => E.C k 43 [.one (.s .far () 3 (x0.f0.map GSession.t)), .one (.s .far () 3 (x1.f0.map GSession.t))] = some [(false, [tB false])]] rfl rfl (fun k => by kernel_rfl) ⟨Does.to (T_l_eqSessionS x0.f0 x1.f0 h0 h1) (by rw [h2]), trivial⟩
noncomputable def l_eqBoard_F (x0 : GBoard) (x1 : GBoard) : Option (Bool) :=
    if x0.f0 = x1.f0 then if Small.sm x0.f0 then cond (yes x0.f0 x1.f0)
      (if x0.f1 = x1.f1 then if Small.sm x0.f1 then cond (yes x0.f1 x1.f1)
        (if x0.f2 = x1.f2 then if Small.sm x0.f2 then cond (yes x0.f2 x1.f2)
          (cond (x0.f3 != x1.f3)
            (some (false))
            (cond (x0.f4 != x1.f4)
              (some (false))
              (some (true))))
          (some (false)) else none else none)
        (some (false)) else none else none)
      (some (false)) else none else none
theorem l_eqBoard_D {q0 : Kd} {q1 : Kd} (x0 : GBoard) (x1 : GBoard) : Ans (l_eqBoard_F x0 x1) (fun r => Does E 16 [.agg (GBoard.t .far q0 x0), .agg (GBoard.t .far q1 x1)] [(false, [tB r])]) := by
  unfold l_eqBoard_F
  refine Ans.pre (fun h0 => ?_)
  refine Ans.pre (fun h1 => ?_)
  refine Ans.ite (fun h2 => ?_) (fun h2 => ?_)
  · refine Ans.pre (fun h3 => ?_)
    refine Ans.pre (fun h4 => ?_)
    refine Ans.ite (fun h5 => ?_) (fun h5 => ?_)
    · refine Ans.pre (fun h6 => ?_)
      refine Ans.pre (fun h7 => ?_)
      refine Ans.ite (fun h8 => ?_) (fun h8 => ?_)
      · refine Ans.ite (fun h9 => ?_) (fun h9 => ?_)
        · exact Ans.some (l_eqBoard_P0 (q0 := q0) (q1 := q1) x0 x1 h0 h1 h2 h3 h4 h5 h6 h7 h8 h9)
        · refine Ans.ite (fun h10 => ?_) (fun h10 => ?_)
          · exact Ans.some (l_eqBoard_P1 (q0 := q0) (q1 := q1) x0 x1 h0 h1 h2 h3 h4 h5 h6 h7 h8 h9 h10)
          · exact Ans.some (l_eqBoard_P2 (q0 := q0) (q1 := q1) x0 x1 h0 h1 h2 h3 h4 h5 h6 h7 h8 h9 h10)
      · exact Ans.some (l_eqBoard_P3 (q0 := q0) (q1 := q1) x0 x1 h0 h1 h2 h3 h4 h5 h6 h7 h8)
    · exact Ans.some (l_eqBoard_P4 (q0 := q0) (q1 := q1) x0 x1 h0 h1 h2 h3 h4 h5)
  · exact Ans.some (l_eqBoard_P5 (q0 := q0) (q1 := q1) x0 x1 h0 h1 h2)
theorem T_l_eqBoard {q0 : Kd} {q1 : Kd} (x0 : GBoard) (x1 : GBoard) (e : x0 = x1) (h : Small.sm x0) : Does E 16 [.agg (GBoard.t .far q0 x0), .agg (GBoard.t .far q1 x1)] [(false, [tB (yes x0 x1)])] := by
  subst e
  obtain ⟨w0, w1, w2⟩ := h
  exact l_eqBoard_D x0 x0 _ (by
    unfold l_eqBoard_F
    simp only [w0, w1, w2, if_true, yes, bne_self_eq_false, BEq.rfl, Bool.not_true, cond_false, cond_true])
end Go.Proofs.Ytohlonlaadmikaa.Am
namespace Go.Proofs.Ytohlonlaadmikaa.Am
set_option linter.unusedVariables false
set_option linter.unusedSimpArgs false
open Go Go.Proofs Classical
set_option maxRecDepth 100000
set_option linter.unusedVariables false
set_option linter.unusedSimpArgs false
def inRange (x a b : Int) : Bool := decide (x ≥ a) && decide (x ≤ b)
theorem s_l01In_P0 (x0 : Int) (x1 : Int) (x2 : Int) (h0 : (decide (x0 ≥ x1)) = true) : Does E 48 [.one (tI x0), .one (tI x1), .one (tI x2)] [(false, [tB (decide (x0 ≤ x2))])] :=
  Does.path (fn := Try.f48) [.b true] [fun _ => (decide (x0 ≥ x1)) = true] rfl rfl (fun k => by kernel_rfl) ⟨Ev.c h0, trivial⟩
theorem s_l01In_P1 (x0 : Int) (x1 : Int) (x2 : Int) (h0 : (decide (x0 ≥ x1)) = false) : Does E 48 [.one (tI x0), .one (tI x1), .one (tI x2)] [(false, [tB false])] :=
  Does.path (fn := Try.f48) [.b false] [fun _ => (decide (x0 ≥ x1)) = false] rfl rfl (fun k => by kernel_rfl) ⟨Ev.c h0, trivial⟩
noncomputable def s_l01In_F (x0 : Int) (x1 : Int) (x2 : Int) : Option (Bool) :=
    cond (decide (x0 ≥ x1))
      (some (decide (x0 ≤ x2)))
      (some (false))
theorem s_l01In_D (x0 : Int) (x1 : Int) (x2 : Int) : Ans (s_l01In_F x0 x1 x2) (fun r => Does E 48 [.one (tI x0), .one (tI x1), .one (tI x2)] [(false, [tB r])]) := by
  unfold s_l01In_F
  refine Ans.ite (fun h0 => ?_) (fun h0 => ?_)
  · exact Ans.some (s_l01In_P0 x0 x1 x2 h0)
  · exact Ans.some (s_l01In_P1 x0 x1 x2 h0)
theorem T_s_l01In (x0 : Int) (x1 : Int) (x2 : Int) : Does E 48 [.one (tI x0), .one (tI x1), .one (tI x2)] [(false, [tB (inRange x0 x1 x2)])] := by
  exact s_l01In_D x0 x1 x2 _ (by unfold s_l01In_F inRange; cases decide (x0 ≥ x1) <;> rfl)
theorem i_inRange_P0 (x0 : Int) (x1 : Int) (x2 : Int) (h0 : (decide (x0 ≥ x1)) = true) : Does E 49 [.one (tI x0), .one (tI x1), .one (tI x2)] [(false, [tB (decide (x0 ≤ x2))])] :=
  Does.path (fn := Try.f49) [.b true] [fun _ => (decide (x0 ≥ x1)) = true] rfl rfl (fun k => by kernel_rfl) ⟨Ev.c h0, trivial⟩
theorem i_inRange_P1 (x0 : Int) (x1 : Int) (x2 : Int) (h0 : (decide (x0 ≥ x1)) = false) : Does E 49 [.one (tI x0), .one (tI x1), .one (tI x2)] [(false, [tB false])] :=
  Does.path (fn := Try.f49) [.b false] [fun _ => (decide (x0 ≥ x1)) = false] rfl rfl (fun k => by kernel_rfl) ⟨Ev.c h0, trivial⟩
noncomputable def i_inRange_F (x0 : Int) (x1 : Int) (x2 : Int) : Option (Bool) :=
    cond (decide (x0 ≥ x1))
      (some (decide (x0 ≤ x2)))
      (some (false))
theorem i_inRange_D (x0 : Int) (x1 : Int) (x2 : Int) : Ans (i_inRange_F x0 x1 x2) (fun r => Does E 49 [.one (tI x0), .one (tI x1), .one (tI x2)] [(false, [tB r])]) := by
  unfold i_inRange_F
  refine Ans.ite (fun h0 => ?_) (fun h0 => ?_)
  · exact Ans.some (i_inRange_P0 x0 x1 x2 h0)
  · exact Ans.some (i_inRange_P1 x0 x1 x2 h0)
theorem T_i_inRange (x0 : Int) (x1 : Int) (x2 : Int) : Does E 49 [.one (tI x0), .one (tI x1), .one (tI x2)] [(false, [tB (inRange x0 x1 x2)])] := by
  exact i_inRange_D x0 x1 x2 _ (by unfold i_inRange_F inRange; cases decide (x0 ≥ x1) <;> rfl)
end Go.Proofs.Ytohlonlaadmikaa.Am
