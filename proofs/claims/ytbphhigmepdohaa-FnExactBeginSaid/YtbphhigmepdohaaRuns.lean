/- What the functions that measure, copy, compare and mark runs do. Conditions: none. -/
import Derived.Test.YtbphhigmepdohaaEnv
namespace Go.Proofs.Ytbphhigmepdohaa.Am
set_option linter.unusedVariables false
set_option linter.unusedSimpArgs false
open Go Go.Proofs Classical
set_option maxRecDepth 100000
set_option linter.unusedVariables false
set_option linter.unusedSimpArgs false
structure GSpan where
  f0 : Int
  f1 : Int
def GSpan.t (x : GSpan) : List (T Unit) := [tI x.f0, tI x.f1]
instance : Small GSpan := ⟨fun x => True⟩
instance : Wf GSpan := ⟨fun x => True⟩
structure GState where
  f0 : Int
  f1 : Int
  f2 : Int
  f3 : Int
def GState.t (x : GState) : List (T Unit) := [tI x.f0, tI x.f1, tI x.f2, tI x.f3]
instance : Small GState := ⟨fun x => True⟩
instance : Wf GState := ⟨fun x => True⟩
structure GRun where
  f0 : ByteArray
  f1 : GSpan
  f2 : Int
  f3 : List GState
def GRun.t (k : Kd) (x : GRun) : List (T Unit) := [tS x.f0] ++ GSpan.t x.f1 ++ [tI x.f2] ++ [.s k () 4 (x.f3.map GState.t)]
instance : Small GRun := ⟨fun x => Small.sm x.f0 ∧ Small.sm x.f1 ∧ Small.sm x.f3⟩
instance : Wf GRun := ⟨fun x => Wf.wf x.f0 ∧ Wf.wf x.f1 ∧ Wf.wf x.f3⟩
structure LRun where
  f0 : ByteArray
  f1 : GSpan
  f2 : Int
  f3 : List GState
def LRun.t (k : Kd) (x : LRun) : List (T Unit) := [tS x.f0] ++ GSpan.t x.f1 ++ [tI x.f2] ++ [.s k () 4 (x.f3.map GState.t)]
instance : Small LRun := ⟨fun x => Small.sm x.f0 ∧ Small.sm x.f1 ∧ Small.sm x.f3⟩
instance : Wf LRun := ⟨fun x => Wf.wf x.f0 ∧ Wf.wf x.f1 ∧ Wf.wf x.f3⟩
-- loop.example/g00188/laws.szStateS
theorem l_szStateS_P0 (x0 : List GState) (x1 : Int) (h0 : (decide ((IntKind.wrap .i64 (x1 - (x0.length : Int))) < (0 : Int))) = true) : Does E 76 [.one (.s .far () 4 (x0.map GState.t)), .one (tI x1)] [(false, [tI (-1 : Int)])] :=
  Does.path (fn := Try.f76) [.val (.int .i64 (x0.length : Int)), .no, .b true] [fun _ => ((x0.map GState.t).length : Int) = (x0.length : Int), fun _ => (decide ((IntKind.wrap .i64 (x1 - (x0.length : Int))) < (0 : Int))) = true] rfl rfl (fun k => by kernel_rfl) ⟨Ev.c lenMap, Ev.c h0, trivial⟩
theorem l_szStateS_P1 (x0 : List GState) (x1 : Int) (h0 : (decide ((IntKind.wrap .i64 (x1 - (x0.length : Int))) < (0 : Int))) = false) : Does E 76 [.one (.s .far () 4 (x0.map GState.t)), .one (tI x1)] [(false, [tI (IntKind.wrap .i64 (x1 - (x0.length : Int)))])] :=
  Does.path (fn := Try.f76) [.val (.int .i64 (x0.length : Int)), .no, .b false] [fun _ => ((x0.map GState.t).length : Int) = (x0.length : Int), fun _ => (decide ((IntKind.wrap .i64 (x1 - (x0.length : Int))) < (0 : Int))) = false] rfl rfl (fun k => by kernel_rfl) ⟨Ev.c lenMap, Ev.c h0, trivial⟩
noncomputable def l_szStateS_F (x0 : List GState) (x1 : Int) : Option (Int) :=
    cond (decide ((IntKind.wrap .i64 (x1 - (x0.length : Int))) < (0 : Int)))
      (some ((-1 : Int)))
      (some (IntKind.wrap .i64 (x1 - (x0.length : Int))))
theorem l_szStateS_D (x0 : List GState) (x1 : Int) : Ans (l_szStateS_F x0 x1) (fun r => Does E 76 [.one (.s .far () 4 (x0.map GState.t)), .one (tI x1)] [(false, [tI r])]) := by
  unfold l_szStateS_F
  refine Ans.ite (fun h0 => ?_) (fun h0 => ?_)
  · exact Ans.some (l_szStateS_P0 x0 x1 h0)
  · exact Ans.some (l_szStateS_P1 x0 x1 h0)
noncomputable def p_l_szStateS (x : List GState) (n : Int) : Int := (l_szStateS_F x n).getD (-1)
theorem tot_l_szStateS (x : List GState) (n : Int) (h : Wf.wf x) : l_szStateS_F x n = some (p_l_szStateS x n) := by
  refine Tot.getD ?_ _
  unfold l_szStateS_F
  refine Tot.cond (Tot.some _) ?_
  exact Tot.some _
theorem T_l_szStateS (x0 : List GState) (x1 : Int) (h : Wf.wf x0) : Does E 76 [.one (.s .far () 4 (x0.map GState.t)), .one (tI x1)] [(false, [tI (p_l_szStateS x0 x1)])] := by
  exact l_szStateS_D x0 x1 _ (tot_l_szStateS x0 x1 h)
theorem le_l_szStateS (x : List GState) (n : Int) (hw : Wf.wf x) (h0 : 0 ≤ n) (h1 : n ≤ 1048576) (h : 0 ≤ p_l_szStateS x n) : p_l_szStateS x n ≤ n ∧ Small.sm x := by
  have e := tot_l_szStateS x n hw
  generalize p_l_szStateS x n = r at *
  unfold l_szStateS_F at e
  obtain ⟨a1, e⟩ := szStep e h
  obtain ⟨b1, c1⟩ := szStr (n := n) (k := x.length) h0 h1 hw.1 a1
  cases e
  exact ⟨b1, small_of c1, fun y _ => trivial⟩
-- loop.example/g00188/laws.szRun
theorem l_szRun_P0 (x0 : LRun) (x1 : Int) (h0 : (decide ((IntKind.wrap .i64 (x1 - (x0.f0.size : Int))) < (0 : Int))) = true) : Does E 25 [.agg (LRun.t .far x0), .one (tI x1)] [(false, [tI (-1 : Int)])] :=
  Does.path (fn := Try.f25) [.no, .b true] [fun _ => (decide ((IntKind.wrap .i64 (x1 - (x0.f0.size : Int))) < (0 : Int))) = true] rfl rfl (fun k => by kernel_rfl) ⟨Ev.c h0, trivial⟩
theorem l_szRun_P1 (x0 : LRun) (x1 : Int) (h0 : (decide ((IntKind.wrap .i64 (x1 - (x0.f0.size : Int))) < (0 : Int))) = false) (h1 : Wf.wf x0.f3) (h2 : (decide ((p_l_szStateS x0.f3 (IntKind.wrap .i64 (x1 - (x0.f0.size : Int)))) < (0 : Int))) = true) : Does E 25 [.agg (LRun.t .far x0), .one (tI x1)] [(false, [tI (-1 : Int)])] :=
  Does.path (fn := Try.f25) [.no, .b false, .ret [(false, [tI (p_l_szStateS x0.f3 (IntKind.wrap .i64 (x1 - (x0.f0.size : Int))))])], .b true] [fun _ => (decide ((IntKind.wrap .i64 (x1 - (x0.f0.size : Int))) < (0 : Int))) = false, fun k => E.C k 76 [.one (.s .far () 4 (x0.f3.map GState.t)), .one (tI (IntKind.wrap .i64 (x1 - (x0.f0.size : Int))))] = some [(false, [tI (p_l_szStateS x0.f3 (IntKind.wrap .i64 (x1 - (x0.f0.size : Int))))])], fun _ => (decide ((p_l_szStateS x0.f3 (IntKind.wrap .i64 (x1 - (x0.f0.size : Int)))) < (0 : Int))) = true] rfl rfl (fun k => by kernel_rfl) ⟨Ev.c h0, T_l_szStateS x0.f3 (IntKind.wrap .i64 (x1 - (x0.f0.size : Int))) h1, Ev.c h2, trivial⟩
theorem l_szRun_P2 (x0 : LRun) (x1 : Int) (h0 : (decide ((IntKind.wrap .i64 (x1 - (x0.f0.size : Int))) < (0 : Int))) = false) (h1 : Wf.wf x0.f3) (h2 : (decide ((p_l_szStateS x0.f3 (IntKind.wrap .i64 (x1 - (x0.f0.size : Int)))) < (0 : Int))) = false) : Does E 25 [.agg (LRun.t .far x0), .one (tI x1)] [(false, [tI (p_l_szStateS x0.f3 (IntKind.wrap .i64 (x1 - (x0.f0.size : Int))))])] :=
  Does.path (fn := Try.f25) [.no, .b false, .ret [(false, [tI (p_l_szStateS x0.f3 (IntKind.wrap .i64 (x1 - (x0.f0.size : Int))))])], .b false] [fun _ => (decide ((IntKind.wrap .i64 (x1 - (x0.f0.size : Int))) < (0 : Int))) = false, fun k => E.C k 76 [.one (.s .far () 4 (x0.f3.map GState.t)), .one (tI (IntKind.wrap .i64 (x1 - (x0.f0.size : Int))))] = some [(false, [tI (p_l_szStateS x0.f3 (IntKind.wrap .i64 (x1 - (x0.f0.size : Int))))])], fun _ => (decide ((p_l_szStateS x0.f3 (IntKind.wrap .i64 (x1 - (x0.f0.size : Int)))) < (0 : Int))) = false] rfl rfl (fun k => by kernel_rfl) ⟨Ev.c h0, T_l_szStateS x0.f3 (IntKind.wrap .i64 (x1 - (x0.f0.size : Int))) h1, Ev.c h2, trivial⟩
noncomputable def l_szRun_F (x0 : LRun) (x1 : Int) : Option (Int) :=
    cond (decide ((IntKind.wrap .i64 (x1 - (x0.f0.size : Int))) < (0 : Int)))
      (some ((-1 : Int)))
      (if Wf.wf x0.f3 then cond (decide ((p_l_szStateS x0.f3 (IntKind.wrap .i64 (x1 - (x0.f0.size : Int)))) < (0 : Int)))
        (some ((-1 : Int)))
        (some (p_l_szStateS x0.f3 (IntKind.wrap .i64 (x1 - (x0.f0.size : Int))))) else none)
theorem l_szRun_D (x0 : LRun) (x1 : Int) : Ans (l_szRun_F x0 x1) (fun r => Does E 25 [.agg (LRun.t .far x0), .one (tI x1)] [(false, [tI r])]) := by
  unfold l_szRun_F
  refine Ans.ite (fun h0 => ?_) (fun h0 => ?_)
  · exact Ans.some (l_szRun_P0 x0 x1 h0)
  · refine Ans.pre (fun h1 => ?_)
    refine Ans.ite (fun h2 => ?_) (fun h2 => ?_)
    · exact Ans.some (l_szRun_P1 x0 x1 h0 h1 h2)
    · exact Ans.some (l_szRun_P2 x0 x1 h0 h1 h2)
noncomputable def p_l_szRun (x : LRun) (n : Int) : Int := (l_szRun_F x n).getD (-1)
theorem tot_l_szRun (x : LRun) (n : Int) (h : Wf.wf x) : l_szRun_F x n = some (p_l_szRun x n) := by
  obtain ⟨w0, w1, w3⟩ := h
  refine Tot.getD ?_ _
  unfold l_szRun_F
  repeat' (first | exact Tot.some _ | apply Tot.cond | refine Tot.ite (by assumption) ?_)
theorem T_l_szRun (x0 : LRun) (x1 : Int) (h : Wf.wf x0) : Does E 25 [.agg (LRun.t .far x0), .one (tI x1)] [(false, [tI (p_l_szRun x0 x1)])] := by
  exact l_szRun_D x0 x1 _ (tot_l_szRun x0 x1 h)
theorem le_l_szRun (x : LRun) (n : Int) (hw : Wf.wf x) (h0 : 0 ≤ n) (h1 : n ≤ 1048576) (h : 0 ≤ p_l_szRun x n) : p_l_szRun x n ≤ n ∧ Small.sm x := by
  have e := tot_l_szRun x n hw
  obtain ⟨w0, w1, w3⟩ := hw
  generalize p_l_szRun x n = r at *
  unfold l_szRun_F at e
  obtain ⟨a1, e⟩ := szStep e h
  obtain ⟨b1, c1⟩ := szStr (n := n) (k := x.f0.size) h0 (by omega) w0 a1
  generalize IntKind.wrap .i64 (n - (x.f0.size : Int)) = m1 at *
  try rw [if_pos w3] at e
  obtain ⟨a2, e⟩ := szStep e h
  try rw [if_pos w3] at e
  obtain ⟨b2, c2⟩ := le_l_szStateS x.f3 m1 w3 a1 (by omega) a2
  generalize p_l_szStateS x.f3 m1 = m2 at *
  cases e
  exact ⟨by omega, ⟨small_of c1, trivial, c2⟩⟩
-- loop.example/g00188/laws.toSpan
theorem l_toSpan_P0 (x0 : GSpan)  : Does E 77 [.agg (GSpan.t x0)] [(true, GSpan.t x0)] :=
  Does.path (fn := Try.f77) [] [] rfl rfl (fun k => by kernel_rfl) trivial
noncomputable def l_toSpan_F (x0 : GSpan) : Option (GSpan) :=
    some (x0)
theorem l_toSpan_D (x0 : GSpan) : Ans (l_toSpan_F x0) (fun r => Does E 77 [.agg (GSpan.t x0)] [(true, GSpan.t r)]) := by
  unfold l_toSpan_F
  exact Ans.some (l_toSpan_P0 x0)
def p_l_toSpan (x : GSpan) : GSpan := x
theorem T_l_toSpan (x0 : GSpan) (h : Small.sm x0) : Does E 77 [.agg (GSpan.t x0)] [(true, GSpan.t (p_l_toSpan x0))] := by
  skip
  exact l_toSpan_D x0 _ (by
    unfold l_toSpan_F
    repeat rw [if_pos (by assumption)]
    rfl)
-- loop.example/g00188/laws.toState
theorem l_toState_P0 (x0 : GState)  : Does E 133 [.agg (GState.t x0)] [(true, GState.t x0)] :=
  Does.path (fn := Try.f133) [] [] rfl rfl (fun k => by kernel_rfl) trivial
noncomputable def l_toState_F (x0 : GState) : Option (GState) :=
    some (x0)
theorem l_toState_D (x0 : GState) : Ans (l_toState_F x0) (fun r => Does E 133 [.agg (GState.t x0)] [(true, GState.t r)]) := by
  unfold l_toState_F
  exact Ans.some (l_toState_P0 x0)
def p_l_toState (x : GState) : GState := x
theorem T_l_toState (x0 : GState) (h : Small.sm x0) : Does E 133 [.agg (GState.t x0)] [(true, GState.t (p_l_toState x0))] := by
  skip
  exact l_toState_D x0 _ (by
    unfold l_toState_F
    repeat rw [if_pos (by assumption)]
    rfl)
-- loop.example/g00188/laws.toStateS
inductive l_toStateS_X0 where
  | x0 (v3 : List GState)
def l_toStateS_Q0 (v0 : List GState) (v3 : List GState) (v4 : Int) : l_toStateS_X0 → Prop
  | .x0 zv3 => Loops E 78 (lpAt Try.f78 0) (stL 23 [(0, .one (.s .far () 4 (v0.map GState.t))), (3, .one (.s .own () 4 (v3.map GState.t))), (4, .one (tI v4))]) (.exit 0) (stL 23 [(3, .one (.s .own () 4 (zv3.map GState.t)))])
theorem l_toStateS_R0_0 (v0 : List GState) (v3 : List GState) (v4 : Int) (g0 : GState) (g1 : GState) (h0 : (decide (v4 < (v0.length : Int))) = true) (h1 : getI v0 v4 = some g0) (h2 : Small.sm g0) (h3 : getI v3 v4 = some g1) : Round E 78 (lpAt Try.f78 0) (stL 23 [(0, .one (.s .far () 4 (v0.map GState.t))), (3, .one (.s .own () 4 (v3.map GState.t))), (4, .one (tI v4))]) .normal (stL 23 [(0, .one (.s .far () 4 (v0.map GState.t))), (3, .one (.s .own () 4 ((v3.set v4.toNat (p_l_toState g0)).map GState.t))), (4, .one (tI (inc v4)))]) :=
  Round.path [.val (.int .i64 (v0.length : Int)), .b true, .row (GState.t g0), .ret [(true, GState.t (p_l_toState g0))], .row (GState.t g1), .rows ((v3.set v4.toNat (p_l_toState g0)).map GState.t)] [fun _ => ((v0.map GState.t).length : Int) = (v0.length : Int), fun _ => (decide (v4 < (v0.length : Int))) = true, fun _ => 0 ≤ v4 ∧ (v0.map GState.t)[v4.toNat]? = some (GState.t g0), fun k => E.C k 133 [.agg (GState.t g0)] = some [(true, GState.t (p_l_toState g0))], fun _ => 0 ≤ v4 ∧ v4 < ((v3.map GState.t).length : Int), fun _ => (v3.map GState.t)[0 + v4.toNat]? = some (GState.t g1), fun _ => (v3.map GState.t).set (0 + v4.toNat) (spliceAt (GState.t g1) 0 [tI ((p_l_toState g0).f0), tI ((p_l_toState g0).f1), tI ((p_l_toState g0).f2), tI ((p_l_toState g0).f3)]) = (v3.set v4.toNat (p_l_toState g0)).map GState.t] (fun k => by kernel_rfl) ⟨Ev.c lenMap, Ev.c h0, Ev.c (getRow h1), T_l_toState g0 h2, Ev.c (getLt h3), Ev.c (getRow0 h3), Ev.c (setMap (by rfl)), trivial⟩
theorem l_toStateS_R0_1 (v0 : List GState) (v3 : List GState) (v4 : Int) (h0 : (decide (v4 < (v0.length : Int))) = false) : Round E 78 (lpAt Try.f78 0) (stL 23 [(0, .one (.s .far () 4 (v0.map GState.t))), (3, .one (.s .own () 4 (v3.map GState.t))), (4, .one (tI v4))]) (.exit 0) (stL 23 [(3, .one (.s .own () 4 (v3.map GState.t)))]) :=
  Round.path [.val (.int .i64 (v0.length : Int)), .b false] [fun _ => ((v0.map GState.t).length : Int) = (v0.length : Int), fun _ => (decide (v4 < (v0.length : Int))) = false] (fun k => by kernel_rfl) ⟨Ev.c lenMap, Ev.c h0, trivial⟩
noncomputable def l_toStateS_l0  : List GState → Nat → (List GState) → Option l_toStateS_X0
  | [], i, v3 => some (.x0 v3)
  | hd :: rest, i, v3 => if Small.sm hd then (getI v3 (i : Int)).bind fun g1 => l_toStateS_l0 rest (i + 1) (v3.set (i : Int).toNat (p_l_toState hd)) else none
theorem l_toStateS_L0 (v0 : List GState) (rest : List GState) : ∀ (i : Nat) (v3 : List GState), (v0).drop i = rest → v0.length ≤ 9223372036854775807 → Ans (l_toStateS_l0 rest i v3) (l_toStateS_Q0 v0 v3 (i : Int)) := by
  induction rest with
  | nil =>
    intro i v3 hE hl
    have hb := foldEnd hE
    unfold l_toStateS_l0
    exact Ans.some (Loops.stop (l_toStateS_R0_1 v0 v3 (i : Int) hb) (by intro h; cases h))
  | cons hd rest ih =>
    intro i v3 hE hl
    have hb := foldMore hE
    have hw := foldNext hE hl
    have hE2 := foldRest hE
    have hg := foldGet hE
    unfold l_toStateS_l0
    refine Ans.pre (fun h2 => ?_)
    refine Ans.bind (fun g1 h3 => ?_)
    exact (ih (i + 1) (v3.set (i : Int).toNat (p_l_toState hd)) hE2 hl).mono fun y hy => by
                                                                                have r := l_toStateS_R0_0 v0 v3 (i : Int) hd g1 hb hg h2 h3
                                                                                rw [hw] at r
                                                                                cases y <;> exact Loops.next r hy
theorem l_toStateS_P0 (x0 : List GState) (w0_3 : List GState) (h0 : 0 ≤ (x0.length : Int) ∧ (x0.length : Int) ≤ (x0.length : Int) ∧ ((32 : Nat) : Int) * (x0.length : Int) ≤ 281474976710656 ∧ (x0.length : Int) ≤ 4611686018427387904) (h1 : Loops E 78 (lpAt Try.f78 0) (stL 23 [(0, .one (.s .far () 4 (x0.map GState.t))), (3, .one (.s .own () 4 ((List.replicate (x0.length : Int).toNat (GState.mk (0 : Int) (0 : Int) (0 : Int) (0 : Int))).map GState.t))), (4, .one (tI (0 : Int)))]) (.exit 0) (stL 23 [(3, .one (.s .own () 4 (w0_3.map GState.t)))])) : Does E 78 [.one (.s .far () 4 (x0.map GState.t))] [(false, [.s .own () 4 (w0_3.map GState.t)])] :=
  Does.path (fn := Try.f78) [.val (.int .i64 (x0.length : Int)), .rows ((List.replicate (x0.length : Int).toNat (GState.mk (0 : Int) (0 : Int) (0 : Int) (0 : Int))).map GState.t), .lp (.exit 0) (stL 23 [(3, .one (.s .own () 4 (w0_3.map GState.t)))])] [fun _ => ((x0.map GState.t).length : Int) = (x0.length : Int), fun _ => 0 ≤ (x0.length : Int) ∧ (x0.length : Int) ≤ (x0.length : Int) ∧ ((32 : Nat) : Int) * (x0.length : Int) ≤ 281474976710656 ∧ (x0.length : Int) ≤ 4611686018427387904, fun _ => List.replicate (x0.length : Int).toNat [tI (0 : Int), tI (0 : Int), tI (0 : Int), tI (0 : Int)] = (List.replicate (x0.length : Int).toNat (GState.mk (0 : Int) (0 : Int) (0 : Int) (0 : Int))).map GState.t, fun k => LoopK E 78 (lpAt Try.f78 0) (stL 23 [(0, .one (.s .far () 4 (x0.map GState.t))), (3, .one (.s .own () 4 ((List.replicate (x0.length : Int).toNat (GState.mk (0 : Int) (0 : Int) (0 : Int) (0 : Int))).map GState.t))), (4, .one (tI (0 : Int)))]) (.exit 0) (stL 23 [(3, .one (.s .own () 4 (w0_3.map GState.t)))]) k k] rfl rfl (fun k => by kernel_rfl) ⟨Ev.c lenMap, Ev.c h0, Ev.c (repMap rfl), Loops.ev h1, trivial⟩
noncomputable def l_toStateS_F (x0 : List GState) : Option ((List GState)) :=
    if 0 ≤ (x0.length : Int) ∧ (x0.length : Int) ≤ (x0.length : Int) ∧ ((32 : Nat) : Int) * (x0.length : Int) ≤ 281474976710656 ∧ (x0.length : Int) ≤ 4611686018427387904 then if x0.length ≤ 9223372036854775807 then (l_toStateS_l0 x0 0 (List.replicate (x0.length : Int).toNat (GState.mk (0 : Int) (0 : Int) (0 : Int) (0 : Int)))).bind fun y => match y with
      | .x0 w0_3 => (some (w0_3)) else none else none
theorem l_toStateS_D (x0 : List GState) : Ans (l_toStateS_F x0) (fun r => Does E 78 [.one (.s .far () 4 (x0.map GState.t))] [(false, [.s .own () 4 (r.map GState.t)])]) := by
  unfold l_toStateS_F
  refine Ans.pre (fun h0 => ?_)
  refine Ans.pre (fun hl1 => ?_)
  refine Ans.bind (fun y hy => ?_)
  replace hy := l_toStateS_L0 x0 x0 0 (List.replicate (x0.length : Int).toNat (GState.mk (0 : Int) (0 : Int) (0 : Int) (0 : Int))) rfl hl1 y hy
  cases y with
  | x0 w0_3 =>
    have h1 := hy
    exact Ans.some (l_toStateS_P0 x0 w0_3 h0 h1)
def p_l_toStateS (l : List GState) : List GState := l
theorem cp_l_toStateS : ∀ (rest : List GState) (i : Nat) (v : List GState), (∀ y ∈ rest, Small.sm y) → v.length = i + rest.length → l_toStateS_l0 rest i v = some (.x0 (v.take i ++ rest))
  | [], i, v, _, hv => by unfold l_toStateS_l0; rw [List.take_of_length_le (by simp at hv; omega)]; simp
  | x :: rest, i, v, h, hv => by
    have hx := h x (by simp)
    have hi : i < v.length := by simp at hv; omega
    unfold l_toStateS_l0
    rw [getI_nat, List.getElem?_eq_getElem hi, Option.bind_some]
    try rw [if_pos hx]
    rw [Int.toNat_natCast, cp_l_toStateS rest (i + 1) _ (fun y hy => h y (by simp [hy])) (by simp at hv ⊢; omega), takeSet hi]
    simp [p_l_toState]
theorem T_l_toStateS (x0 : List GState) (h : Small.sm x0) : Does E 78 [.one (.s .far () 4 (x0.map GState.t))] [(false, [.s .own () 4 ((p_l_toStateS x0).map GState.t)])] := by
  exact l_toStateS_D x0 _ (by
    unfold l_toStateS_F
    rw [if_pos (makeOk 32 (by decide) h.1 rfl), if_pos (sm_wf_len h), cp_l_toStateS x0 0 _ h.2 (by simp)]
    simp [p_l_toStateS])
-- loop.example/g00188/laws.toRun
theorem l_toRun_P0 (x0 : LRun) (h0 : Small.sm x0.f1) (h1 : Small.sm x0.f3) : Does E 27 [.agg (LRun.t .far x0)] [(true, GRun.t .own (GRun.mk x0.f0 (p_l_toSpan x0.f1) x0.f2 (p_l_toStateS x0.f3)))] :=
  Does.path (fn := Try.f27) [.ret [(true, GSpan.t (p_l_toSpan x0.f1))], .ret [(false, [.s .own () 4 ((p_l_toStateS x0.f3).map GState.t)])]] [fun k => E.C k 77 [.agg (GSpan.t x0.f1)] = some [(true, GSpan.t (p_l_toSpan x0.f1))], fun k => E.C k 78 [.one (.s .far () 4 (x0.f3.map GState.t))] = some [(false, [.s .own () 4 ((p_l_toStateS x0.f3).map GState.t)])]] rfl rfl (fun k => by kernel_rfl) ⟨T_l_toSpan x0.f1 h0, T_l_toStateS x0.f3 h1, trivial⟩
noncomputable def l_toRun_F (x0 : LRun) : Option (GRun) :=
    if Small.sm x0.f1 then if Small.sm x0.f3 then some ((GRun.mk x0.f0 (p_l_toSpan x0.f1) x0.f2 (p_l_toStateS x0.f3))) else none else none
theorem l_toRun_D (x0 : LRun) : Ans (l_toRun_F x0) (fun r => Does E 27 [.agg (LRun.t .far x0)] [(true, GRun.t .own r)]) := by
  unfold l_toRun_F
  refine Ans.pre (fun h0 => ?_)
  refine Ans.pre (fun h1 => ?_)
  exact Ans.some (l_toRun_P0 x0 h0 h1)
def p_l_toRun (x : LRun) : GRun := ⟨x.f0, p_l_toSpan x.f1, x.f2, p_l_toStateS x.f3⟩
theorem sm_l_toRun {x : LRun} (h : Small.sm x) : Small.sm (p_l_toRun x) := by
  obtain ⟨w0, w1, w3⟩ := h
  exact ⟨w0, w1, w3⟩
theorem T_l_toRun (x0 : LRun) (h : Small.sm x0) : Does E 27 [.agg (LRun.t .far x0)] [(true, GRun.t .own (p_l_toRun x0))] := by
  obtain ⟨w0, w1, w3⟩ := h
  exact l_toRun_D x0 _ (by
    unfold l_toRun_F
    repeat rw [if_pos (by assumption)]
    rfl)
-- loop.example/g00188/laws.eqSpan
theorem l_eqSpan_P0 (x0 : GSpan) (x1 : GSpan) (h0 : (x0.f0 != x1.f0) = true) : Does E 60 [.agg (GSpan.t x0), .agg (GSpan.t x1)] [(false, [tB false])] :=
  Does.path (fn := Try.f60) [.b true] [fun _ => (x0.f0 != x1.f0) = true] rfl rfl (fun k => by kernel_rfl) ⟨Ev.c h0, trivial⟩
theorem l_eqSpan_P1 (x0 : GSpan) (x1 : GSpan) (h0 : (x0.f0 != x1.f0) = false) (h1 : (x0.f1 != x1.f1) = true) : Does E 60 [.agg (GSpan.t x0), .agg (GSpan.t x1)] [(false, [tB false])] :=
  Does.path (fn := Try.f60) [.b false, .b true] [fun _ => (x0.f0 != x1.f0) = false, fun _ => (x0.f1 != x1.f1) = true] rfl rfl (fun k => by kernel_rfl) ⟨Ev.c h0, Ev.c h1, trivial⟩
theorem l_eqSpan_P2 (x0 : GSpan) (x1 : GSpan) (h0 : (x0.f0 != x1.f0) = false) (h1 : (x0.f1 != x1.f1) = false) : Does E 60 [.agg (GSpan.t x0), .agg (GSpan.t x1)] [(false, [tB true])] :=
  Does.path (fn := Try.f60) [.b false, .b false] [fun _ => (x0.f0 != x1.f0) = false, fun _ => (x0.f1 != x1.f1) = false] rfl rfl (fun k => by kernel_rfl) ⟨Ev.c h0, Ev.c h1, trivial⟩
noncomputable def l_eqSpan_F (x0 : GSpan) (x1 : GSpan) : Option (Bool) :=
    cond (x0.f0 != x1.f0)
      (some (false))
      (cond (x0.f1 != x1.f1)
        (some (false))
        (some (true)))
theorem l_eqSpan_D (x0 : GSpan) (x1 : GSpan) : Ans (l_eqSpan_F x0 x1) (fun r => Does E 60 [.agg (GSpan.t x0), .agg (GSpan.t x1)] [(false, [tB r])]) := by
  unfold l_eqSpan_F
  refine Ans.ite (fun h0 => ?_) (fun h0 => ?_)
  · exact Ans.some (l_eqSpan_P0 x0 x1 h0)
  · refine Ans.ite (fun h1 => ?_) (fun h1 => ?_)
    · exact Ans.some (l_eqSpan_P1 x0 x1 h0 h1)
    · exact Ans.some (l_eqSpan_P2 x0 x1 h0 h1)
theorem T_l_eqSpan (x0 : GSpan) (x1 : GSpan) (e : x0 = x1) (h : Small.sm x0) : Does E 60 [.agg (GSpan.t x0), .agg (GSpan.t x1)] [(false, [tB (yes x0 x1)])] := by
  subst e
  skip
  exact l_eqSpan_D x0 x0 _ (by
    unfold l_eqSpan_F
    simp only [if_true, yes, bne_self_eq_false, BEq.rfl, Bool.not_true, cond_false, cond_true])
-- loop.example/g00188/laws.eqState
theorem l_eqState_P0 (x0 : GState) (x1 : GState) (h0 : (x0.f0 != x1.f0) = true) : Does E 135 [.agg (GState.t x0), .agg (GState.t x1)] [(false, [tB false])] :=
  Does.path (fn := Try.f135) [.b true] [fun _ => (x0.f0 != x1.f0) = true] rfl rfl (fun k => by kernel_rfl) ⟨Ev.c h0, trivial⟩
theorem l_eqState_P1 (x0 : GState) (x1 : GState) (h0 : (x0.f0 != x1.f0) = false) (h1 : (x0.f1 != x1.f1) = true) : Does E 135 [.agg (GState.t x0), .agg (GState.t x1)] [(false, [tB false])] :=
  Does.path (fn := Try.f135) [.b false, .b true] [fun _ => (x0.f0 != x1.f0) = false, fun _ => (x0.f1 != x1.f1) = true] rfl rfl (fun k => by kernel_rfl) ⟨Ev.c h0, Ev.c h1, trivial⟩
theorem l_eqState_P2 (x0 : GState) (x1 : GState) (h0 : (x0.f0 != x1.f0) = false) (h1 : (x0.f1 != x1.f1) = false) (h2 : (x0.f2 != x1.f2) = true) : Does E 135 [.agg (GState.t x0), .agg (GState.t x1)] [(false, [tB false])] :=
  Does.path (fn := Try.f135) [.b false, .b false, .b true] [fun _ => (x0.f0 != x1.f0) = false, fun _ => (x0.f1 != x1.f1) = false, fun _ => (x0.f2 != x1.f2) = true] rfl rfl (fun k => by kernel_rfl) ⟨Ev.c h0, Ev.c h1, Ev.c h2, trivial⟩
theorem l_eqState_P3 (x0 : GState) (x1 : GState) (h0 : (x0.f0 != x1.f0) = false) (h1 : (x0.f1 != x1.f1) = false) (h2 : (x0.f2 != x1.f2) = false) (h3 : (x0.f3 != x1.f3) = true) : Does E 135 [.agg (GState.t x0), .agg (GState.t x1)] [(false, [tB false])] :=
  Does.path (fn := Try.f135) [.b false, .b false, .b false, .b true] [fun _ => (x0.f0 != x1.f0) = false, fun _ => (x0.f1 != x1.f1) = false, fun _ => (x0.f2 != x1.f2) = false, fun _ => (x0.f3 != x1.f3) = true] rfl rfl (fun k => by kernel_rfl) ⟨Ev.c h0, Ev.c h1, Ev.c h2, Ev.c h3, trivial⟩
theorem l_eqState_P4 (x0 : GState) (x1 : GState) (h0 : (x0.f0 != x1.f0) = false) (h1 : (x0.f1 != x1.f1) = false) (h2 : (x0.f2 != x1.f2) = false) (h3 : (x0.f3 != x1.f3) = false) : Does E 135 [.agg (GState.t x0), .agg (GState.t x1)] [(false, [tB true])] :=
  Does.path (fn := Try.f135) [.b false, .b false, .b false, .b false] [fun _ => (x0.f0 != x1.f0) = false, fun _ => (x0.f1 != x1.f1) = false, fun _ => (x0.f2 != x1.f2) = false, fun _ => (x0.f3 != x1.f3) = false] rfl rfl (fun k => by kernel_rfl) ⟨Ev.c h0, Ev.c h1, Ev.c h2, Ev.c h3, trivial⟩
noncomputable def l_eqState_F (x0 : GState) (x1 : GState) : Option (Bool) :=
    cond (x0.f0 != x1.f0)
      (some (false))
      (cond (x0.f1 != x1.f1)
        (some (false))
        (cond (x0.f2 != x1.f2)
          (some (false))
          (cond (x0.f3 != x1.f3)
            (some (false))
            (some (true)))))
theorem l_eqState_D (x0 : GState) (x1 : GState) : Ans (l_eqState_F x0 x1) (fun r => Does E 135 [.agg (GState.t x0), .agg (GState.t x1)] [(false, [tB r])]) := by
  unfold l_eqState_F
  refine Ans.ite (fun h0 => ?_) (fun h0 => ?_)
  · exact Ans.some (l_eqState_P0 x0 x1 h0)
  · refine Ans.ite (fun h1 => ?_) (fun h1 => ?_)
    · exact Ans.some (l_eqState_P1 x0 x1 h0 h1)
    · refine Ans.ite (fun h2 => ?_) (fun h2 => ?_)
      · exact Ans.some (l_eqState_P2 x0 x1 h0 h1 h2)
      · refine Ans.ite (fun h3 => ?_) (fun h3 => ?_)
        · exact Ans.some (l_eqState_P3 x0 x1 h0 h1 h2 h3)
        · exact Ans.some (l_eqState_P4 x0 x1 h0 h1 h2 h3)
theorem T_l_eqState (x0 : GState) (x1 : GState) (e : x0 = x1) (h : Small.sm x0) : Does E 135 [.agg (GState.t x0), .agg (GState.t x1)] [(false, [tB (yes x0 x1)])] := by
  subst e
  skip
  exact l_eqState_D x0 x0 _ (by
    unfold l_eqState_F
    simp only [if_true, yes, bne_self_eq_false, BEq.rfl, Bool.not_true, cond_false, cond_true])
-- loop.example/g00188/laws.eqStateS
inductive l_eqStateS_X0 where
  | ret (v4 : Bool)
  | x0 
def l_eqStateS_Q0 (v0 : List GState) (v1 : List GState) (v5 : Int) : l_eqStateS_X0 → Prop
  | .ret zv4 => Loops E 81 (lpAt Try.f81 0) (stL 27 [(0, .one (.s .far () 4 (v0.map GState.t))), (1, .one (.s .far () 4 (v1.map GState.t))), (5, .one (tI v5))]) .ret (stL 27 [(4, .one (tB zv4))])
  | .x0 => Loops E 81 (lpAt Try.f81 0) (stL 27 [(0, .one (.s .far () 4 (v0.map GState.t))), (1, .one (.s .far () 4 (v1.map GState.t))), (5, .one (tI v5))]) (.exit 0) (stL 27 [])
theorem l_eqStateS_R0_0 (v0 : List GState) (v1 : List GState) (v5 : Int) (g0 : GState) (g1 : GState) (h0 : (decide (v5 < (v0.length : Int))) = true) (h1 : getI v0 v5 = some g0) (h2 : getI v1 v5 = some g1) (h3 : g0 = g1) (h4 : Small.sm g0) (h5 : (yes g0 g1) = true) : Round E 81 (lpAt Try.f81 0) (stL 27 [(0, .one (.s .far () 4 (v0.map GState.t))), (1, .one (.s .far () 4 (v1.map GState.t))), (5, .one (tI v5))]) .normal (stL 27 [(0, .one (.s .far () 4 (v0.map GState.t))), (1, .one (.s .far () 4 (v1.map GState.t))), (5, .one (tI (inc v5)))]) :=
  Round.path [.val (.int .i64 (v0.length : Int)), .b true, .row (GState.t g0), .row (GState.t g1), .ret [(false, [tB true])]] [fun _ => ((v0.map GState.t).length : Int) = (v0.length : Int), fun _ => (decide (v5 < (v0.length : Int))) = true, fun _ => 0 ≤ v5 ∧ (v0.map GState.t)[v5.toNat]? = some (GState.t g0), fun _ => 0 ≤ v5 ∧ (v1.map GState.t)[v5.toNat]? = some (GState.t g1), fun k => E.C k 135 [.agg (GState.t g0), .agg (GState.t g1)] = some [(false, [tB true])]] (fun k => by kernel_rfl) ⟨Ev.c lenMap, Ev.c h0, Ev.c (getRow h1), Ev.c (getRow h2), Does.to (T_l_eqState g0 g1 h3 h4) (by rw [h5]), trivial⟩
theorem l_eqStateS_R0_1 (v0 : List GState) (v1 : List GState) (v5 : Int) (g0 : GState) (g1 : GState) (h0 : (decide (v5 < (v0.length : Int))) = true) (h1 : getI v0 v5 = some g0) (h2 : getI v1 v5 = some g1) (h3 : g0 = g1) (h4 : Small.sm g0) (h5 : (yes g0 g1) = false) : Round E 81 (lpAt Try.f81 0) (stL 27 [(0, .one (.s .far () 4 (v0.map GState.t))), (1, .one (.s .far () 4 (v1.map GState.t))), (5, .one (tI v5))]) .ret (stL 27 [(4, .one (tB false))]) :=
  Round.path [.val (.int .i64 (v0.length : Int)), .b true, .row (GState.t g0), .row (GState.t g1), .ret [(false, [tB false])]] [fun _ => ((v0.map GState.t).length : Int) = (v0.length : Int), fun _ => (decide (v5 < (v0.length : Int))) = true, fun _ => 0 ≤ v5 ∧ (v0.map GState.t)[v5.toNat]? = some (GState.t g0), fun _ => 0 ≤ v5 ∧ (v1.map GState.t)[v5.toNat]? = some (GState.t g1), fun k => E.C k 135 [.agg (GState.t g0), .agg (GState.t g1)] = some [(false, [tB false])]] (fun k => by kernel_rfl) ⟨Ev.c lenMap, Ev.c h0, Ev.c (getRow h1), Ev.c (getRow h2), Does.to (T_l_eqState g0 g1 h3 h4) (by rw [h5]), trivial⟩
theorem l_eqStateS_R0_2 (v0 : List GState) (v1 : List GState) (v5 : Int) (h0 : (decide (v5 < (v0.length : Int))) = false) : Round E 81 (lpAt Try.f81 0) (stL 27 [(0, .one (.s .far () 4 (v0.map GState.t))), (1, .one (.s .far () 4 (v1.map GState.t))), (5, .one (tI v5))]) (.exit 0) (stL 27 []) :=
  Round.path [.val (.int .i64 (v0.length : Int)), .b false] [fun _ => ((v0.map GState.t).length : Int) = (v0.length : Int), fun _ => (decide (v5 < (v0.length : Int))) = false] (fun k => by kernel_rfl) ⟨Ev.c lenMap, Ev.c h0, trivial⟩
noncomputable def l_eqStateS_l0 (v1 : List GState) : List GState → Nat → Option l_eqStateS_X0
  | [], i => some (.x0)
  | hd :: rest, i => (getI v1 (i : Int)).bind fun g1 => if hd = g1 then if Small.sm hd then cond (yes hd g1)
    (l_eqStateS_l0 v1 rest (i + 1))
    (some (.ret false)) else none else none
theorem l_eqStateS_L0 (v0 : List GState) (v1 : List GState) (rest : List GState) : ∀ (i : Nat) , (v0).drop i = rest → v0.length ≤ 9223372036854775807 → Ans (l_eqStateS_l0 v1 rest i) (l_eqStateS_Q0 v0 v1 (i : Int)) := by
  induction rest with
  | nil =>
    intro i hE hl
    have hb := foldEnd hE
    unfold l_eqStateS_l0
    exact Ans.some (Loops.stop (l_eqStateS_R0_2 v0 v1 (i : Int) hb) (by intro h; cases h))
  | cons hd rest ih =>
    intro i hE hl
    have hb := foldMore hE
    have hw := foldNext hE hl
    have hE2 := foldRest hE
    have hg := foldGet hE
    unfold l_eqStateS_l0
    refine Ans.bind (fun g1 h2 => ?_)
    refine Ans.pre (fun h3 => ?_)
    refine Ans.pre (fun h4 => ?_)
    refine Ans.ite (fun h5 => ?_) (fun h5 => ?_)
    · exact (ih (i + 1) hE2 hl).mono fun y hy => by
                                                                                have r := l_eqStateS_R0_0 v0 v1 (i : Int) hd g1 hb hg h2 h3 h4 h5
                                                                                rw [hw] at r
                                                                                cases y <;> exact Loops.next r hy
    · exact Ans.some (Loops.stop (l_eqStateS_R0_1 v0 v1 (i : Int) hd g1 hb hg h2 h3 h4 h5) (by intro h; cases h))
theorem l_eqStateS_P0 (x0 : List GState) (x1 : List GState) (h0 : ((x0.length : Int) != (x1.length : Int)) = true) : Does E 81 [.one (.s .far () 4 (x0.map GState.t)), .one (.s .far () 4 (x1.map GState.t))] [(false, [tB false])] :=
  Does.path (fn := Try.f81) [.val (.int .i64 (x0.length : Int)), .val (.int .i64 (x1.length : Int)), .b true] [fun _ => ((x0.map GState.t).length : Int) = (x0.length : Int), fun _ => ((x1.map GState.t).length : Int) = (x1.length : Int), fun _ => ((x0.length : Int) != (x1.length : Int)) = true] rfl rfl (fun k => by kernel_rfl) ⟨Ev.c lenMap, Ev.c lenMap, Ev.c h0, trivial⟩
theorem l_eqStateS_P1 (x0 : List GState) (x1 : List GState) (w0_4 : Bool) (h0 : ((x0.length : Int) != (x1.length : Int)) = false) (h1 : Loops E 81 (lpAt Try.f81 0) (stL 27 [(0, .one (.s .far () 4 (x0.map GState.t))), (1, .one (.s .far () 4 (x1.map GState.t))), (5, .one (tI (0 : Int)))]) .ret (stL 27 [(4, .one (tB w0_4))])) : Does E 81 [.one (.s .far () 4 (x0.map GState.t)), .one (.s .far () 4 (x1.map GState.t))] [(false, [tB w0_4])] :=
  Does.path (fn := Try.f81) [.val (.int .i64 (x0.length : Int)), .val (.int .i64 (x1.length : Int)), .b false, .lp .ret (stL 27 [(4, .one (tB w0_4))])] [fun _ => ((x0.map GState.t).length : Int) = (x0.length : Int), fun _ => ((x1.map GState.t).length : Int) = (x1.length : Int), fun _ => ((x0.length : Int) != (x1.length : Int)) = false, fun k => LoopK E 81 (lpAt Try.f81 0) (stL 27 [(0, .one (.s .far () 4 (x0.map GState.t))), (1, .one (.s .far () 4 (x1.map GState.t))), (5, .one (tI (0 : Int)))]) .ret (stL 27 [(4, .one (tB w0_4))]) k k] rfl rfl (fun k => by kernel_rfl) ⟨Ev.c lenMap, Ev.c lenMap, Ev.c h0, Loops.ev h1, trivial⟩
theorem l_eqStateS_P2 (x0 : List GState) (x1 : List GState) (h0 : ((x0.length : Int) != (x1.length : Int)) = false) (h1 : Loops E 81 (lpAt Try.f81 0) (stL 27 [(0, .one (.s .far () 4 (x0.map GState.t))), (1, .one (.s .far () 4 (x1.map GState.t))), (5, .one (tI (0 : Int)))]) (.exit 0) (stL 27 [])) : Does E 81 [.one (.s .far () 4 (x0.map GState.t)), .one (.s .far () 4 (x1.map GState.t))] [(false, [tB true])] :=
  Does.path (fn := Try.f81) [.val (.int .i64 (x0.length : Int)), .val (.int .i64 (x1.length : Int)), .b false, .lp (.exit 0) (stL 27 [])] [fun _ => ((x0.map GState.t).length : Int) = (x0.length : Int), fun _ => ((x1.map GState.t).length : Int) = (x1.length : Int), fun _ => ((x0.length : Int) != (x1.length : Int)) = false, fun k => LoopK E 81 (lpAt Try.f81 0) (stL 27 [(0, .one (.s .far () 4 (x0.map GState.t))), (1, .one (.s .far () 4 (x1.map GState.t))), (5, .one (tI (0 : Int)))]) (.exit 0) (stL 27 []) k k] rfl rfl (fun k => by kernel_rfl) ⟨Ev.c lenMap, Ev.c lenMap, Ev.c h0, Loops.ev h1, trivial⟩
noncomputable def l_eqStateS_F (x0 : List GState) (x1 : List GState) : Option (Bool) :=
    cond ((x0.length : Int) != (x1.length : Int))
      (some (false))
      (if x0.length ≤ 9223372036854775807 then (l_eqStateS_l0 x1 x0 0).bind fun y => match y with
        | .ret w0_4 => (some (w0_4))
        | .x0 => (some (true)) else none)
theorem l_eqStateS_D (x0 : List GState) (x1 : List GState) : Ans (l_eqStateS_F x0 x1) (fun r => Does E 81 [.one (.s .far () 4 (x0.map GState.t)), .one (.s .far () 4 (x1.map GState.t))] [(false, [tB r])]) := by
  unfold l_eqStateS_F
  refine Ans.ite (fun h0 => ?_) (fun h0 => ?_)
  · exact Ans.some (l_eqStateS_P0 x0 x1 h0)
  · refine Ans.pre (fun hl2 => ?_)
    refine Ans.bind (fun y hy => ?_)
    replace hy := l_eqStateS_L0 x0 x1 x0 0 rfl hl2 y hy
    cases y with
    | ret w0_4 =>
      have h1 := hy
      exact Ans.some (l_eqStateS_P1 x0 x1 w0_4 h0 h1)
    | x0 =>
      have h1 := hy
      exact Ans.some (l_eqStateS_P2 x0 x1 h0 h1)
theorem el_l_eqStateS (l : List GState) : ∀ (rest : List GState) (i : Nat), l.drop i = rest → (∀ y ∈ rest, Small.sm y) → l_eqStateS_l0 l rest i = some .x0
  | [], i, _, _ => rfl
  | x :: rest, i, hE, h => by
    have hx := h x (by simp)
    unfold l_eqStateS_l0
    rw [foldGet hE, Option.bind_some]
    simp only [hx, if_true, yes, bne_self_eq_false, BEq.rfl, Bool.not_true, cond_false, cond_true]
    exact el_l_eqStateS l rest (i + 1) (foldRest hE) (fun y hy => h y (by simp [hy]))
theorem T_l_eqStateS (x0 : List GState) (x1 : List GState) (e : x0 = x1) (h : Small.sm x0) : Does E 81 [.one (.s .far () 4 (x0.map GState.t)), .one (.s .far () 4 (x1.map GState.t))] [(false, [tB (yes x0 x1)])] := by
  subst e
  exact l_eqStateS_D x0 x0 _ (by
    unfold l_eqStateS_F
    rw [if_pos (sm_wf_len h), el_l_eqStateS x0 x0 0 rfl h.2]
    simp [yes])
-- loop.example/g00188/laws.eqRun
theorem l_eqRun_P0 (x0 : GRun) (x1 : GRun) (h0 : (!(x0.f0.toList == x1.f0.toList)) = true) : Does E 29 [.agg (GRun.t .far x0), .agg (GRun.t .far x1)] [(false, [tB false])] :=
  Does.path (fn := Try.f29) [.b true] [fun _ => (!(x0.f0.toList == x1.f0.toList)) = true] rfl rfl (fun k => by kernel_rfl) ⟨Ev.c h0, trivial⟩
theorem l_eqRun_P1 (x0 : GRun) (x1 : GRun) (h0 : (!(x0.f0.toList == x1.f0.toList)) = false) (h1 : x0.f1 = x1.f1) (h2 : Small.sm x0.f1) (h3 : (yes x0.f1 x1.f1) = true) (h4 : (x0.f2 != x1.f2) = true) : Does E 29 [.agg (GRun.t .far x0), .agg (GRun.t .far x1)] [(false, [tB false])] :=
  Does.path (fn := Try.f29) [.b false, .ret [(false, [tB true])], .b true] [fun _ => (!(x0.f0.toList == x1.f0.toList)) = false, fun k => E.C k 60 [.agg (GSpan.t x0.f1), .agg (GSpan.t x1.f1)] = some [(false, [tB true])], fun _ => (x0.f2 != x1.f2) = true] rfl rfl (fun k => by kernel_rfl) ⟨Ev.c h0, Does.to (T_l_eqSpan x0.f1 x1.f1 h1 h2) (by rw [h3]), Ev.c h4, trivial⟩
theorem l_eqRun_P2 (x0 : GRun) (x1 : GRun) (h0 : (!(x0.f0.toList == x1.f0.toList)) = false) (h1 : x0.f1 = x1.f1) (h2 : Small.sm x0.f1) (h3 : (yes x0.f1 x1.f1) = true) (h4 : (x0.f2 != x1.f2) = false) (h5 : x0.f3 = x1.f3) (h6 : Small.sm x0.f3) (h7 : (yes x0.f3 x1.f3) = true) : Does E 29 [.agg (GRun.t .far x0), .agg (GRun.t .far x1)] [(false, [tB true])] :=
  Does.path (fn := Try.f29) [.b false, .ret [(false, [tB true])], .b false, .ret [(false, [tB true])]] [fun _ => (!(x0.f0.toList == x1.f0.toList)) = false, fun k => E.C k 60 [.agg (GSpan.t x0.f1), .agg (GSpan.t x1.f1)] = some [(false, [tB true])], fun _ => (x0.f2 != x1.f2) = false, fun k => E.C k 81 [.one (.s .far () 4 (x0.f3.map GState.t)), .one (.s .far () 4 (x1.f3.map GState.t))] = some [(false, [tB true])]] rfl rfl (fun k => by kernel_rfl) ⟨Ev.c h0, Does.to (T_l_eqSpan x0.f1 x1.f1 h1 h2) (by rw [h3]), Ev.c h4, Does.to (T_l_eqStateS x0.f3 x1.f3 h5 h6) (by rw [h7]), trivial⟩
theorem l_eqRun_P3 (x0 : GRun) (x1 : GRun) (h0 : (!(x0.f0.toList == x1.f0.toList)) = false) (h1 : x0.f1 = x1.f1) (h2 : Small.sm x0.f1) (h3 : (yes x0.f1 x1.f1) = true) (h4 : (x0.f2 != x1.f2) = false) (h5 : x0.f3 = x1.f3) (h6 : Small.sm x0.f3) (h7 : (yes x0.f3 x1.f3) = false) : Does E 29 [.agg (GRun.t .far x0), .agg (GRun.t .far x1)] [(false, [tB false])] :=
  Does.path (fn := Try.f29) [.b false, .ret [(false, [tB true])], .b false, .ret [(false, [tB false])]] [fun _ => (!(x0.f0.toList == x1.f0.toList)) = false, fun k => E.C k 60 [.agg (GSpan.t x0.f1), .agg (GSpan.t x1.f1)] = some [(false, [tB true])], fun _ => (x0.f2 != x1.f2) = false, fun k => E.C k 81 [.one (.s .far () 4 (x0.f3.map GState.t)), .one (.s .far () 4 (x1.f3.map GState.t))] = some [(false, [tB false])]] rfl rfl (fun k => by kernel_rfl) ⟨Ev.c h0, Does.to (T_l_eqSpan x0.f1 x1.f1 h1 h2) (by rw [h3]), Ev.c h4, Does.to (T_l_eqStateS x0.f3 x1.f3 h5 h6) (by rw [h7]), trivial⟩
theorem l_eqRun_P4 (x0 : GRun) (x1 : GRun) (h0 : (!(x0.f0.toList == x1.f0.toList)) = false) (h1 : x0.f1 = x1.f1) (h2 : Small.sm x0.f1) (h3 : (yes x0.f1 x1.f1) = false) : Does E 29 [.agg (GRun.t .far x0), .agg (GRun.t .far x1)] [(false, [tB false])] :=
  Does.path (fn := Try.f29) [.b false, .ret [(false, [tB false])]] [fun _ => (!(x0.f0.toList == x1.f0.toList)) = false, fun k => E.C k 60 [.agg (GSpan.t x0.f1), .agg (GSpan.t x1.f1)] = some [(false, [tB false])]] rfl rfl (fun k => by kernel_rfl) ⟨Ev.c h0, Does.to (T_l_eqSpan x0.f1 x1.f1 h1 h2) (by rw [h3]), trivial⟩
noncomputable def l_eqRun_F (x0 : GRun) (x1 : GRun) : Option (Bool) :=
    cond (!(x0.f0.toList == x1.f0.toList))
      (some (false))
      (if x0.f1 = x1.f1 then if Small.sm x0.f1 then cond (yes x0.f1 x1.f1)
        (cond (x0.f2 != x1.f2)
          (some (false))
          (if x0.f3 = x1.f3 then if Small.sm x0.f3 then cond (yes x0.f3 x1.f3)
            (some (true))
            (some (false)) else none else none))
        (some (false)) else none else none)
theorem l_eqRun_D (x0 : GRun) (x1 : GRun) : Ans (l_eqRun_F x0 x1) (fun r => Does E 29 [.agg (GRun.t .far x0), .agg (GRun.t .far x1)] [(false, [tB r])]) := by
  unfold l_eqRun_F
  refine Ans.ite (fun h0 => ?_) (fun h0 => ?_)
  · exact Ans.some (l_eqRun_P0 x0 x1 h0)
  · refine Ans.pre (fun h1 => ?_)
    refine Ans.pre (fun h2 => ?_)
    refine Ans.ite (fun h3 => ?_) (fun h3 => ?_)
    · refine Ans.ite (fun h4 => ?_) (fun h4 => ?_)
      · exact Ans.some (l_eqRun_P1 x0 x1 h0 h1 h2 h3 h4)
      · refine Ans.pre (fun h5 => ?_)
        refine Ans.pre (fun h6 => ?_)
        refine Ans.ite (fun h7 => ?_) (fun h7 => ?_)
        · exact Ans.some (l_eqRun_P2 x0 x1 h0 h1 h2 h3 h4 h5 h6 h7)
        · exact Ans.some (l_eqRun_P3 x0 x1 h0 h1 h2 h3 h4 h5 h6 h7)
    · exact Ans.some (l_eqRun_P4 x0 x1 h0 h1 h2 h3)
theorem T_l_eqRun (x0 : GRun) (x1 : GRun) (e : x0 = x1) (h : Small.sm x0) : Does E 29 [.agg (GRun.t .far x0), .agg (GRun.t .far x1)] [(false, [tB (yes x0 x1)])] := by
  subst e
  obtain ⟨w0, w1, w3⟩ := h
  exact l_eqRun_D x0 x0 _ (by
    unfold l_eqRun_F
    simp only [w1, w3, if_true, yes, bne_self_eq_false, BEq.rfl, Bool.not_true, cond_false, cond_true])
-- loop.example/g00188/laws.markStateS
inductive l_markStateS_X0 where
  | x0 (v0 : List GState) (v1 : Int)
def l_markStateS_Q0 (v0 : List GState) (v1 : Int) (v5 : Int) : l_markStateS_X0 → Prop
  | .x0 zv0 zv1 => Loops E 109 (lpAt Try.f109 0) (stL 41 [(0, .one (.s .own () 4 (v0.map GState.t))), (1, .one (tI v1)), (5, .one (tI v5))]) (.exit 0) (stL 41 [(0, .one (.s .own () 4 (zv0.map GState.t))), (1, .one (tI zv1))])
theorem l_markStateS_R0_0 (v0 : List GState) (v1 : Int) (v5 : Int) (g0 : GState) (h0 : (decide (v5 < (v0.length : Int))) = true) (h1 : getI v0 v5 = some g0) : Round E 109 (lpAt Try.f109 0) (stL 41 [(0, .one (.s .own () 4 (v0.map GState.t))), (1, .one (tI v1)), (5, .one (tI v5))]) .normal (stL 41 [(0, .one (.s .own () 4 ((v0.set v5.toNat (GState.mk v1 (inc v1) (inc (inc v1)) (inc (inc (inc v1))))).map GState.t))), (1, .one (tI (inc (inc (inc (inc v1)))))), (5, .one (tI (inc v5)))]) :=
  Round.path [.val (.int .i64 (v0.length : Int)), .b true, .row (GState.t g0), .rows ((v0.set v5.toNat (GState.mk v1 g0.f1 g0.f2 g0.f3)).map GState.t), .row (GState.t (GState.mk v1 g0.f1 g0.f2 g0.f3)), .rows ((v0.set v5.toNat (GState.mk v1 (inc v1) g0.f2 g0.f3)).map GState.t), .row (GState.t (GState.mk v1 (inc v1) g0.f2 g0.f3)), .rows ((v0.set v5.toNat (GState.mk v1 (inc v1) (inc (inc v1)) g0.f3)).map GState.t), .row (GState.t (GState.mk v1 (inc v1) (inc (inc v1)) g0.f3)), .rows ((v0.set v5.toNat (GState.mk v1 (inc v1) (inc (inc v1)) (inc (inc (inc v1))))).map GState.t)] [fun _ => ((v0.map GState.t).length : Int) = (v0.length : Int), fun _ => (decide (v5 < (v0.length : Int))) = true, fun _ => 0 ≤ v5 ∧ v5 < ((v0.map GState.t).length : Int), fun _ => (v0.map GState.t)[0 + v5.toNat]? = some (GState.t g0), fun _ => (v0.map GState.t).set (0 + v5.toNat) (spliceAt (GState.t g0) 0 [tI v1]) = (v0.set v5.toNat (GState.mk v1 g0.f1 g0.f2 g0.f3)).map GState.t, fun _ => 0 ≤ v5 ∧ v5 < (((v0.set v5.toNat (GState.mk v1 g0.f1 g0.f2 g0.f3)).map GState.t).length : Int), fun _ => ((v0.set v5.toNat (GState.mk v1 g0.f1 g0.f2 g0.f3)).map GState.t)[0 + v5.toNat]? = some (GState.t (GState.mk v1 g0.f1 g0.f2 g0.f3)), fun _ => ((v0.set v5.toNat (GState.mk v1 g0.f1 g0.f2 g0.f3)).map GState.t).set (0 + v5.toNat) (spliceAt (GState.t (GState.mk v1 g0.f1 g0.f2 g0.f3)) 1 [tI (inc v1)]) = (v0.set v5.toNat (GState.mk v1 (inc v1) g0.f2 g0.f3)).map GState.t, fun _ => 0 ≤ v5 ∧ v5 < (((v0.set v5.toNat (GState.mk v1 (inc v1) g0.f2 g0.f3)).map GState.t).length : Int), fun _ => ((v0.set v5.toNat (GState.mk v1 (inc v1) g0.f2 g0.f3)).map GState.t)[0 + v5.toNat]? = some (GState.t (GState.mk v1 (inc v1) g0.f2 g0.f3)), fun _ => ((v0.set v5.toNat (GState.mk v1 (inc v1) g0.f2 g0.f3)).map GState.t).set (0 + v5.toNat) (spliceAt (GState.t (GState.mk v1 (inc v1) g0.f2 g0.f3)) 2 [tI (inc (inc v1))]) = (v0.set v5.toNat (GState.mk v1 (inc v1) (inc (inc v1)) g0.f3)).map GState.t, fun _ => 0 ≤ v5 ∧ v5 < (((v0.set v5.toNat (GState.mk v1 (inc v1) (inc (inc v1)) g0.f3)).map GState.t).length : Int), fun _ => ((v0.set v5.toNat (GState.mk v1 (inc v1) (inc (inc v1)) g0.f3)).map GState.t)[0 + v5.toNat]? = some (GState.t (GState.mk v1 (inc v1) (inc (inc v1)) g0.f3)), fun _ => ((v0.set v5.toNat (GState.mk v1 (inc v1) (inc (inc v1)) g0.f3)).map GState.t).set (0 + v5.toNat) (spliceAt (GState.t (GState.mk v1 (inc v1) (inc (inc v1)) g0.f3)) 3 [tI (inc (inc (inc v1)))]) = (v0.set v5.toNat (GState.mk v1 (inc v1) (inc (inc v1)) (inc (inc (inc v1))))).map GState.t] (fun k => by kernel_rfl) ⟨Ev.c lenMap, Ev.c h0, Ev.c (getLt h1), Ev.c (getRow0 h1), Ev.c (setMap (by rfl)), Ev.c (getLt (getI_set h1)), Ev.c (getRow0 (getI_set h1)), Ev.c (setMap2 (by rfl)), Ev.c (getLt (getI_set h1)), Ev.c (getRow0 (getI_set h1)), Ev.c (setMap2 (by rfl)), Ev.c (getLt (getI_set h1)), Ev.c (getRow0 (getI_set h1)), Ev.c (setMap2 (by rfl)), trivial⟩
theorem l_markStateS_R0_1 (v0 : List GState) (v1 : Int) (v5 : Int) (h0 : (decide (v5 < (v0.length : Int))) = false) : Round E 109 (lpAt Try.f109 0) (stL 41 [(0, .one (.s .own () 4 (v0.map GState.t))), (1, .one (tI v1)), (5, .one (tI v5))]) (.exit 0) (stL 41 [(0, .one (.s .own () 4 (v0.map GState.t))), (1, .one (tI v1))]) :=
  Round.path [.val (.int .i64 (v0.length : Int)), .b false] [fun _ => ((v0.map GState.t).length : Int) = (v0.length : Int), fun _ => (decide (v5 < (v0.length : Int))) = false] (fun k => by kernel_rfl) ⟨Ev.c lenMap, Ev.c h0, trivial⟩
noncomputable def l_markStateS_l0  : List GState → List GState → Nat → Int → Option l_markStateS_X0
  | [], done, i, v1 => some (.x0 done v1)
  | hd :: rest, done, i, v1 => l_markStateS_l0 rest (done ++ [(GState.mk v1 (inc v1) (inc (inc v1)) (inc (inc (inc v1))))]) (i + 1) (inc (inc (inc (inc v1))))
theorem l_markStateS_L0  (rest : List GState) : ∀ (done : List GState) (i : Nat) (v1 : Int), i = done.length → (done ++ rest).length ≤ 9223372036854775807 → Ans (l_markStateS_l0 rest done i v1) (l_markStateS_Q0 (done ++ rest) v1 (i : Int)) := by
  induction rest with
  | nil =>
    intro done i v1 hi hl
    rw [List.append_nil]
    have hb := mapEnd hi
    unfold l_markStateS_l0
    exact Ans.some (Loops.stop (l_markStateS_R0_1 done v1 (i : Int) hb) (by intro h; cases h))
  | cons hd rest ih =>
    intro done i v1 hi hl
    have hb := mapMore (hd := hd) (rest := rest) hi
    have hw := mapNext (hd := hd) (rest := rest) hi hl
    have hg := mapGet (hd := hd) (rest := rest) hi
    unfold l_markStateS_l0
    exact (ih (done ++ [(GState.mk v1 (inc v1) (inc (inc v1)) (inc (inc (inc v1))))]) (i + 1) (inc (inc (inc (inc v1)))) (by simp [hi]) (by simpa using hl)).mono fun y hy => by
                                                                                have r := l_markStateS_R0_0 (done ++ hd :: rest) v1 (i : Int) hd hb hg
                                                                                rw [hw, setSplit hi] at r
                                                                                cases y <;> exact Loops.next r hy
theorem l_markStateS_P0 (x0 : List GState) (x1 : Int) (w0_0 : List GState) (w0_1 : Int) (h0 : Loops E 109 (lpAt Try.f109 0) (stL 41 [(0, .one (.s .own () 4 (x0.map GState.t))), (1, .one (tI x1)), (5, .one (tI (0 : Int)))]) (.exit 0) (stL 41 [(0, .one (.s .own () 4 (w0_0.map GState.t))), (1, .one (tI w0_1))])) : Does E 109 [.one (.s .own () 4 (x0.map GState.t)), .one (tI x1)] [(false, [.s .own () 4 (w0_0.map GState.t)]), (false, [tI w0_1])] :=
  Does.path (fn := Try.f109) [.lp (.exit 0) (stL 41 [(0, .one (.s .own () 4 (w0_0.map GState.t))), (1, .one (tI w0_1))])] [fun k => LoopK E 109 (lpAt Try.f109 0) (stL 41 [(0, .one (.s .own () 4 (x0.map GState.t))), (1, .one (tI x1)), (5, .one (tI (0 : Int)))]) (.exit 0) (stL 41 [(0, .one (.s .own () 4 (w0_0.map GState.t))), (1, .one (tI w0_1))]) k k] rfl rfl (fun k => by kernel_rfl) ⟨Loops.ev h0, trivial⟩
noncomputable def l_markStateS_F (x0 : List GState) (x1 : Int) : Option ((List GState) × Int) :=
    if x0.length ≤ 9223372036854775807 then (l_markStateS_l0 x0 [] 0 x1).bind fun y => match y with
      | .x0 w0_0 w0_1 => (some (w0_0, w0_1)) else none
theorem l_markStateS_D (x0 : List GState) (x1 : Int) : Ans (l_markStateS_F x0 x1) (fun r => Does E 109 [.one (.s .own () 4 (x0.map GState.t)), .one (tI x1)] [(false, [.s .own () 4 (r.1.map GState.t)]), (false, [tI r.2])]) := by
  unfold l_markStateS_F
  refine Ans.pre (fun hl1 => ?_)
  refine Ans.bind (fun y hy => ?_)
  replace hy := l_markStateS_L0 x0 [] 0 x1 rfl hl1 y hy
  cases y with
  | x0 w0_0 w0_1 =>
    have h0 := hy
    exact Ans.some (l_markStateS_P0 x0 x1 w0_0 w0_1 h0)
-- loop.example/g00188/laws.heldStateS
inductive l_heldStateS_X0 where
  | ret (v4 : Int)
  | x0 (v1 : Int)
def l_heldStateS_Q0 (v0 : List GState) (v1 : Int) (v5 : Int) : l_heldStateS_X0 → Prop
  | .ret zv4 => Loops E 110 (lpAt Try.f110 0) (stL 49 [(0, .one (.s .far () 4 (v0.map GState.t))), (1, .one (tI v1)), (5, .one (tI v5))]) .ret (stL 49 [(4, .one (tI zv4))])
  | .x0 zv1 => Loops E 110 (lpAt Try.f110 0) (stL 49 [(0, .one (.s .far () 4 (v0.map GState.t))), (1, .one (tI v1)), (5, .one (tI v5))]) (.exit 0) (stL 49 [(1, .one (tI zv1))])
theorem l_heldStateS_R0_0 (v0 : List GState) (v1 : Int) (v5 : Int) (g0 : GState) (h0 : (decide (v5 < (v0.length : Int))) = true) (h1 : getI v0 v5 = some g0) (h2 : (g0.f0 != v1) = true) : Round E 110 (lpAt Try.f110 0) (stL 49 [(0, .one (.s .far () 4 (v0.map GState.t))), (1, .one (tI v1)), (5, .one (tI v5))]) .ret (stL 49 [(4, .one (tI (-1 : Int)))]) :=
  Round.path [.val (.int .i64 (v0.length : Int)), .b true, .row (GState.t g0), .b true] [fun _ => ((v0.map GState.t).length : Int) = (v0.length : Int), fun _ => (decide (v5 < (v0.length : Int))) = true, fun _ => 0 ≤ v5 ∧ (v0.map GState.t)[v5.toNat]? = some (GState.t g0), fun _ => (g0.f0 != v1) = true] (fun k => by kernel_rfl) ⟨Ev.c lenMap, Ev.c h0, Ev.c (getRow h1), Ev.c h2, trivial⟩
theorem l_heldStateS_R0_1 (v0 : List GState) (v1 : Int) (v5 : Int) (g0 : GState) (h0 : (decide (v5 < (v0.length : Int))) = true) (h1 : getI v0 v5 = some g0) (h2 : (g0.f0 != v1) = false) (h3 : (g0.f1 != (inc v1)) = true) : Round E 110 (lpAt Try.f110 0) (stL 49 [(0, .one (.s .far () 4 (v0.map GState.t))), (1, .one (tI v1)), (5, .one (tI v5))]) .ret (stL 49 [(4, .one (tI (-1 : Int)))]) :=
  Round.path [.val (.int .i64 (v0.length : Int)), .b true, .row (GState.t g0), .b false, .row (GState.t g0), .b true] [fun _ => ((v0.map GState.t).length : Int) = (v0.length : Int), fun _ => (decide (v5 < (v0.length : Int))) = true, fun _ => 0 ≤ v5 ∧ (v0.map GState.t)[v5.toNat]? = some (GState.t g0), fun _ => (g0.f0 != v1) = false, fun _ => 0 ≤ v5 ∧ (v0.map GState.t)[v5.toNat]? = some (GState.t g0), fun _ => (g0.f1 != (inc v1)) = true] (fun k => by kernel_rfl) ⟨Ev.c lenMap, Ev.c h0, Ev.c (getRow h1), Ev.c h2, Ev.c (getRow h1), Ev.c h3, trivial⟩
theorem l_heldStateS_R0_2 (v0 : List GState) (v1 : Int) (v5 : Int) (g0 : GState) (h0 : (decide (v5 < (v0.length : Int))) = true) (h1 : getI v0 v5 = some g0) (h2 : (g0.f0 != v1) = false) (h3 : (g0.f1 != (inc v1)) = false) (h4 : (g0.f2 != (inc (inc v1))) = true) : Round E 110 (lpAt Try.f110 0) (stL 49 [(0, .one (.s .far () 4 (v0.map GState.t))), (1, .one (tI v1)), (5, .one (tI v5))]) .ret (stL 49 [(4, .one (tI (-1 : Int)))]) :=
  Round.path [.val (.int .i64 (v0.length : Int)), .b true, .row (GState.t g0), .b false, .row (GState.t g0), .b false, .row (GState.t g0), .b true] [fun _ => ((v0.map GState.t).length : Int) = (v0.length : Int), fun _ => (decide (v5 < (v0.length : Int))) = true, fun _ => 0 ≤ v5 ∧ (v0.map GState.t)[v5.toNat]? = some (GState.t g0), fun _ => (g0.f0 != v1) = false, fun _ => 0 ≤ v5 ∧ (v0.map GState.t)[v5.toNat]? = some (GState.t g0), fun _ => (g0.f1 != (inc v1)) = false, fun _ => 0 ≤ v5 ∧ (v0.map GState.t)[v5.toNat]? = some (GState.t g0), fun _ => (g0.f2 != (inc (inc v1))) = true] (fun k => by kernel_rfl) ⟨Ev.c lenMap, Ev.c h0, Ev.c (getRow h1), Ev.c h2, Ev.c (getRow h1), Ev.c h3, Ev.c (getRow h1), Ev.c h4, trivial⟩
theorem l_heldStateS_R0_3 (v0 : List GState) (v1 : Int) (v5 : Int) (g0 : GState) (h0 : (decide (v5 < (v0.length : Int))) = true) (h1 : getI v0 v5 = some g0) (h2 : (g0.f0 != v1) = false) (h3 : (g0.f1 != (inc v1)) = false) (h4 : (g0.f2 != (inc (inc v1))) = false) (h5 : (g0.f3 != (inc (inc (inc v1)))) = true) : Round E 110 (lpAt Try.f110 0) (stL 49 [(0, .one (.s .far () 4 (v0.map GState.t))), (1, .one (tI v1)), (5, .one (tI v5))]) .ret (stL 49 [(4, .one (tI (-1 : Int)))]) :=
  Round.path [.val (.int .i64 (v0.length : Int)), .b true, .row (GState.t g0), .b false, .row (GState.t g0), .b false, .row (GState.t g0), .b false, .row (GState.t g0), .b true] [fun _ => ((v0.map GState.t).length : Int) = (v0.length : Int), fun _ => (decide (v5 < (v0.length : Int))) = true, fun _ => 0 ≤ v5 ∧ (v0.map GState.t)[v5.toNat]? = some (GState.t g0), fun _ => (g0.f0 != v1) = false, fun _ => 0 ≤ v5 ∧ (v0.map GState.t)[v5.toNat]? = some (GState.t g0), fun _ => (g0.f1 != (inc v1)) = false, fun _ => 0 ≤ v5 ∧ (v0.map GState.t)[v5.toNat]? = some (GState.t g0), fun _ => (g0.f2 != (inc (inc v1))) = false, fun _ => 0 ≤ v5 ∧ (v0.map GState.t)[v5.toNat]? = some (GState.t g0), fun _ => (g0.f3 != (inc (inc (inc v1)))) = true] (fun k => by kernel_rfl) ⟨Ev.c lenMap, Ev.c h0, Ev.c (getRow h1), Ev.c h2, Ev.c (getRow h1), Ev.c h3, Ev.c (getRow h1), Ev.c h4, Ev.c (getRow h1), Ev.c h5, trivial⟩
theorem l_heldStateS_R0_4 (v0 : List GState) (v1 : Int) (v5 : Int) (g0 : GState) (h0 : (decide (v5 < (v0.length : Int))) = true) (h1 : getI v0 v5 = some g0) (h2 : (g0.f0 != v1) = false) (h3 : (g0.f1 != (inc v1)) = false) (h4 : (g0.f2 != (inc (inc v1))) = false) (h5 : (g0.f3 != (inc (inc (inc v1)))) = false) : Round E 110 (lpAt Try.f110 0) (stL 49 [(0, .one (.s .far () 4 (v0.map GState.t))), (1, .one (tI v1)), (5, .one (tI v5))]) .normal (stL 49 [(0, .one (.s .far () 4 (v0.map GState.t))), (1, .one (tI (inc (inc (inc (inc v1)))))), (5, .one (tI (inc v5)))]) :=
  Round.path [.val (.int .i64 (v0.length : Int)), .b true, .row (GState.t g0), .b false, .row (GState.t g0), .b false, .row (GState.t g0), .b false, .row (GState.t g0), .b false] [fun _ => ((v0.map GState.t).length : Int) = (v0.length : Int), fun _ => (decide (v5 < (v0.length : Int))) = true, fun _ => 0 ≤ v5 ∧ (v0.map GState.t)[v5.toNat]? = some (GState.t g0), fun _ => (g0.f0 != v1) = false, fun _ => 0 ≤ v5 ∧ (v0.map GState.t)[v5.toNat]? = some (GState.t g0), fun _ => (g0.f1 != (inc v1)) = false, fun _ => 0 ≤ v5 ∧ (v0.map GState.t)[v5.toNat]? = some (GState.t g0), fun _ => (g0.f2 != (inc (inc v1))) = false, fun _ => 0 ≤ v5 ∧ (v0.map GState.t)[v5.toNat]? = some (GState.t g0), fun _ => (g0.f3 != (inc (inc (inc v1)))) = false] (fun k => by kernel_rfl) ⟨Ev.c lenMap, Ev.c h0, Ev.c (getRow h1), Ev.c h2, Ev.c (getRow h1), Ev.c h3, Ev.c (getRow h1), Ev.c h4, Ev.c (getRow h1), Ev.c h5, trivial⟩
theorem l_heldStateS_R0_5 (v0 : List GState) (v1 : Int) (v5 : Int) (h0 : (decide (v5 < (v0.length : Int))) = false) : Round E 110 (lpAt Try.f110 0) (stL 49 [(0, .one (.s .far () 4 (v0.map GState.t))), (1, .one (tI v1)), (5, .one (tI v5))]) (.exit 0) (stL 49 [(1, .one (tI v1))]) :=
  Round.path [.val (.int .i64 (v0.length : Int)), .b false] [fun _ => ((v0.map GState.t).length : Int) = (v0.length : Int), fun _ => (decide (v5 < (v0.length : Int))) = false] (fun k => by kernel_rfl) ⟨Ev.c lenMap, Ev.c h0, trivial⟩
noncomputable def l_heldStateS_l0  : List GState → Nat → Int → Option l_heldStateS_X0
  | [], i, v1 => some (.x0 v1)
  | hd :: rest, i, v1 => cond (hd.f0 != v1)
    (some (.ret (-1 : Int)))
    (cond (hd.f1 != (inc v1))
      (some (.ret (-1 : Int)))
      (cond (hd.f2 != (inc (inc v1)))
        (some (.ret (-1 : Int)))
        (cond (hd.f3 != (inc (inc (inc v1))))
          (some (.ret (-1 : Int)))
          (l_heldStateS_l0 rest (i + 1) (inc (inc (inc (inc v1))))))))
theorem l_heldStateS_L0 (v0 : List GState) (rest : List GState) : ∀ (i : Nat) (v1 : Int), (v0).drop i = rest → v0.length ≤ 9223372036854775807 → Ans (l_heldStateS_l0 rest i v1) (l_heldStateS_Q0 v0 v1 (i : Int)) := by
  induction rest with
  | nil =>
    intro i v1 hE hl
    have hb := foldEnd hE
    unfold l_heldStateS_l0
    exact Ans.some (Loops.stop (l_heldStateS_R0_5 v0 v1 (i : Int) hb) (by intro h; cases h))
  | cons hd rest ih =>
    intro i v1 hE hl
    have hb := foldMore hE
    have hw := foldNext hE hl
    have hE2 := foldRest hE
    have hg := foldGet hE
    unfold l_heldStateS_l0
    refine Ans.ite (fun h2 => ?_) (fun h2 => ?_)
    · exact Ans.some (Loops.stop (l_heldStateS_R0_0 v0 v1 (i : Int) hd hb hg h2) (by intro h; cases h))
    · refine Ans.ite (fun h3 => ?_) (fun h3 => ?_)
      · exact Ans.some (Loops.stop (l_heldStateS_R0_1 v0 v1 (i : Int) hd hb hg h2 h3) (by intro h; cases h))
      · refine Ans.ite (fun h4 => ?_) (fun h4 => ?_)
        · exact Ans.some (Loops.stop (l_heldStateS_R0_2 v0 v1 (i : Int) hd hb hg h2 h3 h4) (by intro h; cases h))
        · refine Ans.ite (fun h5 => ?_) (fun h5 => ?_)
          · exact Ans.some (Loops.stop (l_heldStateS_R0_3 v0 v1 (i : Int) hd hb hg h2 h3 h4 h5) (by intro h; cases h))
          · exact (ih (i + 1) (inc (inc (inc (inc v1)))) hE2 hl).mono fun y hy => by
                                                                                have r := l_heldStateS_R0_4 v0 v1 (i : Int) hd hb hg h2 h3 h4 h5
                                                                                rw [hw] at r
                                                                                cases y <;> exact Loops.next r hy
theorem l_heldStateS_P0 (x0 : List GState) (x1 : Int) (w0_4 : Int) (h0 : Loops E 110 (lpAt Try.f110 0) (stL 49 [(0, .one (.s .far () 4 (x0.map GState.t))), (1, .one (tI x1)), (5, .one (tI (0 : Int)))]) .ret (stL 49 [(4, .one (tI w0_4))])) : Does E 110 [.one (.s .far () 4 (x0.map GState.t)), .one (tI x1)] [(false, [tI w0_4])] :=
  Does.path (fn := Try.f110) [.lp .ret (stL 49 [(4, .one (tI w0_4))])] [fun k => LoopK E 110 (lpAt Try.f110 0) (stL 49 [(0, .one (.s .far () 4 (x0.map GState.t))), (1, .one (tI x1)), (5, .one (tI (0 : Int)))]) .ret (stL 49 [(4, .one (tI w0_4))]) k k] rfl rfl (fun k => by kernel_rfl) ⟨Loops.ev h0, trivial⟩
theorem l_heldStateS_P1 (x0 : List GState) (x1 : Int) (w0_1 : Int) (h0 : Loops E 110 (lpAt Try.f110 0) (stL 49 [(0, .one (.s .far () 4 (x0.map GState.t))), (1, .one (tI x1)), (5, .one (tI (0 : Int)))]) (.exit 0) (stL 49 [(1, .one (tI w0_1))])) : Does E 110 [.one (.s .far () 4 (x0.map GState.t)), .one (tI x1)] [(false, [tI w0_1])] :=
  Does.path (fn := Try.f110) [.lp (.exit 0) (stL 49 [(1, .one (tI w0_1))])] [fun k => LoopK E 110 (lpAt Try.f110 0) (stL 49 [(0, .one (.s .far () 4 (x0.map GState.t))), (1, .one (tI x1)), (5, .one (tI (0 : Int)))]) (.exit 0) (stL 49 [(1, .one (tI w0_1))]) k k] rfl rfl (fun k => by kernel_rfl) ⟨Loops.ev h0, trivial⟩
noncomputable def l_heldStateS_F (x0 : List GState) (x1 : Int) : Option (Int) :=
    if x0.length ≤ 9223372036854775807 then (l_heldStateS_l0 x0 0 x1).bind fun y => match y with
      | .ret w0_4 => (some (w0_4))
      | .x0 w0_1 => (some (w0_1)) else none
theorem l_heldStateS_D (x0 : List GState) (x1 : Int) : Ans (l_heldStateS_F x0 x1) (fun r => Does E 110 [.one (.s .far () 4 (x0.map GState.t)), .one (tI x1)] [(false, [tI r])]) := by
  unfold l_heldStateS_F
  refine Ans.pre (fun hl1 => ?_)
  refine Ans.bind (fun y hy => ?_)
  replace hy := l_heldStateS_L0 x0 x0 0 x1 rfl hl1 y hy
  cases y with
  | ret w0_4 =>
    have h0 := hy
    exact Ans.some (l_heldStateS_P0 x0 x1 w0_4 h0)
  | x0 w0_1 =>
    have h0 := hy
    exact Ans.some (l_heldStateS_P1 x0 x1 w0_1 h0)
noncomputable def p_l_markStateS (x : List GState) (k : Int) : (List GState) × Int := (l_markStateS_F x k).getD ([], 0)
noncomputable def p_l_heldStateS (x : List GState) (k : Int) : Int := (l_heldStateS_F x k).getD (-1)
theorem T_l_markStateS (x0 : List GState) (x1 : Int) (h : l_markStateS_F x0 x1 = some (p_l_markStateS x0 x1)) : Does E 109 [.one (.s .own () 4 (x0.map GState.t)), .one (tI x1)] [(false, [.s .own () 4 (((p_l_markStateS x0 x1).1).map GState.t)]), (false, [tI ((p_l_markStateS x0 x1).2)])] := by
  exact l_markStateS_D x0 x1 _ h
theorem T_l_heldStateS (x0 : List GState) (x1 : Int) (h : l_heldStateS_F x0 x1 = some (p_l_heldStateS x0 x1)) : Does E 110 [.one (.s .far () 4 (x0.map GState.t)), .one (tI x1)] [(false, [tI (p_l_heldStateS x0 x1)])] := by
  exact l_heldStateS_D x0 x1 _ h
theorem mk_l_markStateS : ∀ (rest done : List GState) (i : Nat) (k : Int), (∀ y ∈ rest, Small.sm y) → 0 ≤ k → k + 4 * (rest.length : Int) ≤ 4611686018427387904 →
    ∃ new m, l_markStateS_l0 rest done i k = some (.x0 (done ++ new) m) ∧ k ≤ m ∧ m ≤ k + 4 * (rest.length : Int) ∧ new.length = rest.length ∧ (∀ y ∈ new, Small.sm y) ∧ ∀ j, l_heldStateS_l0 new j k = some (.x0 m)
  | [], done, i, k, _, h0, _ => ⟨[], k, by unfold l_markStateS_l0; rw [List.append_nil], by omega, by simp, rfl, fun y hy => (by cases hy), fun j => rfl⟩
  | x :: rest, done, i, k, h, h0, h1 => by
    have hx := h x (by simp)
    rw [List.length_cons] at h1 ⊢
    have w1 : inc k = k + 1 := inc_id _ (by omega) (by omega)
    have w2 : inc (k + 1) = (k + 1) + 1 := inc_id _ (by omega) (by omega)
    have w3 : inc ((k + 1) + 1) = ((k + 1) + 1) + 1 := inc_id _ (by omega) (by omega)
    have w4 : inc (((k + 1) + 1) + 1) = (((k + 1) + 1) + 1) + 1 := inc_id _ (by omega) (by omega)
    obtain ⟨new, m, g1, g2, g3, g4, g5, g6⟩ := mk_l_markStateS rest (done ++ [(GState.mk k (k + 1) ((k + 1) + 1) (((k + 1) + 1) + 1))]) (i + 1) ((((k + 1) + 1) + 1) + 1) (fun y hy => h y (by simp [hy])) (by omega) (by omega)
    refine ⟨(GState.mk k (k + 1) ((k + 1) + 1) (((k + 1) + 1) + 1)) :: new, m, ?_, by omega, by omega, by simp [g4], ?_, fun j => ?_⟩
    · unfold l_markStateS_l0
      simp only [w1, w2, w3, w4, if_true, g1, List.append_assoc, List.singleton_append]
    · intro y hy
      rcases List.mem_cons.1 hy with rfl | hy
      · exact trivial
      · exact g5 y hy
    · unfold l_heldStateS_l0
      simp only [w1, w2, w3, w4, if_true, bne_self_eq_false, BEq.rfl, Bool.not_true, cond_false, cond_true, g6]
theorem ok_l_markStateS (l : List GState) (k : Int) (h : Small.sm l) (h0 : 0 ≤ k) (h1 : k + 4200000 ≤ 4611686018427387904) : l_markStateS_F l k = some (p_l_markStateS l k) ∧ l_heldStateS_F (p_l_markStateS l k).1 k = some (p_l_heldStateS (p_l_markStateS l k).1 k) ∧ p_l_heldStateS (p_l_markStateS l k).1 k = (p_l_markStateS l k).2 ∧ k ≤ (p_l_markStateS l k).2 ∧ (p_l_markStateS l k).2 ≤ k + 4200000 ∧ Small.sm (p_l_markStateS l k).1 := by
  have hl := h.1
  obtain ⟨new, m, g1, g2, g3, g4, g5, g6⟩ := mk_l_markStateS l [] 0 k h.2 h0 (by omega)
  have e : l_markStateS_F l k = some (new, m) := by unfold l_markStateS_F; rw [if_pos (sm_wf_len h), g1]; rfl
  have p : p_l_markStateS l k = (new, m) := by unfold p_l_markStateS; rw [e]; rfl
  have e2 : l_heldStateS_F new k = some m := by unfold l_heldStateS_F; rw [if_pos (by omega), g6]; rfl
  have p2 : p_l_heldStateS new k = m := by unfold p_l_heldStateS; rw [e2]; rfl
  rw [p, p2]
  exact ⟨e, e2, rfl, g2, by omega, ⟨by show new.length ≤ 1050000; omega, g5⟩⟩
-- loop.example/g00188/laws.markRun
theorem l_markRun_P0 (x0 : GRun) (x1 : Int) (h0 : l_markStateS_F x0.f3 x1 = some (p_l_markStateS x0.f3 x1)) : Does E 49 [.agg (GRun.t .own x0), .one (tI x1)] [(true, GRun.t .own (GRun.mk x0.f0 x0.f1 x0.f2 ((p_l_markStateS x0.f3 x1).1))), (false, [tI ((p_l_markStateS x0.f3 x1).2)])] :=
  Does.path (fn := Try.f49) [.ret [(false, [.s .own () 4 (((p_l_markStateS x0.f3 x1).1).map GState.t)]), (false, [tI ((p_l_markStateS x0.f3 x1).2)])]] [fun k => E.C k 109 [.one (.s .own () 4 (x0.f3.map GState.t)), .one (tI x1)] = some [(false, [.s .own () 4 (((p_l_markStateS x0.f3 x1).1).map GState.t)]), (false, [tI ((p_l_markStateS x0.f3 x1).2)])]] rfl rfl (fun k => by kernel_rfl) ⟨T_l_markStateS x0.f3 x1 h0, trivial⟩
noncomputable def l_markRun_F (x0 : GRun) (x1 : Int) : Option (GRun × Int) :=
    if l_markStateS_F x0.f3 x1 = some (p_l_markStateS x0.f3 x1) then some ((GRun.mk x0.f0 x0.f1 x0.f2 ((p_l_markStateS x0.f3 x1).1)), (p_l_markStateS x0.f3 x1).2) else none
theorem l_markRun_D (x0 : GRun) (x1 : Int) : Ans (l_markRun_F x0 x1) (fun r => Does E 49 [.agg (GRun.t .own x0), .one (tI x1)] [(true, GRun.t .own r.1), (false, [tI r.2])]) := by
  unfold l_markRun_F
  refine Ans.pre (fun h0 => ?_)
  exact Ans.some (l_markRun_P0 x0 x1 h0)
-- loop.example/g00188/laws.heldRun
theorem l_heldRun_P0 (x0 : GRun) (x1 : Int) (h0 : l_heldStateS_F x0.f3 x1 = some (p_l_heldStateS x0.f3 x1)) (h1 : (decide ((p_l_heldStateS x0.f3 x1) < (0 : Int))) = true) : Does E 50 [.agg (GRun.t .far x0), .one (tI x1)] [(false, [tI (-1 : Int)])] :=
  Does.path (fn := Try.f50) [.ret [(false, [tI (p_l_heldStateS x0.f3 x1)])], .b true] [fun k => E.C k 110 [.one (.s .far () 4 (x0.f3.map GState.t)), .one (tI x1)] = some [(false, [tI (p_l_heldStateS x0.f3 x1)])], fun _ => (decide ((p_l_heldStateS x0.f3 x1) < (0 : Int))) = true] rfl rfl (fun k => by kernel_rfl) ⟨T_l_heldStateS x0.f3 x1 h0, Ev.c h1, trivial⟩
theorem l_heldRun_P1 (x0 : GRun) (x1 : Int) (h0 : l_heldStateS_F x0.f3 x1 = some (p_l_heldStateS x0.f3 x1)) (h1 : (decide ((p_l_heldStateS x0.f3 x1) < (0 : Int))) = false) : Does E 50 [.agg (GRun.t .far x0), .one (tI x1)] [(false, [tI (p_l_heldStateS x0.f3 x1)])] :=
  Does.path (fn := Try.f50) [.ret [(false, [tI (p_l_heldStateS x0.f3 x1)])], .b false] [fun k => E.C k 110 [.one (.s .far () 4 (x0.f3.map GState.t)), .one (tI x1)] = some [(false, [tI (p_l_heldStateS x0.f3 x1)])], fun _ => (decide ((p_l_heldStateS x0.f3 x1) < (0 : Int))) = false] rfl rfl (fun k => by kernel_rfl) ⟨T_l_heldStateS x0.f3 x1 h0, Ev.c h1, trivial⟩
noncomputable def l_heldRun_F (x0 : GRun) (x1 : Int) : Option (Int) :=
    if l_heldStateS_F x0.f3 x1 = some (p_l_heldStateS x0.f3 x1) then cond (decide ((p_l_heldStateS x0.f3 x1) < (0 : Int)))
      (some ((-1 : Int)))
      (some (p_l_heldStateS x0.f3 x1)) else none
theorem l_heldRun_D (x0 : GRun) (x1 : Int) : Ans (l_heldRun_F x0 x1) (fun r => Does E 50 [.agg (GRun.t .far x0), .one (tI x1)] [(false, [tI r])]) := by
  unfold l_heldRun_F
  refine Ans.pre (fun h0 => ?_)
  refine Ans.ite (fun h1 => ?_) (fun h1 => ?_)
  · exact Ans.some (l_heldRun_P0 x0 x1 h0 h1)
  · exact Ans.some (l_heldRun_P1 x0 x1 h0 h1)
noncomputable def p_l_markRun (x : GRun) (k : Int) : GRun × Int := (l_markRun_F x k).getD (x, 0)
noncomputable def p_l_heldRun (x : GRun) (k : Int) : Int := (l_heldRun_F x k).getD (-1)
theorem T_l_markRun (x0 : GRun) (x1 : Int) (h : l_markRun_F x0 x1 = some (p_l_markRun x0 x1)) : Does E 49 [.agg (GRun.t .own x0), .one (tI x1)] [(true, GRun.t .own ((p_l_markRun x0 x1).1)), (false, [tI ((p_l_markRun x0 x1).2)])] := by
  exact l_markRun_D x0 x1 _ h
theorem T_l_heldRun (x0 : GRun) (x1 : Int) (h : l_heldRun_F x0 x1 = some (p_l_heldRun x0 x1)) : Does E 50 [.agg (GRun.t .far x0), .one (tI x1)] [(false, [tI (p_l_heldRun x0 x1)])] := by
  exact l_heldRun_D x0 x1 _ h
theorem ok_l_markRun (x : GRun) (k : Int) (h : Small.sm x) (h0 : 0 ≤ k) (h1 : k + 4200000 ≤ 4611686018427387904) : l_markRun_F x k = some (p_l_markRun x k) ∧ l_heldRun_F (p_l_markRun x k).1 k = some (p_l_heldRun (p_l_markRun x k).1 k) ∧ p_l_heldRun (p_l_markRun x k).1 k = (p_l_markRun x k).2 ∧ k ≤ (p_l_markRun x k).2 ∧ (p_l_markRun x k).2 ≤ k + 4200000 ∧ Small.sm (p_l_markRun x k).1 ∧ (GRun.mk x.f0 x.f1 x.f2 (((p_l_markRun x k).1).f3)) = (p_l_markRun x k).1 := by
  obtain ⟨hx0, hx1, hx3⟩ := h
  have a1 := ok_l_markStateS x.f3 k hx3 (by omega) (by omega)
  have d1 : decide ((p_l_markStateS x.f3 k).2 < (0 : Int)) = false := decide_eq_false (by omega)
  have e : l_markRun_F x k = some ((GRun.mk x.f0 x.f1 x.f2 (p_l_markStateS x.f3 k).1), ((p_l_markStateS x.f3 k).2)) := by unfold l_markRun_F; simp only [a1.1, a1.2.1, a1.2.2.1, d1, if_true]
  have p : p_l_markRun x k = ((GRun.mk x.f0 x.f1 x.f2 (p_l_markStateS x.f3 k).1), ((p_l_markStateS x.f3 k).2)) := by unfold p_l_markRun; rw [e]; rfl
  have e2 : l_heldRun_F (GRun.mk x.f0 x.f1 x.f2 (p_l_markStateS x.f3 k).1) k = some ((p_l_markStateS x.f3 k).2) := by unfold l_heldRun_F; simp only [a1.1, a1.2.1, a1.2.2.1, d1, if_true, cond_false]
  have p2 : p_l_heldRun (GRun.mk x.f0 x.f1 x.f2 (p_l_markStateS x.f3 k).1) k = ((p_l_markStateS x.f3 k).2) := by unfold p_l_heldRun; rw [e2]; rfl
  rw [p, p2]
  exact ⟨e, e2, rfl, by omega, by omega, ⟨hx0, hx1, a1.2.2.2.2.2⟩, by first | rfl | simp only [a1.1, a1.2.1, a1.2.2.1, d1, if_true]⟩
end Go.Proofs.Ytbphhigmepdohaa.Am
