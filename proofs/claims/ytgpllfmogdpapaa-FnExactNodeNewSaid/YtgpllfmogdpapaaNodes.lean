/- Copies, sizes, equality, confs, entries and logs. Conditions: none. -/
import Derived.Test.YtgpllfmogdpapaaEnv
namespace Go.Proofs.Ytgpllfmogdpapaa.Am
set_option linter.unusedVariables false
set_option linter.unusedSimpArgs false
open Go Go.Proofs Classical
set_option maxRecDepth 100000
set_option linter.unusedVariables false
set_option linter.unusedSimpArgs false
structure GEntry where
  f0 : Int
  f1 : Int
  f2 : ByteArray
def GEntry.t (x : GEntry) : List (T Unit) := [tI x.f0, tI x.f1, tS x.f2]
instance : Small GEntry := ⟨fun x => Small.sm x.f2⟩
instance : Wf GEntry := ⟨fun x => Wf.wf x.f2⟩
structure GPeer where
  f0 : Int
  f1 : Int
  f2 : Int
  f3 : Int
def GPeer.t (x : GPeer) : List (T Unit) := [tI x.f0, tI x.f1, tI x.f2, tI x.f3]
instance : Small GPeer := ⟨fun x => True⟩
instance : Wf GPeer := ⟨fun x => True⟩
structure LLog where
  f0 : Int
  f1 : Int
  f2 : List GEntry
def LLog.t (k : Kd) (x : LLog) : List (T Unit) := [tI x.f0, tI x.f1, .s k () 3 (x.f2.map GEntry.t)]
instance : Small LLog := ⟨fun x => Small.sm x.f2⟩
instance : Wf LLog := ⟨fun x => Wf.wf x.f2⟩
structure GLog where
  f0 : Int
  f1 : Int
  f2 : List GEntry
def GLog.t (k : Kd) (x : GLog) : List (T Unit) := [tI x.f0, tI x.f1, .s k () 3 (x.f2.map GEntry.t)]
instance : Small GLog := ⟨fun x => Small.sm x.f2⟩
instance : Wf GLog := ⟨fun x => Wf.wf x.f2⟩
structure LNode where
  f0 : Int
  f1 : Int
  f2 : Int
  f3 : Int
  f4 : Int
  f5 : List Int
  f6 : LLog
  f7 : Int
  f8 : Int
  f9 : Int
  f10 : List Int
  f11 : List GPeer
def LNode.t (k : Kd) (x : LNode) : List (T Unit) := [tI x.f0] ++ [tI x.f1] ++ [tI x.f2] ++ [tI x.f3] ++ [tI x.f4] ++ [.s k () 1 (x.f5.map etI)] ++ LLog.t k x.f6 ++ [tI x.f7] ++ [tI x.f8] ++ [tI x.f9] ++ [.s k () 1 (x.f10.map etI)] ++ [.s k () 4 (x.f11.map GPeer.t)]
instance : Small LNode := ⟨fun x => Small.sm x.f5 ∧ Small.sm x.f6 ∧ Small.sm x.f10 ∧ Small.sm x.f11⟩
instance : Wf LNode := ⟨fun x => Wf.wf x.f5 ∧ Wf.wf x.f6 ∧ Wf.wf x.f10 ∧ Wf.wf x.f11⟩
structure GNode where
  f0 : Int
  f1 : Int
  f2 : Int
  f3 : Int
  f4 : Int
  f5 : List Int
  f6 : GLog
  f7 : Int
  f8 : Int
  f9 : Int
  f10 : List Int
  f11 : List GPeer
def GNode.t (k : Kd) (x : GNode) : List (T Unit) := [tI x.f0] ++ [tI x.f1] ++ [tI x.f2] ++ [tI x.f3] ++ [tI x.f4] ++ [.s k () 1 (x.f5.map etI)] ++ GLog.t k x.f6 ++ [tI x.f7] ++ [tI x.f8] ++ [tI x.f9] ++ [.s k () 1 (x.f10.map etI)] ++ [.s k () 4 (x.f11.map GPeer.t)]
instance : Small GNode := ⟨fun x => Small.sm x.f5 ∧ Small.sm x.f6 ∧ Small.sm x.f10 ∧ Small.sm x.f11⟩
instance : Wf GNode := ⟨fun x => Wf.wf x.f5 ∧ Wf.wf x.f6 ∧ Wf.wf x.f10 ∧ Wf.wf x.f11⟩
theorem l_szIntS_P0 (x0 : List Int) (x1 : Int) (h0 : (decide ((IntKind.wrap .i64 (x1 - (x0.length : Int))) < (0 : Int))) = true) : Does E 67 [.one (.s .far () 1 (x0.map etI)), .one (tI x1)] [(false, [tI (-1 : Int)])] :=
  Does.path (fn := Try.f67) [.val (.int .i64 (x0.length : Int)), .no, .b true] _ rfl (fun _ => rfl) (fun k => by kernel_rfl) (AV (ψ := fun _ => ((x0.map etI).length : Int) = (x0.length : Int)) (Ev.c lenMap) <| AC h0 <| AN)
theorem l_szIntS_P1 (x0 : List Int) (x1 : Int) (h0 : (decide ((IntKind.wrap .i64 (x1 - (x0.length : Int))) < (0 : Int))) = false) : Does E 67 [.one (.s .far () 1 (x0.map etI)), .one (tI x1)] [(false, [tI (IntKind.wrap .i64 (x1 - (x0.length : Int)))])] :=
  Does.path (fn := Try.f67) [.val (.int .i64 (x0.length : Int)), .no, .b false] _ rfl (fun _ => rfl) (fun k => by kernel_rfl) (AV (ψ := fun _ => ((x0.map etI).length : Int) = (x0.length : Int)) (Ev.c lenMap) <| AC h0 <| AN)
noncomputable def l_szIntS_F (x0 : List Int) (x1 : Int) : Option (Int) :=
    cond (decide ((IntKind.wrap .i64 (x1 - (x0.length : Int))) < (0 : Int)))
      (some ((-1 : Int)))
      (some (IntKind.wrap .i64 (x1 - (x0.length : Int))))
theorem l_szIntS_D (x0 : List Int) (x1 : Int) : Ans (l_szIntS_F x0 x1) (fun r => Does E 67 [.one (.s .far () 1 (x0.map etI)), .one (tI x1)] [(false, [tI r])]) := by
  unfold l_szIntS_F
  refine Ans.ite (fun h0 => ?_) (fun h0 => ?_)
  · exact Ans.some (l_szIntS_P0 x0 x1 h0)
  · exact Ans.some (l_szIntS_P1 x0 x1 h0)
noncomputable def p_l_szIntS (x : List Int) (n : Int) : Int := (l_szIntS_F x n).getD (-1)
theorem tot_l_szIntS (x : List Int) (n : Int) (h : Wf.wf x) : l_szIntS_F x n = some (p_l_szIntS x n) := by
  refine Tot.getD ?_ _
  unfold l_szIntS_F
  refine Tot.cond (Tot.some _) ?_
  exact Tot.some _
theorem T_l_szIntS (x0 : List Int) (x1 : Int) (h : Wf.wf x0) : Does E 67 [.one (.s .far () 1 (x0.map etI)), .one (tI x1)] [(false, [tI (p_l_szIntS x0 x1)])] := by
  exact l_szIntS_D x0 x1 _ (tot_l_szIntS x0 x1 h)
theorem le_l_szIntS (x : List Int) (n : Int) (hw : Wf.wf x) (h0 : 0 ≤ n) (h1 : n ≤ 1048576) (h : 0 ≤ p_l_szIntS x n) : p_l_szIntS x n ≤ n ∧ Small.sm x := by
  have e := tot_l_szIntS x n hw
  generalize p_l_szIntS x n = r at *
  unfold l_szIntS_F at e
  obtain ⟨a1, e⟩ := szStep e h
  obtain ⟨b1, c1⟩ := szStr (n := n) (k := x.length) h0 h1 hw.1 a1
  cases e
  exact ⟨b1, small_of c1, fun y _ => trivial⟩
theorem l_szEntry_P0 (x0 : GEntry) (x1 : Int) (h0 : (decide ((IntKind.wrap .i64 (x1 - (x0.f2.size : Int))) < (0 : Int))) = true) : Does E 153 [.agg (GEntry.t x0), .one (tI x1)] [(false, [tI (-1 : Int)])] :=
  Does.path (fn := Try.f153) [.no, .b true] _ rfl (fun _ => rfl) (fun k => by kernel_rfl) (AC h0 <| AN)
theorem l_szEntry_P1 (x0 : GEntry) (x1 : Int) (h0 : (decide ((IntKind.wrap .i64 (x1 - (x0.f2.size : Int))) < (0 : Int))) = false) : Does E 153 [.agg (GEntry.t x0), .one (tI x1)] [(false, [tI (IntKind.wrap .i64 (x1 - (x0.f2.size : Int)))])] :=
  Does.path (fn := Try.f153) [.no, .b false] _ rfl (fun _ => rfl) (fun k => by kernel_rfl) (AC h0 <| AN)
noncomputable def l_szEntry_F (x0 : GEntry) (x1 : Int) : Option (Int) :=
    cond (decide ((IntKind.wrap .i64 (x1 - (x0.f2.size : Int))) < (0 : Int)))
      (some ((-1 : Int)))
      (some (IntKind.wrap .i64 (x1 - (x0.f2.size : Int))))
theorem l_szEntry_D (x0 : GEntry) (x1 : Int) : Ans (l_szEntry_F x0 x1) (fun r => Does E 153 [.agg (GEntry.t x0), .one (tI x1)] [(false, [tI r])]) := by
  unfold l_szEntry_F
  refine Ans.ite (fun h0 => ?_) (fun h0 => ?_)
  · exact Ans.some (l_szEntry_P0 x0 x1 h0)
  · exact Ans.some (l_szEntry_P1 x0 x1 h0)
noncomputable def p_l_szEntry (x : GEntry) (n : Int) : Int := (l_szEntry_F x n).getD (-1)
theorem tot_l_szEntry (x : GEntry) (n : Int) (h : Wf.wf x) : l_szEntry_F x n = some (p_l_szEntry x n) := by
  have w2 : Wf.wf x.f2 := h
  refine Tot.getD ?_ _
  unfold l_szEntry_F
  repeat' (first | exact Tot.some _ | apply Tot.cond | refine Tot.ite (by assumption) ?_)
theorem T_l_szEntry (x0 : GEntry) (x1 : Int) (h : Wf.wf x0) : Does E 153 [.agg (GEntry.t x0), .one (tI x1)] [(false, [tI (p_l_szEntry x0 x1)])] := by
  exact l_szEntry_D x0 x1 _ (tot_l_szEntry x0 x1 h)
theorem le_l_szEntry (x : GEntry) (n : Int) (hw : Wf.wf x) (h0 : 0 ≤ n) (h1 : n ≤ 1048576) (h : 0 ≤ p_l_szEntry x n) : p_l_szEntry x n ≤ n ∧ Small.sm x := by
  have e := tot_l_szEntry x n hw
  have w2 : Wf.wf x.f2 := hw
  generalize p_l_szEntry x n = r at *
  unfold l_szEntry_F at e
  obtain ⟨a1, e⟩ := szStep e h
  obtain ⟨b1, c1⟩ := szStr (n := n) (k := x.f2.size) h0 (by omega) w2 a1
  generalize IntKind.wrap .i64 (n - (x.f2.size : Int)) = m1 at *
  cases e
  exact ⟨by omega, small_of c1⟩
inductive l_szEntryS_X0 where
  | ret (v4 : Int)
  | x0 (v1 : Int)
def l_szEntryS_Q0 (v0 : List GEntry) (v1 : Int) (v5 : Int) : l_szEntryS_X0 → Prop
  | .ret zv4 => Loops E 99 (lpAt Try.f99 0) (stL 27 [(0, .one (.s .far () 3 (v0.map GEntry.t))), (1, .one (tI v1)), (5, .one (tI v5))]) .ret (stL 27 [(4, .one (tI zv4))])
  | .x0 zv1 => Loops E 99 (lpAt Try.f99 0) (stL 27 [(0, .one (.s .far () 3 (v0.map GEntry.t))), (1, .one (tI v1)), (5, .one (tI v5))]) (.exit 0) (stL 27 [(1, .one (tI zv1))])
theorem l_szEntryS_R0_0 (v0 : List GEntry) (v1 : Int) (v5 : Int) (g0 : GEntry) (h0 : (decide (v5 < (v0.length : Int))) = true) (h1 : getI v0 v5 = some g0) (h2 : Wf.wf g0) (h3 : (decide ((p_l_szEntry g0 v1) < (0 : Int))) = true) : Round E 99 (lpAt Try.f99 0) (stL 27 [(0, .one (.s .far () 3 (v0.map GEntry.t))), (1, .one (tI v1)), (5, .one (tI v5))]) .ret (stL 27 [(4, .one (tI (-1 : Int)))]) :=
  Round.path [.val (.int .i64 (v0.length : Int)), .b true, .row (GEntry.t g0), .ret [(false, [tI (p_l_szEntry g0 v1)])], .b true] _ (fun k => by kernel_rfl) (AV (ψ := fun _ => ((v0.map GEntry.t).length : Int) = (v0.length : Int)) (Ev.c lenMap) <| AC h0 <| AV (ψ := fun _ => 0 ≤ v5 ∧ (v0.map GEntry.t)[v5.toNat]? = some (GEntry.t g0)) (Ev.c (getRow h1)) <| AD (T_l_szEntry g0 v1 h2) <| AC h3 <| AN)
theorem l_szEntryS_R0_1 (v0 : List GEntry) (v1 : Int) (v5 : Int) (g0 : GEntry) (h0 : (decide (v5 < (v0.length : Int))) = true) (h1 : getI v0 v5 = some g0) (h2 : Wf.wf g0) (h3 : (decide ((p_l_szEntry g0 v1) < (0 : Int))) = false) : Round E 99 (lpAt Try.f99 0) (stL 27 [(0, .one (.s .far () 3 (v0.map GEntry.t))), (1, .one (tI v1)), (5, .one (tI v5))]) .normal (stL 27 [(0, .one (.s .far () 3 (v0.map GEntry.t))), (1, .one (tI (p_l_szEntry g0 v1))), (5, .one (tI (inc v5)))]) :=
  Round.path [.val (.int .i64 (v0.length : Int)), .b true, .row (GEntry.t g0), .ret [(false, [tI (p_l_szEntry g0 v1)])], .b false] _ (fun k => by kernel_rfl) (AV (ψ := fun _ => ((v0.map GEntry.t).length : Int) = (v0.length : Int)) (Ev.c lenMap) <| AC h0 <| AV (ψ := fun _ => 0 ≤ v5 ∧ (v0.map GEntry.t)[v5.toNat]? = some (GEntry.t g0)) (Ev.c (getRow h1)) <| AD (T_l_szEntry g0 v1 h2) <| AC h3 <| AN)
theorem l_szEntryS_R0_2 (v0 : List GEntry) (v1 : Int) (v5 : Int) (h0 : (decide (v5 < (v0.length : Int))) = false) : Round E 99 (lpAt Try.f99 0) (stL 27 [(0, .one (.s .far () 3 (v0.map GEntry.t))), (1, .one (tI v1)), (5, .one (tI v5))]) (.exit 0) (stL 27 [(1, .one (tI v1))]) :=
  Round.path [.val (.int .i64 (v0.length : Int)), .b false] _ (fun k => by kernel_rfl) (AV (ψ := fun _ => ((v0.map GEntry.t).length : Int) = (v0.length : Int)) (Ev.c lenMap) <| AC h0 <| AN)
noncomputable def l_szEntryS_l0  : List GEntry → Nat → Int → Option l_szEntryS_X0
  | [], i, v1 => some (.x0 v1)
  | hd :: rest, i, v1 => if Wf.wf hd then cond (decide ((p_l_szEntry hd v1) < (0 : Int)))
    (some (.ret (-1 : Int)))
    (l_szEntryS_l0 rest (i + 1) (p_l_szEntry hd v1)) else none
theorem l_szEntryS_L0 (v0 : List GEntry) (rest : List GEntry) : ∀ (i : Nat) (v1 : Int), (v0).drop i = rest → v0.length ≤ 9223372036854775807 → Ans (l_szEntryS_l0 rest i v1) (l_szEntryS_Q0 v0 v1 (i : Int)) := by
  induction rest with
  | nil =>
    intro i v1 hE hl
    have hb := foldEnd hE
    unfold l_szEntryS_l0
    exact Ans.some (Loops.stop (l_szEntryS_R0_2 v0 v1 (i : Int) hb) (by intro h; cases h))
  | cons hd rest ih =>
    intro i v1 hE hl
    have hb := foldMore hE
    have hw := foldNext hE hl
    have hE2 := foldRest hE
    have hg := foldGet hE
    unfold l_szEntryS_l0
    refine Ans.pre (fun h2 => ?_)
    refine Ans.ite (fun h3 => ?_) (fun h3 => ?_)
    · exact Ans.some (Loops.stop (l_szEntryS_R0_0 v0 v1 (i : Int) hd hb hg h2 h3) (by intro h; cases h))
    · exact (ih (i + 1) (p_l_szEntry hd v1) hE2 hl).mono fun y hy => by have r := l_szEntryS_R0_1 v0 v1 (i : Int) hd hb hg h2 h3; rw [hw] at r; cases y <;> exact Loops.next r hy
theorem l_szEntryS_P0 (x0 : List GEntry) (x1 : Int) (h0 : (decide ((IntKind.wrap .i64 (x1 - (x0.length : Int))) < (0 : Int))) = true) : Does E 99 [.one (.s .far () 3 (x0.map GEntry.t)), .one (tI x1)] [(false, [tI (-1 : Int)])] :=
  Does.path (fn := Try.f99) [.val (.int .i64 (x0.length : Int)), .no, .b true] _ rfl (fun _ => rfl) (fun k => by kernel_rfl) (AV (ψ := fun _ => ((x0.map GEntry.t).length : Int) = (x0.length : Int)) (Ev.c lenMap) <| AC h0 <| AN)
theorem l_szEntryS_P1 (x0 : List GEntry) (x1 : Int) (w0_4 : Int) (h0 : (decide ((IntKind.wrap .i64 (x1 - (x0.length : Int))) < (0 : Int))) = false) (h1 : Loops E 99 (lpAt Try.f99 0) (stL 27 [(0, .one (.s .far () 3 (x0.map GEntry.t))), (1, .one (tI (IntKind.wrap .i64 (x1 - (x0.length : Int))))), (5, .one (tI (0 : Int)))]) .ret (stL 27 [(4, .one (tI w0_4))])) : Does E 99 [.one (.s .far () 3 (x0.map GEntry.t)), .one (tI x1)] [(false, [tI w0_4])] :=
  Does.path (fn := Try.f99) [.val (.int .i64 (x0.length : Int)), .no, .b false, .lp .ret (stL 27 [(4, .one (tI w0_4))])] _ rfl (fun _ => rfl) (fun k => by kernel_rfl) (AV (ψ := fun _ => ((x0.map GEntry.t).length : Int) = (x0.length : Int)) (Ev.c lenMap) <| AC h0 <| AV (ψ := fun k => LoopK E 99 (lpAt Try.f99 0) (stL 27 [(0, .one (.s .far () 3 (x0.map GEntry.t))), (1, .one (tI (IntKind.wrap .i64 (x1 - (x0.length : Int))))), (5, .one (tI (0 : Int)))]) .ret (stL 27 [(4, .one (tI w0_4))]) k k) (Loops.ev h1) <| AN)
theorem l_szEntryS_P2 (x0 : List GEntry) (x1 : Int) (w0_1 : Int) (h0 : (decide ((IntKind.wrap .i64 (x1 - (x0.length : Int))) < (0 : Int))) = false) (h1 : Loops E 99 (lpAt Try.f99 0) (stL 27 [(0, .one (.s .far () 3 (x0.map GEntry.t))), (1, .one (tI (IntKind.wrap .i64 (x1 - (x0.length : Int))))), (5, .one (tI (0 : Int)))]) (.exit 0) (stL 27 [(1, .one (tI w0_1))])) : Does E 99 [.one (.s .far () 3 (x0.map GEntry.t)), .one (tI x1)] [(false, [tI w0_1])] :=
  Does.path (fn := Try.f99) [.val (.int .i64 (x0.length : Int)), .no, .b false, .lp (.exit 0) (stL 27 [(1, .one (tI w0_1))])] _ rfl (fun _ => rfl) (fun k => by kernel_rfl) (AV (ψ := fun _ => ((x0.map GEntry.t).length : Int) = (x0.length : Int)) (Ev.c lenMap) <| AC h0 <| AV (ψ := fun k => LoopK E 99 (lpAt Try.f99 0) (stL 27 [(0, .one (.s .far () 3 (x0.map GEntry.t))), (1, .one (tI (IntKind.wrap .i64 (x1 - (x0.length : Int))))), (5, .one (tI (0 : Int)))]) (.exit 0) (stL 27 [(1, .one (tI w0_1))]) k k) (Loops.ev h1) <| AN)
noncomputable def l_szEntryS_F (x0 : List GEntry) (x1 : Int) : Option (Int) :=
    cond (decide ((IntKind.wrap .i64 (x1 - (x0.length : Int))) < (0 : Int)))
      (some ((-1 : Int)))
      (if x0.length ≤ 9223372036854775807 then (l_szEntryS_l0 x0 0 (IntKind.wrap .i64 (x1 - (x0.length : Int)))).bind fun y => match y with
        | .ret w0_4 => (some (w0_4))
        | .x0 w0_1 => (some (w0_1)) else none)
theorem l_szEntryS_D (x0 : List GEntry) (x1 : Int) : Ans (l_szEntryS_F x0 x1) (fun r => Does E 99 [.one (.s .far () 3 (x0.map GEntry.t)), .one (tI x1)] [(false, [tI r])]) := by
  unfold l_szEntryS_F
  refine Ans.ite (fun h0 => ?_) (fun h0 => ?_)
  · exact Ans.some (l_szEntryS_P0 x0 x1 h0)
  · refine Ans.pre (fun hl2 => ?_)
    refine Ans.bind (fun y hy => ?_)
    replace hy := l_szEntryS_L0 x0 x0 0 (IntKind.wrap .i64 (x1 - (x0.length : Int))) rfl hl2 y hy
    cases y with
    | ret w0_4 =>
      have h1 := hy
      exact Ans.some (l_szEntryS_P1 x0 x1 w0_4 h0 h1)
    | x0 w0_1 =>
      have h1 := hy
      exact Ans.some (l_szEntryS_P2 x0 x1 w0_1 h0 h1)
noncomputable def p_l_szEntryS (x : List GEntry) (n : Int) : Int := (l_szEntryS_F x n).getD (-1)
theorem tl_l_szEntryS : ∀ (rest : List GEntry) (i : Nat) (n : Int), (∀ y ∈ rest, Wf.wf y) → Tot (l_szEntryS_l0 rest i n)
  | [], i, n, _ => Tot.some _
  | x :: rest, i, n, h => by
    have hx := h x (by simp)
    have ih := fun i n => tl_l_szEntryS rest i n fun y hy => h y (by simp [hy])
    unfold l_szEntryS_l0
    repeat' (first | exact Tot.some _ | exact ih _ _ | apply Tot.cond | refine Tot.ite (by assumption) ?_)
theorem tot_l_szEntryS (x : List GEntry) (n : Int) (h : Wf.wf x) : l_szEntryS_F x n = some (p_l_szEntryS x n) := by
  refine Tot.getD ?_ _
  unfold l_szEntryS_F
  refine Tot.cond (Tot.some _) ?_
  refine Tot.ite h.1 (Tot.bind (tl_l_szEntryS x 0 _ h.2) fun y hy => ?_)
  cases y <;> exact Tot.some _
theorem T_l_szEntryS (x0 : List GEntry) (x1 : Int) (h : Wf.wf x0) : Does E 99 [.one (.s .far () 3 (x0.map GEntry.t)), .one (tI x1)] [(false, [tI (p_l_szEntryS x0 x1)])] := by
  exact l_szEntryS_D x0 x1 _ (tot_l_szEntryS x0 x1 h)
theorem lel_l_szEntryS : ∀ (rest : List GEntry) (i : Nat) (n : Int), (∀ y ∈ rest, Wf.wf y) → 0 ≤ n → n ≤ 1048576 → ∀ y, l_szEntryS_l0 rest i n = some y →
    (∃ m, y = .x0 m ∧ 0 ≤ m ∧ m ≤ n ∧ ∀ z ∈ rest, Small.sm z) ∨ ∃ m, y = .ret m ∧ m < 0
  | [], i, n, _, h0, h1, y, e => by cases e; exact .inl ⟨n, rfl, h0, Int.le_refl _, fun z hz => by cases hz⟩
  | x :: rest, i, n, h, h0, h1, y, e => by
    have hx := h x (by simp)
    unfold l_szEntryS_l0 at e
    try rw [if_pos hx] at e
    by_cases q : p_l_szEntry x n < 0
    · rw [decide_eq_true q, cond_true] at e
      cases e
      exact .inr ⟨_, rfl, by omega⟩
    · rw [decide_eq_false q, cond_false] at e
      try rw [if_pos hx] at e
      obtain ⟨b, c⟩ := le_l_szEntry x n hx h0 h1 (by omega)
      rcases lel_l_szEntryS rest _ _ (fun y hy => h y (by simp [hy])) (by omega) (by omega) y e with ⟨m, g1, g2, g3, g4⟩ | g
      · refine .inl ⟨m, g1, g2, by omega, fun z hz => ?_⟩
        rcases List.mem_cons.1 hz with rfl | hz
        · exact c
        · exact g4 z hz
      · exact .inr g
theorem le_l_szEntryS (x : List GEntry) (n : Int) (hw : Wf.wf x) (h0 : 0 ≤ n) (h1 : n ≤ 1048576) (h : 0 ≤ p_l_szEntryS x n) : p_l_szEntryS x n ≤ n ∧ Small.sm x := by
  have e := tot_l_szEntryS x n hw
  generalize p_l_szEntryS x n = r at *
  unfold l_szEntryS_F at e
  obtain ⟨a1, e⟩ := szStep e h
  obtain ⟨b1, c1⟩ := szStr (n := n) (k := x.length) h0 h1 hw.1 a1
  rw [if_pos hw.1, Option.bind_eq_some_iff] at e
  obtain ⟨y, e1, e2⟩ := e
  rcases lel_l_szEntryS x 0 _ hw.2 a1 (by omega) y e1 with ⟨m, rfl, g2, g3, g4⟩ | ⟨m, rfl, g⟩
  · cases e2; exact ⟨by omega, small_of c1, g4⟩
  · cases e2; omega
theorem l_szLog_P0 (x0 : LLog) (x1 : Int) (h0 : Wf.wf x0.f2) (h1 : (decide ((p_l_szEntryS x0.f2 x1) < (0 : Int))) = true) : Does E 68 [.agg (LLog.t .far x0), .one (tI x1)] [(false, [tI (-1 : Int)])] :=
  Does.path (fn := Try.f68) [.ret [(false, [tI (p_l_szEntryS x0.f2 x1)])], .b true] _ rfl (fun _ => rfl) (fun k => by kernel_rfl) (AD (T_l_szEntryS x0.f2 x1 h0) <| AC h1 <| AN)
theorem l_szLog_P1 (x0 : LLog) (x1 : Int) (h0 : Wf.wf x0.f2) (h1 : (decide ((p_l_szEntryS x0.f2 x1) < (0 : Int))) = false) : Does E 68 [.agg (LLog.t .far x0), .one (tI x1)] [(false, [tI (p_l_szEntryS x0.f2 x1)])] :=
  Does.path (fn := Try.f68) [.ret [(false, [tI (p_l_szEntryS x0.f2 x1)])], .b false] _ rfl (fun _ => rfl) (fun k => by kernel_rfl) (AD (T_l_szEntryS x0.f2 x1 h0) <| AC h1 <| AN)
noncomputable def l_szLog_F (x0 : LLog) (x1 : Int) : Option (Int) :=
    if Wf.wf x0.f2 then cond (decide ((p_l_szEntryS x0.f2 x1) < (0 : Int)))
      (some ((-1 : Int)))
      (some (p_l_szEntryS x0.f2 x1)) else none
theorem l_szLog_D (x0 : LLog) (x1 : Int) : Ans (l_szLog_F x0 x1) (fun r => Does E 68 [.agg (LLog.t .far x0), .one (tI x1)] [(false, [tI r])]) := by
  unfold l_szLog_F
  refine Ans.pre (fun h0 => ?_)
  refine Ans.ite (fun h1 => ?_) (fun h1 => ?_)
  · exact Ans.some (l_szLog_P0 x0 x1 h0 h1)
  · exact Ans.some (l_szLog_P1 x0 x1 h0 h1)
noncomputable def p_l_szLog (x : LLog) (n : Int) : Int := (l_szLog_F x n).getD (-1)
theorem tot_l_szLog (x : LLog) (n : Int) (h : Wf.wf x) : l_szLog_F x n = some (p_l_szLog x n) := by
  have w2 : Wf.wf x.f2 := h
  refine Tot.getD ?_ _
  unfold l_szLog_F
  repeat' (first | exact Tot.some _ | apply Tot.cond | refine Tot.ite (by assumption) ?_)
theorem T_l_szLog (x0 : LLog) (x1 : Int) (h : Wf.wf x0) : Does E 68 [.agg (LLog.t .far x0), .one (tI x1)] [(false, [tI (p_l_szLog x0 x1)])] := by
  exact l_szLog_D x0 x1 _ (tot_l_szLog x0 x1 h)
theorem le_l_szLog (x : LLog) (n : Int) (hw : Wf.wf x) (h0 : 0 ≤ n) (h1 : n ≤ 1048576) (h : 0 ≤ p_l_szLog x n) : p_l_szLog x n ≤ n ∧ Small.sm x := by
  have e := tot_l_szLog x n hw
  have w2 : Wf.wf x.f2 := hw
  generalize p_l_szLog x n = r at *
  unfold l_szLog_F at e
  try rw [if_pos w2] at e
  obtain ⟨a1, e⟩ := szStep e h
  try rw [if_pos w2] at e
  obtain ⟨b1, c1⟩ := le_l_szEntryS x.f2 n w2 h0 (by omega) a1
  generalize p_l_szEntryS x.f2 n = m1 at *
  cases e
  exact ⟨by omega, c1⟩
theorem l_szPeerS_P0 (x0 : List GPeer) (x1 : Int) (h0 : (decide ((IntKind.wrap .i64 (x1 - (x0.length : Int))) < (0 : Int))) = true) : Does E 69 [.one (.s .far () 4 (x0.map GPeer.t)), .one (tI x1)] [(false, [tI (-1 : Int)])] :=
  Does.path (fn := Try.f69) [.val (.int .i64 (x0.length : Int)), .no, .b true] _ rfl (fun _ => rfl) (fun k => by kernel_rfl) (AV (ψ := fun _ => ((x0.map GPeer.t).length : Int) = (x0.length : Int)) (Ev.c lenMap) <| AC h0 <| AN)
theorem l_szPeerS_P1 (x0 : List GPeer) (x1 : Int) (h0 : (decide ((IntKind.wrap .i64 (x1 - (x0.length : Int))) < (0 : Int))) = false) : Does E 69 [.one (.s .far () 4 (x0.map GPeer.t)), .one (tI x1)] [(false, [tI (IntKind.wrap .i64 (x1 - (x0.length : Int)))])] :=
  Does.path (fn := Try.f69) [.val (.int .i64 (x0.length : Int)), .no, .b false] _ rfl (fun _ => rfl) (fun k => by kernel_rfl) (AV (ψ := fun _ => ((x0.map GPeer.t).length : Int) = (x0.length : Int)) (Ev.c lenMap) <| AC h0 <| AN)
noncomputable def l_szPeerS_F (x0 : List GPeer) (x1 : Int) : Option (Int) :=
    cond (decide ((IntKind.wrap .i64 (x1 - (x0.length : Int))) < (0 : Int)))
      (some ((-1 : Int)))
      (some (IntKind.wrap .i64 (x1 - (x0.length : Int))))
theorem l_szPeerS_D (x0 : List GPeer) (x1 : Int) : Ans (l_szPeerS_F x0 x1) (fun r => Does E 69 [.one (.s .far () 4 (x0.map GPeer.t)), .one (tI x1)] [(false, [tI r])]) := by
  unfold l_szPeerS_F
  refine Ans.ite (fun h0 => ?_) (fun h0 => ?_)
  · exact Ans.some (l_szPeerS_P0 x0 x1 h0)
  · exact Ans.some (l_szPeerS_P1 x0 x1 h0)
noncomputable def p_l_szPeerS (x : List GPeer) (n : Int) : Int := (l_szPeerS_F x n).getD (-1)
theorem tot_l_szPeerS (x : List GPeer) (n : Int) (h : Wf.wf x) : l_szPeerS_F x n = some (p_l_szPeerS x n) := by
  refine Tot.getD ?_ _
  unfold l_szPeerS_F
  refine Tot.cond (Tot.some _) ?_
  exact Tot.some _
theorem T_l_szPeerS (x0 : List GPeer) (x1 : Int) (h : Wf.wf x0) : Does E 69 [.one (.s .far () 4 (x0.map GPeer.t)), .one (tI x1)] [(false, [tI (p_l_szPeerS x0 x1)])] := by
  exact l_szPeerS_D x0 x1 _ (tot_l_szPeerS x0 x1 h)
theorem le_l_szPeerS (x : List GPeer) (n : Int) (hw : Wf.wf x) (h0 : 0 ≤ n) (h1 : n ≤ 1048576) (h : 0 ≤ p_l_szPeerS x n) : p_l_szPeerS x n ≤ n ∧ Small.sm x := by
  have e := tot_l_szPeerS x n hw
  generalize p_l_szPeerS x n = r at *
  unfold l_szPeerS_F at e
  obtain ⟨a1, e⟩ := szStep e h
  obtain ⟨b1, c1⟩ := szStr (n := n) (k := x.length) h0 h1 hw.1 a1
  cases e
  exact ⟨b1, small_of c1, fun y _ => trivial⟩
theorem l_szNode_P0 (x0 : LNode) (x1 : Int) (h0 : Wf.wf x0.f5) (h1 : (decide ((p_l_szIntS x0.f5 x1) < (0 : Int))) = true) : Does E 13 [.agg (LNode.t .far x0), .one (tI x1)] [(false, [tI (-1 : Int)])] :=
  Does.path (fn := Try.f13) [.ret [(false, [tI (p_l_szIntS x0.f5 x1)])], .b true] _ rfl (fun _ => rfl) (fun k => by kernel_rfl) (AD (T_l_szIntS x0.f5 x1 h0) <| AC h1 <| AN)
theorem l_szNode_P1 (x0 : LNode) (x1 : Int) (h0 : Wf.wf x0.f5) (h1 : (decide ((p_l_szIntS x0.f5 x1) < (0 : Int))) = false) (h2 : Wf.wf x0.f6) (h3 : (decide ((p_l_szLog x0.f6 (p_l_szIntS x0.f5 x1)) < (0 : Int))) = true) : Does E 13 [.agg (LNode.t .far x0), .one (tI x1)] [(false, [tI (-1 : Int)])] :=
  Does.path (fn := Try.f13) [.ret [(false, [tI (p_l_szIntS x0.f5 x1)])], .b false, .ret [(false, [tI (p_l_szLog x0.f6 (p_l_szIntS x0.f5 x1))])], .b true] _ rfl (fun _ => rfl) (fun k => by kernel_rfl) (AD (T_l_szIntS x0.f5 x1 h0) <| AC h1 <| AD (T_l_szLog x0.f6 (p_l_szIntS x0.f5 x1) h2) <| AC h3 <| AN)
theorem l_szNode_P2 (x0 : LNode) (x1 : Int) (h0 : Wf.wf x0.f5) (h1 : (decide ((p_l_szIntS x0.f5 x1) < (0 : Int))) = false) (h2 : Wf.wf x0.f6) (h3 : (decide ((p_l_szLog x0.f6 (p_l_szIntS x0.f5 x1)) < (0 : Int))) = false) (h4 : Wf.wf x0.f10) (h5 : (decide ((p_l_szIntS x0.f10 (p_l_szLog x0.f6 (p_l_szIntS x0.f5 x1))) < (0 : Int))) = true) : Does E 13 [.agg (LNode.t .far x0), .one (tI x1)] [(false, [tI (-1 : Int)])] :=
  Does.path (fn := Try.f13) [.ret [(false, [tI (p_l_szIntS x0.f5 x1)])], .b false, .ret [(false, [tI (p_l_szLog x0.f6 (p_l_szIntS x0.f5 x1))])], .b false, .ret [(false, [tI (p_l_szIntS x0.f10 (p_l_szLog x0.f6 (p_l_szIntS x0.f5 x1)))])], .b true] _ rfl (fun _ => rfl) (fun k => by kernel_rfl) (AD (T_l_szIntS x0.f5 x1 h0) <| AC h1 <| AD (T_l_szLog x0.f6 (p_l_szIntS x0.f5 x1) h2) <| AC h3 <| AD (T_l_szIntS x0.f10 (p_l_szLog x0.f6 (p_l_szIntS x0.f5 x1)) h4) <| AC h5 <| AN)
theorem l_szNode_P3 (x0 : LNode) (x1 : Int) (h0 : Wf.wf x0.f5) (h1 : (decide ((p_l_szIntS x0.f5 x1) < (0 : Int))) = false) (h2 : Wf.wf x0.f6) (h3 : (decide ((p_l_szLog x0.f6 (p_l_szIntS x0.f5 x1)) < (0 : Int))) = false) (h4 : Wf.wf x0.f10) (h5 : (decide ((p_l_szIntS x0.f10 (p_l_szLog x0.f6 (p_l_szIntS x0.f5 x1))) < (0 : Int))) = false) (h6 : Wf.wf x0.f11) (h7 : (decide ((p_l_szPeerS x0.f11 (p_l_szIntS x0.f10 (p_l_szLog x0.f6 (p_l_szIntS x0.f5 x1)))) < (0 : Int))) = true) : Does E 13 [.agg (LNode.t .far x0), .one (tI x1)] [(false, [tI (-1 : Int)])] :=
  Does.path (fn := Try.f13) [.ret [(false, [tI (p_l_szIntS x0.f5 x1)])], .b false, .ret [(false, [tI (p_l_szLog x0.f6 (p_l_szIntS x0.f5 x1))])], .b false, .ret [(false, [tI (p_l_szIntS x0.f10 (p_l_szLog x0.f6 (p_l_szIntS x0.f5 x1)))])], .b false, .ret [(false, [tI (p_l_szPeerS x0.f11 (p_l_szIntS x0.f10 (p_l_szLog x0.f6 (p_l_szIntS x0.f5 x1))))])], .b true] _ rfl (fun _ => rfl) (fun k => by kernel_rfl) (AD (T_l_szIntS x0.f5 x1 h0) <| AC h1 <| AD (T_l_szLog x0.f6 (p_l_szIntS x0.f5 x1) h2) <| AC h3 <| AD (T_l_szIntS x0.f10 (p_l_szLog x0.f6 (p_l_szIntS x0.f5 x1)) h4) <| AC h5 <| AD (T_l_szPeerS x0.f11 (p_l_szIntS x0.f10 (p_l_szLog x0.f6 (p_l_szIntS x0.f5 x1))) h6) <| AC h7 <| AN)
theorem l_szNode_P4 (x0 : LNode) (x1 : Int) (h0 : Wf.wf x0.f5) (h1 : (decide ((p_l_szIntS x0.f5 x1) < (0 : Int))) = false) (h2 : Wf.wf x0.f6) (h3 : (decide ((p_l_szLog x0.f6 (p_l_szIntS x0.f5 x1)) < (0 : Int))) = false) (h4 : Wf.wf x0.f10) (h5 : (decide ((p_l_szIntS x0.f10 (p_l_szLog x0.f6 (p_l_szIntS x0.f5 x1))) < (0 : Int))) = false) (h6 : Wf.wf x0.f11) (h7 : (decide ((p_l_szPeerS x0.f11 (p_l_szIntS x0.f10 (p_l_szLog x0.f6 (p_l_szIntS x0.f5 x1)))) < (0 : Int))) = false) : Does E 13 [.agg (LNode.t .far x0), .one (tI x1)] [(false, [tI (p_l_szPeerS x0.f11 (p_l_szIntS x0.f10 (p_l_szLog x0.f6 (p_l_szIntS x0.f5 x1))))])] :=
  Does.path (fn := Try.f13) [.ret [(false, [tI (p_l_szIntS x0.f5 x1)])], .b false, .ret [(false, [tI (p_l_szLog x0.f6 (p_l_szIntS x0.f5 x1))])], .b false, .ret [(false, [tI (p_l_szIntS x0.f10 (p_l_szLog x0.f6 (p_l_szIntS x0.f5 x1)))])], .b false, .ret [(false, [tI (p_l_szPeerS x0.f11 (p_l_szIntS x0.f10 (p_l_szLog x0.f6 (p_l_szIntS x0.f5 x1))))])], .b false] _ rfl (fun _ => rfl) (fun k => by kernel_rfl) (AD (T_l_szIntS x0.f5 x1 h0) <| AC h1 <| AD (T_l_szLog x0.f6 (p_l_szIntS x0.f5 x1) h2) <| AC h3 <| AD (T_l_szIntS x0.f10 (p_l_szLog x0.f6 (p_l_szIntS x0.f5 x1)) h4) <| AC h5 <| AD (T_l_szPeerS x0.f11 (p_l_szIntS x0.f10 (p_l_szLog x0.f6 (p_l_szIntS x0.f5 x1))) h6) <| AC h7 <| AN)
noncomputable def l_szNode_F (x0 : LNode) (x1 : Int) : Option (Int) :=
    if Wf.wf x0.f5 then cond (decide ((p_l_szIntS x0.f5 x1) < (0 : Int)))
      (some ((-1 : Int)))
      (if Wf.wf x0.f6 then cond (decide ((p_l_szLog x0.f6 (p_l_szIntS x0.f5 x1)) < (0 : Int)))
        (some ((-1 : Int)))
        (if Wf.wf x0.f10 then cond (decide ((p_l_szIntS x0.f10 (p_l_szLog x0.f6 (p_l_szIntS x0.f5 x1))) < (0 : Int)))
          (some ((-1 : Int)))
          (if Wf.wf x0.f11 then cond (decide ((p_l_szPeerS x0.f11 (p_l_szIntS x0.f10 (p_l_szLog x0.f6 (p_l_szIntS x0.f5 x1)))) < (0 : Int)))
            (some ((-1 : Int)))
            (some (p_l_szPeerS x0.f11 (p_l_szIntS x0.f10 (p_l_szLog x0.f6 (p_l_szIntS x0.f5 x1))))) else none) else none) else none) else none
theorem l_szNode_D (x0 : LNode) (x1 : Int) : Ans (l_szNode_F x0 x1) (fun r => Does E 13 [.agg (LNode.t .far x0), .one (tI x1)] [(false, [tI r])]) := by
  unfold l_szNode_F
  refine Ans.pre (fun h0 => ?_)
  refine Ans.ite (fun h1 => ?_) (fun h1 => ?_)
  · exact Ans.some (l_szNode_P0 x0 x1 h0 h1)
  · refine Ans.pre (fun h2 => ?_)
    refine Ans.ite (fun h3 => ?_) (fun h3 => ?_)
    · exact Ans.some (l_szNode_P1 x0 x1 h0 h1 h2 h3)
    · refine Ans.pre (fun h4 => ?_)
      refine Ans.ite (fun h5 => ?_) (fun h5 => ?_)
      · exact Ans.some (l_szNode_P2 x0 x1 h0 h1 h2 h3 h4 h5)
      · refine Ans.pre (fun h6 => ?_)
        refine Ans.ite (fun h7 => ?_) (fun h7 => ?_)
        · exact Ans.some (l_szNode_P3 x0 x1 h0 h1 h2 h3 h4 h5 h6 h7)
        · exact Ans.some (l_szNode_P4 x0 x1 h0 h1 h2 h3 h4 h5 h6 h7)
noncomputable def p_l_szNode (x : LNode) (n : Int) : Int := (l_szNode_F x n).getD (-1)
theorem tot_l_szNode (x : LNode) (n : Int) (h : Wf.wf x) : l_szNode_F x n = some (p_l_szNode x n) := by
  obtain ⟨w5, w6, w10, w11⟩ := h
  refine Tot.getD ?_ _
  unfold l_szNode_F
  repeat' (first | exact Tot.some _ | apply Tot.cond | refine Tot.ite (by assumption) ?_)
theorem T_l_szNode (x0 : LNode) (x1 : Int) (h : Wf.wf x0) : Does E 13 [.agg (LNode.t .far x0), .one (tI x1)] [(false, [tI (p_l_szNode x0 x1)])] := by
  exact l_szNode_D x0 x1 _ (tot_l_szNode x0 x1 h)
theorem le_l_szNode (x : LNode) (n : Int) (hw : Wf.wf x) (h0 : 0 ≤ n) (h1 : n ≤ 1048576) (h : 0 ≤ p_l_szNode x n) : p_l_szNode x n ≤ n ∧ Small.sm x := by
  have e := tot_l_szNode x n hw
  obtain ⟨w5, w6, w10, w11⟩ := hw
  generalize p_l_szNode x n = r at *
  unfold l_szNode_F at e
  try rw [if_pos w5] at e
  obtain ⟨a1, e⟩ := szStep e h
  try rw [if_pos w5] at e
  obtain ⟨b1, c1⟩ := le_l_szIntS x.f5 n w5 h0 (by omega) a1
  generalize p_l_szIntS x.f5 n = m1 at *
  try rw [if_pos w6] at e
  obtain ⟨a2, e⟩ := szStep e h
  try rw [if_pos w6] at e
  obtain ⟨b2, c2⟩ := le_l_szLog x.f6 m1 w6 a1 (by omega) a2
  generalize p_l_szLog x.f6 m1 = m2 at *
  try rw [if_pos w10] at e
  obtain ⟨a3, e⟩ := szStep e h
  try rw [if_pos w10] at e
  obtain ⟨b3, c3⟩ := le_l_szIntS x.f10 m2 w10 a2 (by omega) a3
  generalize p_l_szIntS x.f10 m2 = m3 at *
  try rw [if_pos w11] at e
  obtain ⟨a4, e⟩ := szStep e h
  try rw [if_pos w11] at e
  obtain ⟨b4, c4⟩ := le_l_szPeerS x.f11 m3 w11 a3 (by omega) a4
  generalize p_l_szPeerS x.f11 m3 = m4 at *
  cases e
  exact ⟨by omega, ⟨c1, c2, c3, c4⟩⟩
inductive l_toIntS_X0 where
  | x0 (v3 : List Int)
def l_toIntS_Q0 (v0 : List Int) (v3 : List Int) (v4 : Int) : l_toIntS_X0 → Prop
  | .x0 zv3 => Loops E 25 (lpAt Try.f25 0) (stL 22 [(0, .one (.s .far () 1 (v0.map etI))), (3, .one (.s .own () 1 (v3.map etI))), (4, .one (tI v4))]) (.exit 0) (stL 22 [(3, .one (.s .own () 1 (zv3.map etI)))])
theorem l_toIntS_R0_0 (v0 : List Int) (v3 : List Int) (v4 : Int) (g0 : Int) (g1 : Int) (h0 : (decide (v4 < (v0.length : Int))) = true) (h1 : getI v0 v4 = some g0) (h2 : getI v3 v4 = some g1) : Round E 25 (lpAt Try.f25 0) (stL 22 [(0, .one (.s .far () 1 (v0.map etI))), (3, .one (.s .own () 1 (v3.map etI))), (4, .one (tI v4))]) .normal (stL 22 [(0, .one (.s .far () 1 (v0.map etI))), (3, .one (.s .own () 1 ((v3.set v4.toNat g0).map etI))), (4, .one (tI (inc v4)))]) :=
  Round.path [.val (.int .i64 (v0.length : Int)), .b true, .row (etI g0), .row (etI g1), .rows ((v3.set v4.toNat g0).map etI)] _ (fun k => by kernel_rfl) (AV (ψ := fun _ => ((v0.map etI).length : Int) = (v0.length : Int)) (Ev.c lenMap) <| AC h0 <| AV (ψ := fun _ => 0 ≤ v4 ∧ (v0.map etI)[v4.toNat]? = some (etI g0)) (Ev.c (getRow h1)) <| AV (ψ := fun _ => 0 ≤ v4 ∧ v4 < ((v3.map etI).length : Int)) (Ev.c (getLt h2)) <| AV (ψ := fun _ => (v3.map etI)[0 + v4.toNat]? = some (etI g1)) (Ev.c (getRow0 h2)) <| AV (ψ := fun _ => (v3.map etI).set (0 + v4.toNat) (spliceAt (etI g1) 0 [tI g0]) = (v3.set v4.toNat g0).map etI) (Ev.c (setMap (by rfl))) <| AN)
theorem l_toIntS_R0_1 (v0 : List Int) (v3 : List Int) (v4 : Int) (h0 : (decide (v4 < (v0.length : Int))) = false) : Round E 25 (lpAt Try.f25 0) (stL 22 [(0, .one (.s .far () 1 (v0.map etI))), (3, .one (.s .own () 1 (v3.map etI))), (4, .one (tI v4))]) (.exit 0) (stL 22 [(3, .one (.s .own () 1 (v3.map etI)))]) :=
  Round.path [.val (.int .i64 (v0.length : Int)), .b false] _ (fun k => by kernel_rfl) (AV (ψ := fun _ => ((v0.map etI).length : Int) = (v0.length : Int)) (Ev.c lenMap) <| AC h0 <| AN)
noncomputable def l_toIntS_l0  : List Int → Nat → (List Int) → Option l_toIntS_X0
  | [], i, v3 => some (.x0 v3)
  | hd :: rest, i, v3 => (getI v3 (i : Int)).bind fun g1 => l_toIntS_l0 rest (i + 1) (v3.set (i : Int).toNat hd)
theorem l_toIntS_L0 (v0 : List Int) (rest : List Int) : ∀ (i : Nat) (v3 : List Int), (v0).drop i = rest → v0.length ≤ 9223372036854775807 → Ans (l_toIntS_l0 rest i v3) (l_toIntS_Q0 v0 v3 (i : Int)) := by
  induction rest with
  | nil =>
    intro i v3 hE hl
    have hb := foldEnd hE
    unfold l_toIntS_l0
    exact Ans.some (Loops.stop (l_toIntS_R0_1 v0 v3 (i : Int) hb) (by intro h; cases h))
  | cons hd rest ih =>
    intro i v3 hE hl
    have hb := foldMore hE
    have hw := foldNext hE hl
    have hE2 := foldRest hE
    have hg := foldGet hE
    unfold l_toIntS_l0
    refine Ans.bind (fun g1 h2 => ?_)
    exact (ih (i + 1) (v3.set (i : Int).toNat hd) hE2 hl).mono fun y hy => by have r := l_toIntS_R0_0 v0 v3 (i : Int) hd g1 hb hg h2; rw [hw] at r; cases y <;> exact Loops.next r hy
theorem l_toIntS_P0 (x0 : List Int) (w0_3 : List Int) (h0 : 0 ≤ (x0.length : Int) ∧ (x0.length : Int) ≤ (x0.length : Int) ∧ ((8 : Nat) : Int) * (x0.length : Int) ≤ 281474976710656 ∧ (x0.length : Int) ≤ 4611686018427387904) (h1 : Loops E 25 (lpAt Try.f25 0) (stL 22 [(0, .one (.s .far () 1 (x0.map etI))), (3, .one (.s .own () 1 ((List.replicate (x0.length : Int).toNat (0 : Int)).map etI))), (4, .one (tI (0 : Int)))]) (.exit 0) (stL 22 [(3, .one (.s .own () 1 (w0_3.map etI)))])) : Does E 25 [.one (.s .far () 1 (x0.map etI))] [(false, [.s .own () 1 (w0_3.map etI)])] :=
  Does.path (fn := Try.f25) [.val (.int .i64 (x0.length : Int)), .rows ((List.replicate (x0.length : Int).toNat (0 : Int)).map etI), .lp (.exit 0) (stL 22 [(3, .one (.s .own () 1 (w0_3.map etI)))])] _ rfl (fun _ => rfl) (fun k => by kernel_rfl) (AV (ψ := fun _ => ((x0.map etI).length : Int) = (x0.length : Int)) (Ev.c lenMap) <| AV (ψ := fun _ => 0 ≤ (x0.length : Int) ∧ (x0.length : Int) ≤ (x0.length : Int) ∧ ((8 : Nat) : Int) * (x0.length : Int) ≤ 281474976710656 ∧ (x0.length : Int) ≤ 4611686018427387904) (Ev.c h0) <| AV (ψ := fun _ => List.replicate (x0.length : Int).toNat [tI (0 : Int)] = (List.replicate (x0.length : Int).toNat (0 : Int)).map etI) (Ev.c (repMap rfl)) <| AV (ψ := fun k => LoopK E 25 (lpAt Try.f25 0) (stL 22 [(0, .one (.s .far () 1 (x0.map etI))), (3, .one (.s .own () 1 ((List.replicate (x0.length : Int).toNat (0 : Int)).map etI))), (4, .one (tI (0 : Int)))]) (.exit 0) (stL 22 [(3, .one (.s .own () 1 (w0_3.map etI)))]) k k) (Loops.ev h1) <| AN)
noncomputable def l_toIntS_F (x0 : List Int) : Option ((List Int)) :=
    if 0 ≤ (x0.length : Int) ∧ (x0.length : Int) ≤ (x0.length : Int) ∧ ((8 : Nat) : Int) * (x0.length : Int) ≤ 281474976710656 ∧ (x0.length : Int) ≤ 4611686018427387904 then if x0.length ≤ 9223372036854775807 then (l_toIntS_l0 x0 0 (List.replicate (x0.length : Int).toNat (0 : Int))).bind fun y => match y with
      | .x0 w0_3 => (some (w0_3)) else none else none
theorem l_toIntS_D (x0 : List Int) : Ans (l_toIntS_F x0) (fun r => Does E 25 [.one (.s .far () 1 (x0.map etI))] [(false, [.s .own () 1 (r.map etI)])]) := by
  unfold l_toIntS_F
  refine Ans.pre (fun h0 => ?_)
  refine Ans.pre (fun hl1 => ?_)
  refine Ans.bind (fun y hy => ?_)
  replace hy := l_toIntS_L0 x0 x0 0 (List.replicate (x0.length : Int).toNat (0 : Int)) rfl hl1 y hy
  cases y with
  | x0 w0_3 =>
    have h1 := hy
    exact Ans.some (l_toIntS_P0 x0 w0_3 h0 h1)
def p_l_toIntS (l : List Int) : List Int := l
theorem cp_l_toIntS : ∀ (rest : List Int) (i : Nat) (v : List Int), (∀ y ∈ rest, Small.sm y) → v.length = i + rest.length → l_toIntS_l0 rest i v = some (.x0 (v.take i ++ rest))
  | [], i, v, _, hv => by unfold l_toIntS_l0; rw [List.take_of_length_le (by simp at hv; omega)]; simp
  | x :: rest, i, v, h, hv => by
    have hx := h x (by simp)
    have hi : i < v.length := by simp at hv; omega
    unfold l_toIntS_l0
    rw [getI_nat, List.getElem?_eq_getElem hi, Option.bind_some]
    try rw [if_pos hx]
    rw [Int.toNat_natCast, cp_l_toIntS rest (i + 1) _ (fun y hy => h y (by simp [hy])) (by simp at hv ⊢; omega), takeSet hi]
    simp
theorem T_l_toIntS (x0 : List Int) (h : Small.sm x0) : Does E 25 [.one (.s .far () 1 (x0.map etI))] [(false, [.s .own () 1 ((p_l_toIntS x0).map etI)])] := by
  exact l_toIntS_D x0 _ (by
    unfold l_toIntS_F
    rw [if_pos (makeOk 8 (by decide) h.1 rfl), if_pos (sm_wf_len h), cp_l_toIntS x0 0 _ h.2 (by simp)]
    simp [p_l_toIntS])
theorem l_toEntry_P0 (x0 : GEntry)  : Does E 154 [.agg (GEntry.t x0)] [(true, GEntry.t x0)] :=
  Does.path (fn := Try.f154) [] _ rfl (fun _ => rfl) (fun k => by kernel_rfl) AN
noncomputable def l_toEntry_F (x0 : GEntry) : Option (GEntry) :=
    some (x0)
theorem l_toEntry_D (x0 : GEntry) : Ans (l_toEntry_F x0) (fun r => Does E 154 [.agg (GEntry.t x0)] [(true, GEntry.t r)]) := by
  unfold l_toEntry_F
  exact Ans.some (l_toEntry_P0 x0)
def p_l_toEntry (x : GEntry) : GEntry := x
theorem T_l_toEntry (x0 : GEntry) (h : Small.sm x0) : Does E 154 [.agg (GEntry.t x0)] [(true, GEntry.t (p_l_toEntry x0))] := by
  have w2 : Small.sm x0.f2 := h
  exact l_toEntry_D x0 _ (by
    unfold l_toEntry_F
    repeat rw [if_pos (by assumption)]
    rfl)
inductive l_toEntryS_X0 where
  | x0 (v3 : List GEntry)
def l_toEntryS_Q0 (v0 : List GEntry) (v3 : List GEntry) (v4 : Int) : l_toEntryS_X0 → Prop
  | .x0 zv3 => Loops E 105 (lpAt Try.f105 0) (stL 23 [(0, .one (.s .far () 3 (v0.map GEntry.t))), (3, .one (.s .own () 3 (v3.map GEntry.t))), (4, .one (tI v4))]) (.exit 0) (stL 23 [(3, .one (.s .own () 3 (zv3.map GEntry.t)))])
theorem l_toEntryS_R0_0 (v0 : List GEntry) (v3 : List GEntry) (v4 : Int) (g0 : GEntry) (g1 : GEntry) (h0 : (decide (v4 < (v0.length : Int))) = true) (h1 : getI v0 v4 = some g0) (h2 : Small.sm g0) (h3 : getI v3 v4 = some g1) : Round E 105 (lpAt Try.f105 0) (stL 23 [(0, .one (.s .far () 3 (v0.map GEntry.t))), (3, .one (.s .own () 3 (v3.map GEntry.t))), (4, .one (tI v4))]) .normal (stL 23 [(0, .one (.s .far () 3 (v0.map GEntry.t))), (3, .one (.s .own () 3 ((v3.set v4.toNat (p_l_toEntry g0)).map GEntry.t))), (4, .one (tI (inc v4)))]) :=
  Round.path [.val (.int .i64 (v0.length : Int)), .b true, .row (GEntry.t g0), .ret [(true, GEntry.t (p_l_toEntry g0))], .row (GEntry.t g1), .rows ((v3.set v4.toNat (p_l_toEntry g0)).map GEntry.t)] _ (fun k => by kernel_rfl) (AV (ψ := fun _ => ((v0.map GEntry.t).length : Int) = (v0.length : Int)) (Ev.c lenMap) <| AC h0 <| AV (ψ := fun _ => 0 ≤ v4 ∧ (v0.map GEntry.t)[v4.toNat]? = some (GEntry.t g0)) (Ev.c (getRow h1)) <| AD (T_l_toEntry g0 h2) <| AV (ψ := fun _ => 0 ≤ v4 ∧ v4 < ((v3.map GEntry.t).length : Int)) (Ev.c (getLt h3)) <| AV (ψ := fun _ => (v3.map GEntry.t)[0 + v4.toNat]? = some (GEntry.t g1)) (Ev.c (getRow0 h3)) <| AV (ψ := fun _ => (v3.map GEntry.t).set (0 + v4.toNat) (spliceAt (GEntry.t g1) 0 [tI ((p_l_toEntry g0).f0), tI ((p_l_toEntry g0).f1), tS ((p_l_toEntry g0).f2)]) = (v3.set v4.toNat (p_l_toEntry g0)).map GEntry.t) (Ev.c (setMap (by rfl))) <| AN)
theorem l_toEntryS_R0_1 (v0 : List GEntry) (v3 : List GEntry) (v4 : Int) (h0 : (decide (v4 < (v0.length : Int))) = false) : Round E 105 (lpAt Try.f105 0) (stL 23 [(0, .one (.s .far () 3 (v0.map GEntry.t))), (3, .one (.s .own () 3 (v3.map GEntry.t))), (4, .one (tI v4))]) (.exit 0) (stL 23 [(3, .one (.s .own () 3 (v3.map GEntry.t)))]) :=
  Round.path [.val (.int .i64 (v0.length : Int)), .b false] _ (fun k => by kernel_rfl) (AV (ψ := fun _ => ((v0.map GEntry.t).length : Int) = (v0.length : Int)) (Ev.c lenMap) <| AC h0 <| AN)
noncomputable def l_toEntryS_l0  : List GEntry → Nat → (List GEntry) → Option l_toEntryS_X0
  | [], i, v3 => some (.x0 v3)
  | hd :: rest, i, v3 => if Small.sm hd then (getI v3 (i : Int)).bind fun g1 => l_toEntryS_l0 rest (i + 1) (v3.set (i : Int).toNat (p_l_toEntry hd)) else none
theorem l_toEntryS_L0 (v0 : List GEntry) (rest : List GEntry) : ∀ (i : Nat) (v3 : List GEntry), (v0).drop i = rest → v0.length ≤ 9223372036854775807 → Ans (l_toEntryS_l0 rest i v3) (l_toEntryS_Q0 v0 v3 (i : Int)) := by
  induction rest with
  | nil =>
    intro i v3 hE hl
    have hb := foldEnd hE
    unfold l_toEntryS_l0
    exact Ans.some (Loops.stop (l_toEntryS_R0_1 v0 v3 (i : Int) hb) (by intro h; cases h))
  | cons hd rest ih =>
    intro i v3 hE hl
    have hb := foldMore hE
    have hw := foldNext hE hl
    have hE2 := foldRest hE
    have hg := foldGet hE
    unfold l_toEntryS_l0
    refine Ans.pre (fun h2 => ?_)
    refine Ans.bind (fun g1 h3 => ?_)
    exact (ih (i + 1) (v3.set (i : Int).toNat (p_l_toEntry hd)) hE2 hl).mono fun y hy => by have r := l_toEntryS_R0_0 v0 v3 (i : Int) hd g1 hb hg h2 h3; rw [hw] at r; cases y <;> exact Loops.next r hy
theorem l_toEntryS_P0 (x0 : List GEntry) (w0_3 : List GEntry) (h0 : 0 ≤ (x0.length : Int) ∧ (x0.length : Int) ≤ (x0.length : Int) ∧ ((32 : Nat) : Int) * (x0.length : Int) ≤ 281474976710656 ∧ (x0.length : Int) ≤ 4611686018427387904) (h1 : Loops E 105 (lpAt Try.f105 0) (stL 23 [(0, .one (.s .far () 3 (x0.map GEntry.t))), (3, .one (.s .own () 3 ((List.replicate (x0.length : Int).toNat (GEntry.mk (0 : Int) (0 : Int) ByteArray.empty)).map GEntry.t))), (4, .one (tI (0 : Int)))]) (.exit 0) (stL 23 [(3, .one (.s .own () 3 (w0_3.map GEntry.t)))])) : Does E 105 [.one (.s .far () 3 (x0.map GEntry.t))] [(false, [.s .own () 3 (w0_3.map GEntry.t)])] :=
  Does.path (fn := Try.f105) [.val (.int .i64 (x0.length : Int)), .rows ((List.replicate (x0.length : Int).toNat (GEntry.mk (0 : Int) (0 : Int) ByteArray.empty)).map GEntry.t), .lp (.exit 0) (stL 23 [(3, .one (.s .own () 3 (w0_3.map GEntry.t)))])] _ rfl (fun _ => rfl) (fun k => by kernel_rfl) (AV (ψ := fun _ => ((x0.map GEntry.t).length : Int) = (x0.length : Int)) (Ev.c lenMap) <| AV (ψ := fun _ => 0 ≤ (x0.length : Int) ∧ (x0.length : Int) ≤ (x0.length : Int) ∧ ((32 : Nat) : Int) * (x0.length : Int) ≤ 281474976710656 ∧ (x0.length : Int) ≤ 4611686018427387904) (Ev.c h0) <| AV (ψ := fun _ => List.replicate (x0.length : Int).toNat [tI (0 : Int), tI (0 : Int), tS ByteArray.empty] = (List.replicate (x0.length : Int).toNat (GEntry.mk (0 : Int) (0 : Int) ByteArray.empty)).map GEntry.t) (Ev.c (repMap rfl)) <| AV (ψ := fun k => LoopK E 105 (lpAt Try.f105 0) (stL 23 [(0, .one (.s .far () 3 (x0.map GEntry.t))), (3, .one (.s .own () 3 ((List.replicate (x0.length : Int).toNat (GEntry.mk (0 : Int) (0 : Int) ByteArray.empty)).map GEntry.t))), (4, .one (tI (0 : Int)))]) (.exit 0) (stL 23 [(3, .one (.s .own () 3 (w0_3.map GEntry.t)))]) k k) (Loops.ev h1) <| AN)
noncomputable def l_toEntryS_F (x0 : List GEntry) : Option ((List GEntry)) :=
    if 0 ≤ (x0.length : Int) ∧ (x0.length : Int) ≤ (x0.length : Int) ∧ ((32 : Nat) : Int) * (x0.length : Int) ≤ 281474976710656 ∧ (x0.length : Int) ≤ 4611686018427387904 then if x0.length ≤ 9223372036854775807 then (l_toEntryS_l0 x0 0 (List.replicate (x0.length : Int).toNat (GEntry.mk (0 : Int) (0 : Int) ByteArray.empty))).bind fun y => match y with
      | .x0 w0_3 => (some (w0_3)) else none else none
theorem l_toEntryS_D (x0 : List GEntry) : Ans (l_toEntryS_F x0) (fun r => Does E 105 [.one (.s .far () 3 (x0.map GEntry.t))] [(false, [.s .own () 3 (r.map GEntry.t)])]) := by
  unfold l_toEntryS_F
  refine Ans.pre (fun h0 => ?_)
  refine Ans.pre (fun hl1 => ?_)
  refine Ans.bind (fun y hy => ?_)
  replace hy := l_toEntryS_L0 x0 x0 0 (List.replicate (x0.length : Int).toNat (GEntry.mk (0 : Int) (0 : Int) ByteArray.empty)) rfl hl1 y hy
  cases y with
  | x0 w0_3 =>
    have h1 := hy
    exact Ans.some (l_toEntryS_P0 x0 w0_3 h0 h1)
def p_l_toEntryS (l : List GEntry) : List GEntry := l
theorem cp_l_toEntryS : ∀ (rest : List GEntry) (i : Nat) (v : List GEntry), (∀ y ∈ rest, Small.sm y) → v.length = i + rest.length → l_toEntryS_l0 rest i v = some (.x0 (v.take i ++ rest))
  | [], i, v, _, hv => by unfold l_toEntryS_l0; rw [List.take_of_length_le (by simp at hv; omega)]; simp
  | x :: rest, i, v, h, hv => by
    have hx := h x (by simp)
    have hi : i < v.length := by simp at hv; omega
    unfold l_toEntryS_l0
    rw [getI_nat, List.getElem?_eq_getElem hi, Option.bind_some]
    try rw [if_pos hx]
    rw [Int.toNat_natCast, cp_l_toEntryS rest (i + 1) _ (fun y hy => h y (by simp [hy])) (by simp at hv ⊢; omega), takeSet hi]
    simp [p_l_toEntry]
theorem T_l_toEntryS (x0 : List GEntry) (h : Small.sm x0) : Does E 105 [.one (.s .far () 3 (x0.map GEntry.t))] [(false, [.s .own () 3 ((p_l_toEntryS x0).map GEntry.t)])] := by
  exact l_toEntryS_D x0 _ (by
    unfold l_toEntryS_F
    rw [if_pos (makeOk 32 (by decide) h.1 rfl), if_pos (sm_wf_len h), cp_l_toEntryS x0 0 _ h.2 (by simp)]
    simp [p_l_toEntryS])
theorem l_toLog_P0 (x0 : LLog) (h0 : Small.sm x0.f2) : Does E 71 [.agg (LLog.t .far x0)] [(true, GLog.t .own (GLog.mk x0.f0 x0.f1 (p_l_toEntryS x0.f2)))] :=
  Does.path (fn := Try.f71) [.ret [(false, [.s .own () 3 ((p_l_toEntryS x0.f2).map GEntry.t)])]] _ rfl (fun _ => rfl) (fun k => by kernel_rfl) (AD (T_l_toEntryS x0.f2 h0) <| AN)
noncomputable def l_toLog_F (x0 : LLog) : Option (GLog) :=
    if Small.sm x0.f2 then some ((GLog.mk x0.f0 x0.f1 (p_l_toEntryS x0.f2))) else none
theorem l_toLog_D (x0 : LLog) : Ans (l_toLog_F x0) (fun r => Does E 71 [.agg (LLog.t .far x0)] [(true, GLog.t .own r)]) := by
  unfold l_toLog_F
  refine Ans.pre (fun h0 => ?_)
  exact Ans.some (l_toLog_P0 x0 h0)
def p_l_toLog (x : LLog) : GLog := ⟨x.f0, x.f1, p_l_toEntryS x.f2⟩
theorem sm_l_toLog {x : LLog} (h : Small.sm x) : Small.sm (p_l_toLog x) := by
  have w2 : Small.sm x.f2 := h
  exact w2
theorem T_l_toLog (x0 : LLog) (h : Small.sm x0) : Does E 71 [.agg (LLog.t .far x0)] [(true, GLog.t .own (p_l_toLog x0))] := by
  have w2 : Small.sm x0.f2 := h
  exact l_toLog_D x0 _ (by
    unfold l_toLog_F
    repeat rw [if_pos (by assumption)]
    rfl)
theorem l_toPeer_P0 (x0 : GPeer)  : Does E 142 [.agg (GPeer.t x0)] [(true, GPeer.t x0)] :=
  Does.path (fn := Try.f142) [] _ rfl (fun _ => rfl) (fun k => by kernel_rfl) AN
noncomputable def l_toPeer_F (x0 : GPeer) : Option (GPeer) :=
    some (x0)
theorem l_toPeer_D (x0 : GPeer) : Ans (l_toPeer_F x0) (fun r => Does E 142 [.agg (GPeer.t x0)] [(true, GPeer.t r)]) := by
  unfold l_toPeer_F
  exact Ans.some (l_toPeer_P0 x0)
def p_l_toPeer (x : GPeer) : GPeer := x
theorem T_l_toPeer (x0 : GPeer) (h : Small.sm x0) : Does E 142 [.agg (GPeer.t x0)] [(true, GPeer.t (p_l_toPeer x0))] := by
  skip
  exact l_toPeer_D x0 _ (by
    unfold l_toPeer_F
    repeat rw [if_pos (by assumption)]
    rfl)
inductive l_toPeerS_X0 where
  | x0 (v3 : List GPeer)
def l_toPeerS_Q0 (v0 : List GPeer) (v3 : List GPeer) (v4 : Int) : l_toPeerS_X0 → Prop
  | .x0 zv3 => Loops E 72 (lpAt Try.f72 0) (stL 23 [(0, .one (.s .far () 4 (v0.map GPeer.t))), (3, .one (.s .own () 4 (v3.map GPeer.t))), (4, .one (tI v4))]) (.exit 0) (stL 23 [(3, .one (.s .own () 4 (zv3.map GPeer.t)))])
theorem l_toPeerS_R0_0 (v0 : List GPeer) (v3 : List GPeer) (v4 : Int) (g0 : GPeer) (g1 : GPeer) (h0 : (decide (v4 < (v0.length : Int))) = true) (h1 : getI v0 v4 = some g0) (h2 : Small.sm g0) (h3 : getI v3 v4 = some g1) : Round E 72 (lpAt Try.f72 0) (stL 23 [(0, .one (.s .far () 4 (v0.map GPeer.t))), (3, .one (.s .own () 4 (v3.map GPeer.t))), (4, .one (tI v4))]) .normal (stL 23 [(0, .one (.s .far () 4 (v0.map GPeer.t))), (3, .one (.s .own () 4 ((v3.set v4.toNat (p_l_toPeer g0)).map GPeer.t))), (4, .one (tI (inc v4)))]) :=
  Round.path [.val (.int .i64 (v0.length : Int)), .b true, .row (GPeer.t g0), .ret [(true, GPeer.t (p_l_toPeer g0))], .row (GPeer.t g1), .rows ((v3.set v4.toNat (p_l_toPeer g0)).map GPeer.t)] _ (fun k => by kernel_rfl) (AV (ψ := fun _ => ((v0.map GPeer.t).length : Int) = (v0.length : Int)) (Ev.c lenMap) <| AC h0 <| AV (ψ := fun _ => 0 ≤ v4 ∧ (v0.map GPeer.t)[v4.toNat]? = some (GPeer.t g0)) (Ev.c (getRow h1)) <| AD (T_l_toPeer g0 h2) <| AV (ψ := fun _ => 0 ≤ v4 ∧ v4 < ((v3.map GPeer.t).length : Int)) (Ev.c (getLt h3)) <| AV (ψ := fun _ => (v3.map GPeer.t)[0 + v4.toNat]? = some (GPeer.t g1)) (Ev.c (getRow0 h3)) <| AV (ψ := fun _ => (v3.map GPeer.t).set (0 + v4.toNat) (spliceAt (GPeer.t g1) 0 [tI ((p_l_toPeer g0).f0), tI ((p_l_toPeer g0).f1), tI ((p_l_toPeer g0).f2), tI ((p_l_toPeer g0).f3)]) = (v3.set v4.toNat (p_l_toPeer g0)).map GPeer.t) (Ev.c (setMap (by rfl))) <| AN)
theorem l_toPeerS_R0_1 (v0 : List GPeer) (v3 : List GPeer) (v4 : Int) (h0 : (decide (v4 < (v0.length : Int))) = false) : Round E 72 (lpAt Try.f72 0) (stL 23 [(0, .one (.s .far () 4 (v0.map GPeer.t))), (3, .one (.s .own () 4 (v3.map GPeer.t))), (4, .one (tI v4))]) (.exit 0) (stL 23 [(3, .one (.s .own () 4 (v3.map GPeer.t)))]) :=
  Round.path [.val (.int .i64 (v0.length : Int)), .b false] _ (fun k => by kernel_rfl) (AV (ψ := fun _ => ((v0.map GPeer.t).length : Int) = (v0.length : Int)) (Ev.c lenMap) <| AC h0 <| AN)
noncomputable def l_toPeerS_l0  : List GPeer → Nat → (List GPeer) → Option l_toPeerS_X0
  | [], i, v3 => some (.x0 v3)
  | hd :: rest, i, v3 => if Small.sm hd then (getI v3 (i : Int)).bind fun g1 => l_toPeerS_l0 rest (i + 1) (v3.set (i : Int).toNat (p_l_toPeer hd)) else none
theorem l_toPeerS_L0 (v0 : List GPeer) (rest : List GPeer) : ∀ (i : Nat) (v3 : List GPeer), (v0).drop i = rest → v0.length ≤ 9223372036854775807 → Ans (l_toPeerS_l0 rest i v3) (l_toPeerS_Q0 v0 v3 (i : Int)) := by
  induction rest with
  | nil =>
    intro i v3 hE hl
    have hb := foldEnd hE
    unfold l_toPeerS_l0
    exact Ans.some (Loops.stop (l_toPeerS_R0_1 v0 v3 (i : Int) hb) (by intro h; cases h))
  | cons hd rest ih =>
    intro i v3 hE hl
    have hb := foldMore hE
    have hw := foldNext hE hl
    have hE2 := foldRest hE
    have hg := foldGet hE
    unfold l_toPeerS_l0
    refine Ans.pre (fun h2 => ?_)
    refine Ans.bind (fun g1 h3 => ?_)
    exact (ih (i + 1) (v3.set (i : Int).toNat (p_l_toPeer hd)) hE2 hl).mono fun y hy => by have r := l_toPeerS_R0_0 v0 v3 (i : Int) hd g1 hb hg h2 h3; rw [hw] at r; cases y <;> exact Loops.next r hy
theorem l_toPeerS_P0 (x0 : List GPeer) (w0_3 : List GPeer) (h0 : 0 ≤ (x0.length : Int) ∧ (x0.length : Int) ≤ (x0.length : Int) ∧ ((32 : Nat) : Int) * (x0.length : Int) ≤ 281474976710656 ∧ (x0.length : Int) ≤ 4611686018427387904) (h1 : Loops E 72 (lpAt Try.f72 0) (stL 23 [(0, .one (.s .far () 4 (x0.map GPeer.t))), (3, .one (.s .own () 4 ((List.replicate (x0.length : Int).toNat (GPeer.mk (0 : Int) (0 : Int) (0 : Int) (0 : Int))).map GPeer.t))), (4, .one (tI (0 : Int)))]) (.exit 0) (stL 23 [(3, .one (.s .own () 4 (w0_3.map GPeer.t)))])) : Does E 72 [.one (.s .far () 4 (x0.map GPeer.t))] [(false, [.s .own () 4 (w0_3.map GPeer.t)])] :=
  Does.path (fn := Try.f72) [.val (.int .i64 (x0.length : Int)), .rows ((List.replicate (x0.length : Int).toNat (GPeer.mk (0 : Int) (0 : Int) (0 : Int) (0 : Int))).map GPeer.t), .lp (.exit 0) (stL 23 [(3, .one (.s .own () 4 (w0_3.map GPeer.t)))])] _ rfl (fun _ => rfl) (fun k => by kernel_rfl) (AV (ψ := fun _ => ((x0.map GPeer.t).length : Int) = (x0.length : Int)) (Ev.c lenMap) <| AV (ψ := fun _ => 0 ≤ (x0.length : Int) ∧ (x0.length : Int) ≤ (x0.length : Int) ∧ ((32 : Nat) : Int) * (x0.length : Int) ≤ 281474976710656 ∧ (x0.length : Int) ≤ 4611686018427387904) (Ev.c h0) <| AV (ψ := fun _ => List.replicate (x0.length : Int).toNat [tI (0 : Int), tI (0 : Int), tI (0 : Int), tI (0 : Int)] = (List.replicate (x0.length : Int).toNat (GPeer.mk (0 : Int) (0 : Int) (0 : Int) (0 : Int))).map GPeer.t) (Ev.c (repMap rfl)) <| AV (ψ := fun k => LoopK E 72 (lpAt Try.f72 0) (stL 23 [(0, .one (.s .far () 4 (x0.map GPeer.t))), (3, .one (.s .own () 4 ((List.replicate (x0.length : Int).toNat (GPeer.mk (0 : Int) (0 : Int) (0 : Int) (0 : Int))).map GPeer.t))), (4, .one (tI (0 : Int)))]) (.exit 0) (stL 23 [(3, .one (.s .own () 4 (w0_3.map GPeer.t)))]) k k) (Loops.ev h1) <| AN)
noncomputable def l_toPeerS_F (x0 : List GPeer) : Option ((List GPeer)) :=
    if 0 ≤ (x0.length : Int) ∧ (x0.length : Int) ≤ (x0.length : Int) ∧ ((32 : Nat) : Int) * (x0.length : Int) ≤ 281474976710656 ∧ (x0.length : Int) ≤ 4611686018427387904 then if x0.length ≤ 9223372036854775807 then (l_toPeerS_l0 x0 0 (List.replicate (x0.length : Int).toNat (GPeer.mk (0 : Int) (0 : Int) (0 : Int) (0 : Int)))).bind fun y => match y with
      | .x0 w0_3 => (some (w0_3)) else none else none
theorem l_toPeerS_D (x0 : List GPeer) : Ans (l_toPeerS_F x0) (fun r => Does E 72 [.one (.s .far () 4 (x0.map GPeer.t))] [(false, [.s .own () 4 (r.map GPeer.t)])]) := by
  unfold l_toPeerS_F
  refine Ans.pre (fun h0 => ?_)
  refine Ans.pre (fun hl1 => ?_)
  refine Ans.bind (fun y hy => ?_)
  replace hy := l_toPeerS_L0 x0 x0 0 (List.replicate (x0.length : Int).toNat (GPeer.mk (0 : Int) (0 : Int) (0 : Int) (0 : Int))) rfl hl1 y hy
  cases y with
  | x0 w0_3 =>
    have h1 := hy
    exact Ans.some (l_toPeerS_P0 x0 w0_3 h0 h1)
def p_l_toPeerS (l : List GPeer) : List GPeer := l
theorem cp_l_toPeerS : ∀ (rest : List GPeer) (i : Nat) (v : List GPeer), (∀ y ∈ rest, Small.sm y) → v.length = i + rest.length → l_toPeerS_l0 rest i v = some (.x0 (v.take i ++ rest))
  | [], i, v, _, hv => by unfold l_toPeerS_l0; rw [List.take_of_length_le (by simp at hv; omega)]; simp
  | x :: rest, i, v, h, hv => by
    have hx := h x (by simp)
    have hi : i < v.length := by simp at hv; omega
    unfold l_toPeerS_l0
    rw [getI_nat, List.getElem?_eq_getElem hi, Option.bind_some]
    try rw [if_pos hx]
    rw [Int.toNat_natCast, cp_l_toPeerS rest (i + 1) _ (fun y hy => h y (by simp [hy])) (by simp at hv ⊢; omega), takeSet hi]
    simp [p_l_toPeer]
theorem T_l_toPeerS (x0 : List GPeer) (h : Small.sm x0) : Does E 72 [.one (.s .far () 4 (x0.map GPeer.t))] [(false, [.s .own () 4 ((p_l_toPeerS x0).map GPeer.t)])] := by
  exact l_toPeerS_D x0 _ (by
    unfold l_toPeerS_F
    rw [if_pos (makeOk 32 (by decide) h.1 rfl), if_pos (sm_wf_len h), cp_l_toPeerS x0 0 _ h.2 (by simp)]
    simp [p_l_toPeerS])
theorem l_toNode_P0 (x0 : LNode) (h0 : Small.sm x0.f5) (h1 : Small.sm x0.f6) (h2 : Small.sm x0.f10) (h3 : Small.sm x0.f11) : Does E 15 [.agg (LNode.t .far x0)] [(true, GNode.t .own (GNode.mk x0.f0 x0.f1 x0.f2 x0.f3 x0.f4 (p_l_toIntS x0.f5) (p_l_toLog x0.f6) x0.f7 x0.f8 x0.f9 (p_l_toIntS x0.f10) (p_l_toPeerS x0.f11)))] :=
  Does.path (fn := Try.f15) [.ret [(false, [.s .own () 1 ((p_l_toIntS x0.f5).map etI)])], .ret [(true, GLog.t .own (p_l_toLog x0.f6))], .ret [(false, [.s .own () 1 ((p_l_toIntS x0.f10).map etI)])], .ret [(false, [.s .own () 4 ((p_l_toPeerS x0.f11).map GPeer.t)])]] _ rfl (fun _ => rfl) (fun k => by kernel_rfl) (AD (T_l_toIntS x0.f5 h0) <| AD (T_l_toLog x0.f6 h1) <| AD (T_l_toIntS x0.f10 h2) <| AD (T_l_toPeerS x0.f11 h3) <| AN)
noncomputable def l_toNode_F (x0 : LNode) : Option (GNode) :=
    if Small.sm x0.f5 then if Small.sm x0.f6 then if Small.sm x0.f10 then if Small.sm x0.f11 then some ((GNode.mk x0.f0 x0.f1 x0.f2 x0.f3 x0.f4 (p_l_toIntS x0.f5) (p_l_toLog x0.f6) x0.f7 x0.f8 x0.f9 (p_l_toIntS x0.f10) (p_l_toPeerS x0.f11))) else none else none else none else none
theorem l_toNode_D (x0 : LNode) : Ans (l_toNode_F x0) (fun r => Does E 15 [.agg (LNode.t .far x0)] [(true, GNode.t .own r)]) := by
  unfold l_toNode_F
  refine Ans.pre (fun h0 => ?_)
  refine Ans.pre (fun h1 => ?_)
  refine Ans.pre (fun h2 => ?_)
  refine Ans.pre (fun h3 => ?_)
  exact Ans.some (l_toNode_P0 x0 h0 h1 h2 h3)
def p_l_toNode (x : LNode) : GNode := ⟨x.f0, x.f1, x.f2, x.f3, x.f4, p_l_toIntS x.f5, p_l_toLog x.f6, x.f7, x.f8, x.f9, p_l_toIntS x.f10, p_l_toPeerS x.f11⟩
theorem sm_l_toNode {x : LNode} (h : Small.sm x) : Small.sm (p_l_toNode x) := by
  obtain ⟨w5, w6, w10, w11⟩ := h
  exact ⟨w5, (sm_l_toLog w6), w10, w11⟩
theorem T_l_toNode (x0 : LNode) (h : Small.sm x0) : Does E 15 [.agg (LNode.t .far x0)] [(true, GNode.t .own (p_l_toNode x0))] := by
  obtain ⟨w5, w6, w10, w11⟩ := h
  exact l_toNode_D x0 _ (by
    unfold l_toNode_F
    repeat rw [if_pos (by assumption)]
    rfl)
inductive l_eqIntS_X0 where
  | ret (v4 : Bool)
  | x0 
def l_eqIntS_Q0 (v0 : List Int) (v1 : List Int) (v5 : Int) : l_eqIntS_X0 → Prop
  | .ret zv4 => Loops E 17 (lpAt Try.f17 0) (stL 26 [(0, .one (.s .far () 1 (v0.map etI))), (1, .one (.s .far () 1 (v1.map etI))), (5, .one (tI v5))]) .ret (stL 26 [(4, .one (tB zv4))])
  | .x0 => Loops E 17 (lpAt Try.f17 0) (stL 26 [(0, .one (.s .far () 1 (v0.map etI))), (1, .one (.s .far () 1 (v1.map etI))), (5, .one (tI v5))]) (.exit 0) (stL 26 [])
theorem l_eqIntS_R0_0 (v0 : List Int) (v1 : List Int) (v5 : Int) (g0 : Int) (g1 : Int) (h0 : (decide (v5 < (v0.length : Int))) = true) (h1 : getI v0 v5 = some g0) (h2 : getI v1 v5 = some g1) (h3 : (g0 != g1) = true) : Round E 17 (lpAt Try.f17 0) (stL 26 [(0, .one (.s .far () 1 (v0.map etI))), (1, .one (.s .far () 1 (v1.map etI))), (5, .one (tI v5))]) .ret (stL 26 [(4, .one (tB false))]) :=
  Round.path [.val (.int .i64 (v0.length : Int)), .b true, .row (etI g0), .row (etI g1), .b true] _ (fun k => by kernel_rfl) (AV (ψ := fun _ => ((v0.map etI).length : Int) = (v0.length : Int)) (Ev.c lenMap) <| AC h0 <| AV (ψ := fun _ => 0 ≤ v5 ∧ (v0.map etI)[v5.toNat]? = some (etI g0)) (Ev.c (getRow h1)) <| AV (ψ := fun _ => 0 ≤ v5 ∧ (v1.map etI)[v5.toNat]? = some (etI g1)) (Ev.c (getRow h2)) <| AC h3 <| AN)
theorem l_eqIntS_R0_1 (v0 : List Int) (v1 : List Int) (v5 : Int) (g0 : Int) (g1 : Int) (h0 : (decide (v5 < (v0.length : Int))) = true) (h1 : getI v0 v5 = some g0) (h2 : getI v1 v5 = some g1) (h3 : (g0 != g1) = false) : Round E 17 (lpAt Try.f17 0) (stL 26 [(0, .one (.s .far () 1 (v0.map etI))), (1, .one (.s .far () 1 (v1.map etI))), (5, .one (tI v5))]) .normal (stL 26 [(0, .one (.s .far () 1 (v0.map etI))), (1, .one (.s .far () 1 (v1.map etI))), (5, .one (tI (inc v5)))]) :=
  Round.path [.val (.int .i64 (v0.length : Int)), .b true, .row (etI g0), .row (etI g1), .b false] _ (fun k => by kernel_rfl) (AV (ψ := fun _ => ((v0.map etI).length : Int) = (v0.length : Int)) (Ev.c lenMap) <| AC h0 <| AV (ψ := fun _ => 0 ≤ v5 ∧ (v0.map etI)[v5.toNat]? = some (etI g0)) (Ev.c (getRow h1)) <| AV (ψ := fun _ => 0 ≤ v5 ∧ (v1.map etI)[v5.toNat]? = some (etI g1)) (Ev.c (getRow h2)) <| AC h3 <| AN)
theorem l_eqIntS_R0_2 (v0 : List Int) (v1 : List Int) (v5 : Int) (h0 : (decide (v5 < (v0.length : Int))) = false) : Round E 17 (lpAt Try.f17 0) (stL 26 [(0, .one (.s .far () 1 (v0.map etI))), (1, .one (.s .far () 1 (v1.map etI))), (5, .one (tI v5))]) (.exit 0) (stL 26 []) :=
  Round.path [.val (.int .i64 (v0.length : Int)), .b false] _ (fun k => by kernel_rfl) (AV (ψ := fun _ => ((v0.map etI).length : Int) = (v0.length : Int)) (Ev.c lenMap) <| AC h0 <| AN)
noncomputable def l_eqIntS_l0 (v1 : List Int) : List Int → Nat → Option l_eqIntS_X0
  | [], i => some (.x0)
  | hd :: rest, i => (getI v1 (i : Int)).bind fun g1 => cond (hd != g1)
    (some (.ret false))
    (l_eqIntS_l0 v1 rest (i + 1))
theorem l_eqIntS_L0 (v0 : List Int) (v1 : List Int) (rest : List Int) : ∀ (i : Nat) , (v0).drop i = rest → v0.length ≤ 9223372036854775807 → Ans (l_eqIntS_l0 v1 rest i) (l_eqIntS_Q0 v0 v1 (i : Int)) := by
  induction rest with
  | nil =>
    intro i hE hl
    have hb := foldEnd hE
    unfold l_eqIntS_l0
    exact Ans.some (Loops.stop (l_eqIntS_R0_2 v0 v1 (i : Int) hb) (by intro h; cases h))
  | cons hd rest ih =>
    intro i hE hl
    have hb := foldMore hE
    have hw := foldNext hE hl
    have hE2 := foldRest hE
    have hg := foldGet hE
    unfold l_eqIntS_l0
    refine Ans.bind (fun g1 h2 => ?_)
    refine Ans.ite (fun h3 => ?_) (fun h3 => ?_)
    · exact Ans.some (Loops.stop (l_eqIntS_R0_0 v0 v1 (i : Int) hd g1 hb hg h2 h3) (by intro h; cases h))
    · exact (ih (i + 1) hE2 hl).mono fun y hy => by have r := l_eqIntS_R0_1 v0 v1 (i : Int) hd g1 hb hg h2 h3; rw [hw] at r; cases y <;> exact Loops.next r hy
theorem l_eqIntS_P0 (x0 : List Int) (x1 : List Int) (h0 : ((x0.length : Int) != (x1.length : Int)) = true) : Does E 17 [.one (.s .far () 1 (x0.map etI)), .one (.s .far () 1 (x1.map etI))] [(false, [tB false])] :=
  Does.path (fn := Try.f17) [.val (.int .i64 (x0.length : Int)), .val (.int .i64 (x1.length : Int)), .b true] _ rfl (fun _ => rfl) (fun k => by kernel_rfl) (AV (ψ := fun _ => ((x0.map etI).length : Int) = (x0.length : Int)) (Ev.c lenMap) <| AV (ψ := fun _ => ((x1.map etI).length : Int) = (x1.length : Int)) (Ev.c lenMap) <| AC h0 <| AN)
theorem l_eqIntS_P1 (x0 : List Int) (x1 : List Int) (w0_4 : Bool) (h0 : ((x0.length : Int) != (x1.length : Int)) = false) (h1 : Loops E 17 (lpAt Try.f17 0) (stL 26 [(0, .one (.s .far () 1 (x0.map etI))), (1, .one (.s .far () 1 (x1.map etI))), (5, .one (tI (0 : Int)))]) .ret (stL 26 [(4, .one (tB w0_4))])) : Does E 17 [.one (.s .far () 1 (x0.map etI)), .one (.s .far () 1 (x1.map etI))] [(false, [tB w0_4])] :=
  Does.path (fn := Try.f17) [.val (.int .i64 (x0.length : Int)), .val (.int .i64 (x1.length : Int)), .b false, .lp .ret (stL 26 [(4, .one (tB w0_4))])] _ rfl (fun _ => rfl) (fun k => by kernel_rfl) (AV (ψ := fun _ => ((x0.map etI).length : Int) = (x0.length : Int)) (Ev.c lenMap) <| AV (ψ := fun _ => ((x1.map etI).length : Int) = (x1.length : Int)) (Ev.c lenMap) <| AC h0 <| AV (ψ := fun k => LoopK E 17 (lpAt Try.f17 0) (stL 26 [(0, .one (.s .far () 1 (x0.map etI))), (1, .one (.s .far () 1 (x1.map etI))), (5, .one (tI (0 : Int)))]) .ret (stL 26 [(4, .one (tB w0_4))]) k k) (Loops.ev h1) <| AN)
theorem l_eqIntS_P2 (x0 : List Int) (x1 : List Int) (h0 : ((x0.length : Int) != (x1.length : Int)) = false) (h1 : Loops E 17 (lpAt Try.f17 0) (stL 26 [(0, .one (.s .far () 1 (x0.map etI))), (1, .one (.s .far () 1 (x1.map etI))), (5, .one (tI (0 : Int)))]) (.exit 0) (stL 26 [])) : Does E 17 [.one (.s .far () 1 (x0.map etI)), .one (.s .far () 1 (x1.map etI))] [(false, [tB true])] :=
  Does.path (fn := Try.f17) [.val (.int .i64 (x0.length : Int)), .val (.int .i64 (x1.length : Int)), .b false, .lp (.exit 0) (stL 26 [])] _ rfl (fun _ => rfl) (fun k => by kernel_rfl) (AV (ψ := fun _ => ((x0.map etI).length : Int) = (x0.length : Int)) (Ev.c lenMap) <| AV (ψ := fun _ => ((x1.map etI).length : Int) = (x1.length : Int)) (Ev.c lenMap) <| AC h0 <| AV (ψ := fun k => LoopK E 17 (lpAt Try.f17 0) (stL 26 [(0, .one (.s .far () 1 (x0.map etI))), (1, .one (.s .far () 1 (x1.map etI))), (5, .one (tI (0 : Int)))]) (.exit 0) (stL 26 []) k k) (Loops.ev h1) <| AN)
noncomputable def l_eqIntS_F (x0 : List Int) (x1 : List Int) : Option (Bool) :=
    cond ((x0.length : Int) != (x1.length : Int))
      (some (false))
      (if x0.length ≤ 9223372036854775807 then (l_eqIntS_l0 x1 x0 0).bind fun y => match y with
        | .ret w0_4 => (some (w0_4))
        | .x0 => (some (true)) else none)
theorem l_eqIntS_D (x0 : List Int) (x1 : List Int) : Ans (l_eqIntS_F x0 x1) (fun r => Does E 17 [.one (.s .far () 1 (x0.map etI)), .one (.s .far () 1 (x1.map etI))] [(false, [tB r])]) := by
  unfold l_eqIntS_F
  refine Ans.ite (fun h0 => ?_) (fun h0 => ?_)
  · exact Ans.some (l_eqIntS_P0 x0 x1 h0)
  · refine Ans.pre (fun hl2 => ?_)
    refine Ans.bind (fun y hy => ?_)
    replace hy := l_eqIntS_L0 x0 x1 x0 0 rfl hl2 y hy
    cases y with
    | ret w0_4 =>
      have h1 := hy
      exact Ans.some (l_eqIntS_P1 x0 x1 w0_4 h0 h1)
    | x0 =>
      have h1 := hy
      exact Ans.some (l_eqIntS_P2 x0 x1 h0 h1)
theorem el_l_eqIntS (l : List Int) : ∀ (rest : List Int) (i : Nat), l.drop i = rest → (∀ y ∈ rest, Small.sm y) → l_eqIntS_l0 l rest i = some .x0
  | [], i, _, _ => rfl
  | x :: rest, i, hE, h => by
    have hx := h x (by simp)
    unfold l_eqIntS_l0
    rw [foldGet hE, Option.bind_some]
    simp only [hx, if_true, yes, bne_self_eq_false, BEq.rfl, Bool.not_true, cond_false, cond_true]
    exact el_l_eqIntS l rest (i + 1) (foldRest hE) (fun y hy => h y (by simp [hy]))
theorem T_l_eqIntS (x0 : List Int) (x1 : List Int) (e : x0 = x1) (h : Small.sm x0) : Does E 17 [.one (.s .far () 1 (x0.map etI)), .one (.s .far () 1 (x1.map etI))] [(false, [tB (yes x0 x1)])] := by
  subst e
  exact l_eqIntS_D x0 x0 _ (by
    unfold l_eqIntS_F
    rw [if_pos (sm_wf_len h), el_l_eqIntS x0 x0 0 rfl h.2]
    simp [yes])
theorem l_eqEntry_P0 (x0 : GEntry) (x1 : GEntry) (h0 : (x0.f0 != x1.f0) = true) : Does E 157 [.agg (GEntry.t x0), .agg (GEntry.t x1)] [(false, [tB false])] :=
  Does.path (fn := Try.f157) [.b true] _ rfl (fun _ => rfl) (fun k => by kernel_rfl) (AC h0 <| AN)
theorem l_eqEntry_P1 (x0 : GEntry) (x1 : GEntry) (h0 : (x0.f0 != x1.f0) = false) (h1 : (x0.f1 != x1.f1) = true) : Does E 157 [.agg (GEntry.t x0), .agg (GEntry.t x1)] [(false, [tB false])] :=
  Does.path (fn := Try.f157) [.b false, .b true] _ rfl (fun _ => rfl) (fun k => by kernel_rfl) (AC h0 <| AC h1 <| AN)
theorem l_eqEntry_P2 (x0 : GEntry) (x1 : GEntry) (h0 : (x0.f0 != x1.f0) = false) (h1 : (x0.f1 != x1.f1) = false) (h2 : (!(x0.f2.toList == x1.f2.toList)) = true) : Does E 157 [.agg (GEntry.t x0), .agg (GEntry.t x1)] [(false, [tB false])] :=
  Does.path (fn := Try.f157) [.b false, .b false, .b true] _ rfl (fun _ => rfl) (fun k => by kernel_rfl) (AC h0 <| AC h1 <| AC h2 <| AN)
theorem l_eqEntry_P3 (x0 : GEntry) (x1 : GEntry) (h0 : (x0.f0 != x1.f0) = false) (h1 : (x0.f1 != x1.f1) = false) (h2 : (!(x0.f2.toList == x1.f2.toList)) = false) : Does E 157 [.agg (GEntry.t x0), .agg (GEntry.t x1)] [(false, [tB true])] :=
  Does.path (fn := Try.f157) [.b false, .b false, .b false] _ rfl (fun _ => rfl) (fun k => by kernel_rfl) (AC h0 <| AC h1 <| AC h2 <| AN)
noncomputable def l_eqEntry_F (x0 : GEntry) (x1 : GEntry) : Option (Bool) :=
    cond (x0.f0 != x1.f0)
      (some (false))
      (cond (x0.f1 != x1.f1)
        (some (false))
        (cond (!(x0.f2.toList == x1.f2.toList))
          (some (false))
          (some (true))))
theorem l_eqEntry_D (x0 : GEntry) (x1 : GEntry) : Ans (l_eqEntry_F x0 x1) (fun r => Does E 157 [.agg (GEntry.t x0), .agg (GEntry.t x1)] [(false, [tB r])]) := by
  unfold l_eqEntry_F
  refine Ans.ite (fun h0 => ?_) (fun h0 => ?_)
  · exact Ans.some (l_eqEntry_P0 x0 x1 h0)
  · refine Ans.ite (fun h1 => ?_) (fun h1 => ?_)
    · exact Ans.some (l_eqEntry_P1 x0 x1 h0 h1)
    · refine Ans.ite (fun h2 => ?_) (fun h2 => ?_)
      · exact Ans.some (l_eqEntry_P2 x0 x1 h0 h1 h2)
      · exact Ans.some (l_eqEntry_P3 x0 x1 h0 h1 h2)
theorem T_l_eqEntry (x0 : GEntry) (x1 : GEntry) (e : x0 = x1) (h : Small.sm x0) : Does E 157 [.agg (GEntry.t x0), .agg (GEntry.t x1)] [(false, [tB (yes x0 x1)])] := by
  subst e
  have w2 : Small.sm x0.f2 := h
  exact l_eqEntry_D x0 x0 _ (by
    unfold l_eqEntry_F
    simp only [if_true, yes, bne_self_eq_false, BEq.rfl, Bool.not_true, cond_false, cond_true])
inductive l_eqEntryS_X0 where
  | ret (v4 : Bool)
  | x0 
def l_eqEntryS_Q0 (v0 : List GEntry) (v1 : List GEntry) (v5 : Int) : l_eqEntryS_X0 → Prop
  | .ret zv4 => Loops E 114 (lpAt Try.f114 0) (stL 27 [(0, .one (.s .far () 3 (v0.map GEntry.t))), (1, .one (.s .far () 3 (v1.map GEntry.t))), (5, .one (tI v5))]) .ret (stL 27 [(4, .one (tB zv4))])
  | .x0 => Loops E 114 (lpAt Try.f114 0) (stL 27 [(0, .one (.s .far () 3 (v0.map GEntry.t))), (1, .one (.s .far () 3 (v1.map GEntry.t))), (5, .one (tI v5))]) (.exit 0) (stL 27 [])
theorem l_eqEntryS_R0_0 (v0 : List GEntry) (v1 : List GEntry) (v5 : Int) (g0 : GEntry) (g1 : GEntry) (h0 : (decide (v5 < (v0.length : Int))) = true) (h1 : getI v0 v5 = some g0) (h2 : getI v1 v5 = some g1) (h3 : g0 = g1) (h4 : Small.sm g0) (h5 : (yes g0 g1) = true) : Round E 114 (lpAt Try.f114 0) (stL 27 [(0, .one (.s .far () 3 (v0.map GEntry.t))), (1, .one (.s .far () 3 (v1.map GEntry.t))), (5, .one (tI v5))]) .normal (stL 27 [(0, .one (.s .far () 3 (v0.map GEntry.t))), (1, .one (.s .far () 3 (v1.map GEntry.t))), (5, .one (tI (inc v5)))]) :=
  Round.path [.val (.int .i64 (v0.length : Int)), .b true, .row (GEntry.t g0), .row (GEntry.t g1), rT] _ (fun k => by kernel_rfl) (AV (ψ := fun _ => ((v0.map GEntry.t).length : Int) = (v0.length : Int)) (Ev.c lenMap) <| AC h0 <| AV (ψ := fun _ => 0 ≤ v5 ∧ (v0.map GEntry.t)[v5.toNat]? = some (GEntry.t g0)) (Ev.c (getRow h1)) <| AV (ψ := fun _ => 0 ≤ v5 ∧ (v1.map GEntry.t)[v5.toNat]? = some (GEntry.t g1)) (Ev.c (getRow h2)) <| AD (Does.tB (T_l_eqEntry g0 g1 h3 h4) h5) <| AN)
theorem l_eqEntryS_R0_1 (v0 : List GEntry) (v1 : List GEntry) (v5 : Int) (g0 : GEntry) (g1 : GEntry) (h0 : (decide (v5 < (v0.length : Int))) = true) (h1 : getI v0 v5 = some g0) (h2 : getI v1 v5 = some g1) (h3 : g0 = g1) (h4 : Small.sm g0) (h5 : (yes g0 g1) = false) : Round E 114 (lpAt Try.f114 0) (stL 27 [(0, .one (.s .far () 3 (v0.map GEntry.t))), (1, .one (.s .far () 3 (v1.map GEntry.t))), (5, .one (tI v5))]) .ret (stL 27 [(4, .one (tB false))]) :=
  Round.path [.val (.int .i64 (v0.length : Int)), .b true, .row (GEntry.t g0), .row (GEntry.t g1), rF] _ (fun k => by kernel_rfl) (AV (ψ := fun _ => ((v0.map GEntry.t).length : Int) = (v0.length : Int)) (Ev.c lenMap) <| AC h0 <| AV (ψ := fun _ => 0 ≤ v5 ∧ (v0.map GEntry.t)[v5.toNat]? = some (GEntry.t g0)) (Ev.c (getRow h1)) <| AV (ψ := fun _ => 0 ≤ v5 ∧ (v1.map GEntry.t)[v5.toNat]? = some (GEntry.t g1)) (Ev.c (getRow h2)) <| AD (Does.tB (T_l_eqEntry g0 g1 h3 h4) h5) <| AN)
theorem l_eqEntryS_R0_2 (v0 : List GEntry) (v1 : List GEntry) (v5 : Int) (h0 : (decide (v5 < (v0.length : Int))) = false) : Round E 114 (lpAt Try.f114 0) (stL 27 [(0, .one (.s .far () 3 (v0.map GEntry.t))), (1, .one (.s .far () 3 (v1.map GEntry.t))), (5, .one (tI v5))]) (.exit 0) (stL 27 []) :=
  Round.path [.val (.int .i64 (v0.length : Int)), .b false] _ (fun k => by kernel_rfl) (AV (ψ := fun _ => ((v0.map GEntry.t).length : Int) = (v0.length : Int)) (Ev.c lenMap) <| AC h0 <| AN)
noncomputable def l_eqEntryS_l0 (v1 : List GEntry) : List GEntry → Nat → Option l_eqEntryS_X0
  | [], i => some (.x0)
  | hd :: rest, i => (getI v1 (i : Int)).bind fun g1 => if hd = g1 then if Small.sm hd then cond (yes hd g1)
    (l_eqEntryS_l0 v1 rest (i + 1))
    (some (.ret false)) else none else none
theorem l_eqEntryS_L0 (v0 : List GEntry) (v1 : List GEntry) (rest : List GEntry) : ∀ (i : Nat) , (v0).drop i = rest → v0.length ≤ 9223372036854775807 → Ans (l_eqEntryS_l0 v1 rest i) (l_eqEntryS_Q0 v0 v1 (i : Int)) := by
  induction rest with
  | nil =>
    intro i hE hl
    have hb := foldEnd hE
    unfold l_eqEntryS_l0
    exact Ans.some (Loops.stop (l_eqEntryS_R0_2 v0 v1 (i : Int) hb) (by intro h; cases h))
  | cons hd rest ih =>
    intro i hE hl
    have hb := foldMore hE
    have hw := foldNext hE hl
    have hE2 := foldRest hE
    have hg := foldGet hE
    unfold l_eqEntryS_l0
    refine Ans.bind (fun g1 h2 => ?_)
    refine Ans.pre (fun h3 => ?_)
    refine Ans.pre (fun h4 => ?_)
    refine Ans.ite (fun h5 => ?_) (fun h5 => ?_)
    · exact (ih (i + 1) hE2 hl).mono fun y hy => by have r := l_eqEntryS_R0_0 v0 v1 (i : Int) hd g1 hb hg h2 h3 h4 h5; rw [hw] at r; cases y <;> exact Loops.next r hy
    · exact Ans.some (Loops.stop (l_eqEntryS_R0_1 v0 v1 (i : Int) hd g1 hb hg h2 h3 h4 h5) (by intro h; cases h))
theorem l_eqEntryS_P0 (x0 : List GEntry) (x1 : List GEntry) (h0 : ((x0.length : Int) != (x1.length : Int)) = true) : Does E 114 [.one (.s .far () 3 (x0.map GEntry.t)), .one (.s .far () 3 (x1.map GEntry.t))] [(false, [tB false])] :=
  Does.path (fn := Try.f114) [.val (.int .i64 (x0.length : Int)), .val (.int .i64 (x1.length : Int)), .b true] _ rfl (fun _ => rfl) (fun k => by kernel_rfl) (AV (ψ := fun _ => ((x0.map GEntry.t).length : Int) = (x0.length : Int)) (Ev.c lenMap) <| AV (ψ := fun _ => ((x1.map GEntry.t).length : Int) = (x1.length : Int)) (Ev.c lenMap) <| AC h0 <| AN)
theorem l_eqEntryS_P1 (x0 : List GEntry) (x1 : List GEntry) (w0_4 : Bool) (h0 : ((x0.length : Int) != (x1.length : Int)) = false) (h1 : Loops E 114 (lpAt Try.f114 0) (stL 27 [(0, .one (.s .far () 3 (x0.map GEntry.t))), (1, .one (.s .far () 3 (x1.map GEntry.t))), (5, .one (tI (0 : Int)))]) .ret (stL 27 [(4, .one (tB w0_4))])) : Does E 114 [.one (.s .far () 3 (x0.map GEntry.t)), .one (.s .far () 3 (x1.map GEntry.t))] [(false, [tB w0_4])] :=
  Does.path (fn := Try.f114) [.val (.int .i64 (x0.length : Int)), .val (.int .i64 (x1.length : Int)), .b false, .lp .ret (stL 27 [(4, .one (tB w0_4))])] _ rfl (fun _ => rfl) (fun k => by kernel_rfl) (AV (ψ := fun _ => ((x0.map GEntry.t).length : Int) = (x0.length : Int)) (Ev.c lenMap) <| AV (ψ := fun _ => ((x1.map GEntry.t).length : Int) = (x1.length : Int)) (Ev.c lenMap) <| AC h0 <| AV (ψ := fun k => LoopK E 114 (lpAt Try.f114 0) (stL 27 [(0, .one (.s .far () 3 (x0.map GEntry.t))), (1, .one (.s .far () 3 (x1.map GEntry.t))), (5, .one (tI (0 : Int)))]) .ret (stL 27 [(4, .one (tB w0_4))]) k k) (Loops.ev h1) <| AN)
theorem l_eqEntryS_P2 (x0 : List GEntry) (x1 : List GEntry) (h0 : ((x0.length : Int) != (x1.length : Int)) = false) (h1 : Loops E 114 (lpAt Try.f114 0) (stL 27 [(0, .one (.s .far () 3 (x0.map GEntry.t))), (1, .one (.s .far () 3 (x1.map GEntry.t))), (5, .one (tI (0 : Int)))]) (.exit 0) (stL 27 [])) : Does E 114 [.one (.s .far () 3 (x0.map GEntry.t)), .one (.s .far () 3 (x1.map GEntry.t))] [(false, [tB true])] :=
  Does.path (fn := Try.f114) [.val (.int .i64 (x0.length : Int)), .val (.int .i64 (x1.length : Int)), .b false, .lp (.exit 0) (stL 27 [])] _ rfl (fun _ => rfl) (fun k => by kernel_rfl) (AV (ψ := fun _ => ((x0.map GEntry.t).length : Int) = (x0.length : Int)) (Ev.c lenMap) <| AV (ψ := fun _ => ((x1.map GEntry.t).length : Int) = (x1.length : Int)) (Ev.c lenMap) <| AC h0 <| AV (ψ := fun k => LoopK E 114 (lpAt Try.f114 0) (stL 27 [(0, .one (.s .far () 3 (x0.map GEntry.t))), (1, .one (.s .far () 3 (x1.map GEntry.t))), (5, .one (tI (0 : Int)))]) (.exit 0) (stL 27 []) k k) (Loops.ev h1) <| AN)
noncomputable def l_eqEntryS_F (x0 : List GEntry) (x1 : List GEntry) : Option (Bool) :=
    cond ((x0.length : Int) != (x1.length : Int))
      (some (false))
      (if x0.length ≤ 9223372036854775807 then (l_eqEntryS_l0 x1 x0 0).bind fun y => match y with
        | .ret w0_4 => (some (w0_4))
        | .x0 => (some (true)) else none)
theorem l_eqEntryS_D (x0 : List GEntry) (x1 : List GEntry) : Ans (l_eqEntryS_F x0 x1) (fun r => Does E 114 [.one (.s .far () 3 (x0.map GEntry.t)), .one (.s .far () 3 (x1.map GEntry.t))] [(false, [tB r])]) := by
  unfold l_eqEntryS_F
  refine Ans.ite (fun h0 => ?_) (fun h0 => ?_)
  · exact Ans.some (l_eqEntryS_P0 x0 x1 h0)
  · refine Ans.pre (fun hl2 => ?_)
    refine Ans.bind (fun y hy => ?_)
    replace hy := l_eqEntryS_L0 x0 x1 x0 0 rfl hl2 y hy
    cases y with
    | ret w0_4 =>
      have h1 := hy
      exact Ans.some (l_eqEntryS_P1 x0 x1 w0_4 h0 h1)
    | x0 =>
      have h1 := hy
      exact Ans.some (l_eqEntryS_P2 x0 x1 h0 h1)
theorem el_l_eqEntryS (l : List GEntry) : ∀ (rest : List GEntry) (i : Nat), l.drop i = rest → (∀ y ∈ rest, Small.sm y) → l_eqEntryS_l0 l rest i = some .x0
  | [], i, _, _ => rfl
  | x :: rest, i, hE, h => by
    have hx := h x (by simp)
    unfold l_eqEntryS_l0
    rw [foldGet hE, Option.bind_some]
    simp only [hx, if_true, yes, bne_self_eq_false, BEq.rfl, Bool.not_true, cond_false, cond_true]
    exact el_l_eqEntryS l rest (i + 1) (foldRest hE) (fun y hy => h y (by simp [hy]))
theorem T_l_eqEntryS (x0 : List GEntry) (x1 : List GEntry) (e : x0 = x1) (h : Small.sm x0) : Does E 114 [.one (.s .far () 3 (x0.map GEntry.t)), .one (.s .far () 3 (x1.map GEntry.t))] [(false, [tB (yes x0 x1)])] := by
  subst e
  exact l_eqEntryS_D x0 x0 _ (by
    unfold l_eqEntryS_F
    rw [if_pos (sm_wf_len h), el_l_eqEntryS x0 x0 0 rfl h.2]
    simp [yes])
theorem l_eqLog_P0 (x0 : GLog) (x1 : GLog) (h0 : (x0.f0 != x1.f0) = true) : Does E 73 [.agg (GLog.t .far x0), .agg (GLog.t .far x1)] [(false, [tB false])] :=
  Does.path (fn := Try.f73) [.b true] _ rfl (fun _ => rfl) (fun k => by kernel_rfl) (AC h0 <| AN)
theorem l_eqLog_P1 (x0 : GLog) (x1 : GLog) (h0 : (x0.f0 != x1.f0) = false) (h1 : (x0.f1 != x1.f1) = true) : Does E 73 [.agg (GLog.t .far x0), .agg (GLog.t .far x1)] [(false, [tB false])] :=
  Does.path (fn := Try.f73) [.b false, .b true] _ rfl (fun _ => rfl) (fun k => by kernel_rfl) (AC h0 <| AC h1 <| AN)
theorem l_eqLog_P2 (x0 : GLog) (x1 : GLog) (h0 : (x0.f0 != x1.f0) = false) (h1 : (x0.f1 != x1.f1) = false) (h2 : x0.f2 = x1.f2) (h3 : Small.sm x0.f2) (h4 : (yes x0.f2 x1.f2) = true) : Does E 73 [.agg (GLog.t .far x0), .agg (GLog.t .far x1)] [(false, [tB true])] :=
  Does.path (fn := Try.f73) [.b false, .b false, rT] _ rfl (fun _ => rfl) (fun k => by kernel_rfl) (AC h0 <| AC h1 <| AD (Does.tB (T_l_eqEntryS x0.f2 x1.f2 h2 h3) h4) <| AN)
theorem l_eqLog_P3 (x0 : GLog) (x1 : GLog) (h0 : (x0.f0 != x1.f0) = false) (h1 : (x0.f1 != x1.f1) = false) (h2 : x0.f2 = x1.f2) (h3 : Small.sm x0.f2) (h4 : (yes x0.f2 x1.f2) = false) : Does E 73 [.agg (GLog.t .far x0), .agg (GLog.t .far x1)] [(false, [tB false])] :=
  Does.path (fn := Try.f73) [.b false, .b false, rF] _ rfl (fun _ => rfl) (fun k => by kernel_rfl) (AC h0 <| AC h1 <| AD (Does.tB (T_l_eqEntryS x0.f2 x1.f2 h2 h3) h4) <| AN)
noncomputable def l_eqLog_F (x0 : GLog) (x1 : GLog) : Option (Bool) :=
    cond (x0.f0 != x1.f0)
      (some (false))
      (cond (x0.f1 != x1.f1)
        (some (false))
        (if x0.f2 = x1.f2 then if Small.sm x0.f2 then cond (yes x0.f2 x1.f2)
          (some (true))
          (some (false)) else none else none))
theorem l_eqLog_D (x0 : GLog) (x1 : GLog) : Ans (l_eqLog_F x0 x1) (fun r => Does E 73 [.agg (GLog.t .far x0), .agg (GLog.t .far x1)] [(false, [tB r])]) := by
  unfold l_eqLog_F
  refine Ans.ite (fun h0 => ?_) (fun h0 => ?_)
  · exact Ans.some (l_eqLog_P0 x0 x1 h0)
  · refine Ans.ite (fun h1 => ?_) (fun h1 => ?_)
    · exact Ans.some (l_eqLog_P1 x0 x1 h0 h1)
    · refine Ans.pre (fun h2 => ?_)
      refine Ans.pre (fun h3 => ?_)
      refine Ans.ite (fun h4 => ?_) (fun h4 => ?_)
      · exact Ans.some (l_eqLog_P2 x0 x1 h0 h1 h2 h3 h4)
      · exact Ans.some (l_eqLog_P3 x0 x1 h0 h1 h2 h3 h4)
theorem T_l_eqLog (x0 : GLog) (x1 : GLog) (e : x0 = x1) (h : Small.sm x0) : Does E 73 [.agg (GLog.t .far x0), .agg (GLog.t .far x1)] [(false, [tB (yes x0 x1)])] := by
  subst e
  have w2 : Small.sm x0.f2 := h
  exact l_eqLog_D x0 x0 _ (by
    unfold l_eqLog_F
    simp only [w2, if_true, yes, bne_self_eq_false, BEq.rfl, Bool.not_true, cond_false, cond_true])
theorem l_eqPeer_P0 (x0 : GPeer) (x1 : GPeer) (h0 : (x0.f0 != x1.f0) = true) : Does E 143 [.agg (GPeer.t x0), .agg (GPeer.t x1)] [(false, [tB false])] :=
  Does.path (fn := Try.f143) [.b true] _ rfl (fun _ => rfl) (fun k => by kernel_rfl) (AC h0 <| AN)
theorem l_eqPeer_P1 (x0 : GPeer) (x1 : GPeer) (h0 : (x0.f0 != x1.f0) = false) (h1 : (x0.f1 != x1.f1) = true) : Does E 143 [.agg (GPeer.t x0), .agg (GPeer.t x1)] [(false, [tB false])] :=
  Does.path (fn := Try.f143) [.b false, .b true] _ rfl (fun _ => rfl) (fun k => by kernel_rfl) (AC h0 <| AC h1 <| AN)
theorem l_eqPeer_P2 (x0 : GPeer) (x1 : GPeer) (h0 : (x0.f0 != x1.f0) = false) (h1 : (x0.f1 != x1.f1) = false) (h2 : (x0.f2 != x1.f2) = true) : Does E 143 [.agg (GPeer.t x0), .agg (GPeer.t x1)] [(false, [tB false])] :=
  Does.path (fn := Try.f143) [.b false, .b false, .b true] _ rfl (fun _ => rfl) (fun k => by kernel_rfl) (AC h0 <| AC h1 <| AC h2 <| AN)
theorem l_eqPeer_P3 (x0 : GPeer) (x1 : GPeer) (h0 : (x0.f0 != x1.f0) = false) (h1 : (x0.f1 != x1.f1) = false) (h2 : (x0.f2 != x1.f2) = false) (h3 : (x0.f3 != x1.f3) = true) : Does E 143 [.agg (GPeer.t x0), .agg (GPeer.t x1)] [(false, [tB false])] :=
  Does.path (fn := Try.f143) [.b false, .b false, .b false, .b true] _ rfl (fun _ => rfl) (fun k => by kernel_rfl) (AC h0 <| AC h1 <| AC h2 <| AC h3 <| AN)
theorem l_eqPeer_P4 (x0 : GPeer) (x1 : GPeer) (h0 : (x0.f0 != x1.f0) = false) (h1 : (x0.f1 != x1.f1) = false) (h2 : (x0.f2 != x1.f2) = false) (h3 : (x0.f3 != x1.f3) = false) : Does E 143 [.agg (GPeer.t x0), .agg (GPeer.t x1)] [(false, [tB true])] :=
  Does.path (fn := Try.f143) [.b false, .b false, .b false, .b false] _ rfl (fun _ => rfl) (fun k => by kernel_rfl) (AC h0 <| AC h1 <| AC h2 <| AC h3 <| AN)
noncomputable def l_eqPeer_F (x0 : GPeer) (x1 : GPeer) : Option (Bool) :=
    cond (x0.f0 != x1.f0)
      (some (false))
      (cond (x0.f1 != x1.f1)
        (some (false))
        (cond (x0.f2 != x1.f2)
          (some (false))
          (cond (x0.f3 != x1.f3)
            (some (false))
            (some (true)))))
theorem l_eqPeer_D (x0 : GPeer) (x1 : GPeer) : Ans (l_eqPeer_F x0 x1) (fun r => Does E 143 [.agg (GPeer.t x0), .agg (GPeer.t x1)] [(false, [tB r])]) := by
  unfold l_eqPeer_F
  refine Ans.ite (fun h0 => ?_) (fun h0 => ?_)
  · exact Ans.some (l_eqPeer_P0 x0 x1 h0)
  · refine Ans.ite (fun h1 => ?_) (fun h1 => ?_)
    · exact Ans.some (l_eqPeer_P1 x0 x1 h0 h1)
    · refine Ans.ite (fun h2 => ?_) (fun h2 => ?_)
      · exact Ans.some (l_eqPeer_P2 x0 x1 h0 h1 h2)
      · refine Ans.ite (fun h3 => ?_) (fun h3 => ?_)
        · exact Ans.some (l_eqPeer_P3 x0 x1 h0 h1 h2 h3)
        · exact Ans.some (l_eqPeer_P4 x0 x1 h0 h1 h2 h3)
theorem T_l_eqPeer (x0 : GPeer) (x1 : GPeer) (e : x0 = x1) (h : Small.sm x0) : Does E 143 [.agg (GPeer.t x0), .agg (GPeer.t x1)] [(false, [tB (yes x0 x1)])] := by
  subst e
  skip
  exact l_eqPeer_D x0 x0 _ (by
    unfold l_eqPeer_F
    simp only [if_true, yes, bne_self_eq_false, BEq.rfl, Bool.not_true, cond_false, cond_true])
inductive l_eqPeerS_X0 where
  | ret (v4 : Bool)
  | x0 
def l_eqPeerS_Q0 (v0 : List GPeer) (v1 : List GPeer) (v5 : Int) : l_eqPeerS_X0 → Prop
  | .ret zv4 => Loops E 74 (lpAt Try.f74 0) (stL 27 [(0, .one (.s .far () 4 (v0.map GPeer.t))), (1, .one (.s .far () 4 (v1.map GPeer.t))), (5, .one (tI v5))]) .ret (stL 27 [(4, .one (tB zv4))])
  | .x0 => Loops E 74 (lpAt Try.f74 0) (stL 27 [(0, .one (.s .far () 4 (v0.map GPeer.t))), (1, .one (.s .far () 4 (v1.map GPeer.t))), (5, .one (tI v5))]) (.exit 0) (stL 27 [])
theorem l_eqPeerS_R0_0 (v0 : List GPeer) (v1 : List GPeer) (v5 : Int) (g0 : GPeer) (g1 : GPeer) (h0 : (decide (v5 < (v0.length : Int))) = true) (h1 : getI v0 v5 = some g0) (h2 : getI v1 v5 = some g1) (h3 : g0 = g1) (h4 : Small.sm g0) (h5 : (yes g0 g1) = true) : Round E 74 (lpAt Try.f74 0) (stL 27 [(0, .one (.s .far () 4 (v0.map GPeer.t))), (1, .one (.s .far () 4 (v1.map GPeer.t))), (5, .one (tI v5))]) .normal (stL 27 [(0, .one (.s .far () 4 (v0.map GPeer.t))), (1, .one (.s .far () 4 (v1.map GPeer.t))), (5, .one (tI (inc v5)))]) :=
  Round.path [.val (.int .i64 (v0.length : Int)), .b true, .row (GPeer.t g0), .row (GPeer.t g1), rT] _ (fun k => by kernel_rfl) (AV (ψ := fun _ => ((v0.map GPeer.t).length : Int) = (v0.length : Int)) (Ev.c lenMap) <| AC h0 <| AV (ψ := fun _ => 0 ≤ v5 ∧ (v0.map GPeer.t)[v5.toNat]? = some (GPeer.t g0)) (Ev.c (getRow h1)) <| AV (ψ := fun _ => 0 ≤ v5 ∧ (v1.map GPeer.t)[v5.toNat]? = some (GPeer.t g1)) (Ev.c (getRow h2)) <| AD (Does.tB (T_l_eqPeer g0 g1 h3 h4) h5) <| AN)
theorem l_eqPeerS_R0_1 (v0 : List GPeer) (v1 : List GPeer) (v5 : Int) (g0 : GPeer) (g1 : GPeer) (h0 : (decide (v5 < (v0.length : Int))) = true) (h1 : getI v0 v5 = some g0) (h2 : getI v1 v5 = some g1) (h3 : g0 = g1) (h4 : Small.sm g0) (h5 : (yes g0 g1) = false) : Round E 74 (lpAt Try.f74 0) (stL 27 [(0, .one (.s .far () 4 (v0.map GPeer.t))), (1, .one (.s .far () 4 (v1.map GPeer.t))), (5, .one (tI v5))]) .ret (stL 27 [(4, .one (tB false))]) :=
  Round.path [.val (.int .i64 (v0.length : Int)), .b true, .row (GPeer.t g0), .row (GPeer.t g1), rF] _ (fun k => by kernel_rfl) (AV (ψ := fun _ => ((v0.map GPeer.t).length : Int) = (v0.length : Int)) (Ev.c lenMap) <| AC h0 <| AV (ψ := fun _ => 0 ≤ v5 ∧ (v0.map GPeer.t)[v5.toNat]? = some (GPeer.t g0)) (Ev.c (getRow h1)) <| AV (ψ := fun _ => 0 ≤ v5 ∧ (v1.map GPeer.t)[v5.toNat]? = some (GPeer.t g1)) (Ev.c (getRow h2)) <| AD (Does.tB (T_l_eqPeer g0 g1 h3 h4) h5) <| AN)
theorem l_eqPeerS_R0_2 (v0 : List GPeer) (v1 : List GPeer) (v5 : Int) (h0 : (decide (v5 < (v0.length : Int))) = false) : Round E 74 (lpAt Try.f74 0) (stL 27 [(0, .one (.s .far () 4 (v0.map GPeer.t))), (1, .one (.s .far () 4 (v1.map GPeer.t))), (5, .one (tI v5))]) (.exit 0) (stL 27 []) :=
  Round.path [.val (.int .i64 (v0.length : Int)), .b false] _ (fun k => by kernel_rfl) (AV (ψ := fun _ => ((v0.map GPeer.t).length : Int) = (v0.length : Int)) (Ev.c lenMap) <| AC h0 <| AN)
noncomputable def l_eqPeerS_l0 (v1 : List GPeer) : List GPeer → Nat → Option l_eqPeerS_X0
  | [], i => some (.x0)
  | hd :: rest, i => (getI v1 (i : Int)).bind fun g1 => if hd = g1 then if Small.sm hd then cond (yes hd g1)
    (l_eqPeerS_l0 v1 rest (i + 1))
    (some (.ret false)) else none else none
theorem l_eqPeerS_L0 (v0 : List GPeer) (v1 : List GPeer) (rest : List GPeer) : ∀ (i : Nat) , (v0).drop i = rest → v0.length ≤ 9223372036854775807 → Ans (l_eqPeerS_l0 v1 rest i) (l_eqPeerS_Q0 v0 v1 (i : Int)) := by
  induction rest with
  | nil =>
    intro i hE hl
    have hb := foldEnd hE
    unfold l_eqPeerS_l0
    exact Ans.some (Loops.stop (l_eqPeerS_R0_2 v0 v1 (i : Int) hb) (by intro h; cases h))
  | cons hd rest ih =>
    intro i hE hl
    have hb := foldMore hE
    have hw := foldNext hE hl
    have hE2 := foldRest hE
    have hg := foldGet hE
    unfold l_eqPeerS_l0
    refine Ans.bind (fun g1 h2 => ?_)
    refine Ans.pre (fun h3 => ?_)
    refine Ans.pre (fun h4 => ?_)
    refine Ans.ite (fun h5 => ?_) (fun h5 => ?_)
    · exact (ih (i + 1) hE2 hl).mono fun y hy => by have r := l_eqPeerS_R0_0 v0 v1 (i : Int) hd g1 hb hg h2 h3 h4 h5; rw [hw] at r; cases y <;> exact Loops.next r hy
    · exact Ans.some (Loops.stop (l_eqPeerS_R0_1 v0 v1 (i : Int) hd g1 hb hg h2 h3 h4 h5) (by intro h; cases h))
theorem l_eqPeerS_P0 (x0 : List GPeer) (x1 : List GPeer) (h0 : ((x0.length : Int) != (x1.length : Int)) = true) : Does E 74 [.one (.s .far () 4 (x0.map GPeer.t)), .one (.s .far () 4 (x1.map GPeer.t))] [(false, [tB false])] :=
  Does.path (fn := Try.f74) [.val (.int .i64 (x0.length : Int)), .val (.int .i64 (x1.length : Int)), .b true] _ rfl (fun _ => rfl) (fun k => by kernel_rfl) (AV (ψ := fun _ => ((x0.map GPeer.t).length : Int) = (x0.length : Int)) (Ev.c lenMap) <| AV (ψ := fun _ => ((x1.map GPeer.t).length : Int) = (x1.length : Int)) (Ev.c lenMap) <| AC h0 <| AN)
theorem l_eqPeerS_P1 (x0 : List GPeer) (x1 : List GPeer) (w0_4 : Bool) (h0 : ((x0.length : Int) != (x1.length : Int)) = false) (h1 : Loops E 74 (lpAt Try.f74 0) (stL 27 [(0, .one (.s .far () 4 (x0.map GPeer.t))), (1, .one (.s .far () 4 (x1.map GPeer.t))), (5, .one (tI (0 : Int)))]) .ret (stL 27 [(4, .one (tB w0_4))])) : Does E 74 [.one (.s .far () 4 (x0.map GPeer.t)), .one (.s .far () 4 (x1.map GPeer.t))] [(false, [tB w0_4])] :=
  Does.path (fn := Try.f74) [.val (.int .i64 (x0.length : Int)), .val (.int .i64 (x1.length : Int)), .b false, .lp .ret (stL 27 [(4, .one (tB w0_4))])] _ rfl (fun _ => rfl) (fun k => by kernel_rfl) (AV (ψ := fun _ => ((x0.map GPeer.t).length : Int) = (x0.length : Int)) (Ev.c lenMap) <| AV (ψ := fun _ => ((x1.map GPeer.t).length : Int) = (x1.length : Int)) (Ev.c lenMap) <| AC h0 <| AV (ψ := fun k => LoopK E 74 (lpAt Try.f74 0) (stL 27 [(0, .one (.s .far () 4 (x0.map GPeer.t))), (1, .one (.s .far () 4 (x1.map GPeer.t))), (5, .one (tI (0 : Int)))]) .ret (stL 27 [(4, .one (tB w0_4))]) k k) (Loops.ev h1) <| AN)
theorem l_eqPeerS_P2 (x0 : List GPeer) (x1 : List GPeer) (h0 : ((x0.length : Int) != (x1.length : Int)) = false) (h1 : Loops E 74 (lpAt Try.f74 0) (stL 27 [(0, .one (.s .far () 4 (x0.map GPeer.t))), (1, .one (.s .far () 4 (x1.map GPeer.t))), (5, .one (tI (0 : Int)))]) (.exit 0) (stL 27 [])) : Does E 74 [.one (.s .far () 4 (x0.map GPeer.t)), .one (.s .far () 4 (x1.map GPeer.t))] [(false, [tB true])] :=
  Does.path (fn := Try.f74) [.val (.int .i64 (x0.length : Int)), .val (.int .i64 (x1.length : Int)), .b false, .lp (.exit 0) (stL 27 [])] _ rfl (fun _ => rfl) (fun k => by kernel_rfl) (AV (ψ := fun _ => ((x0.map GPeer.t).length : Int) = (x0.length : Int)) (Ev.c lenMap) <| AV (ψ := fun _ => ((x1.map GPeer.t).length : Int) = (x1.length : Int)) (Ev.c lenMap) <| AC h0 <| AV (ψ := fun k => LoopK E 74 (lpAt Try.f74 0) (stL 27 [(0, .one (.s .far () 4 (x0.map GPeer.t))), (1, .one (.s .far () 4 (x1.map GPeer.t))), (5, .one (tI (0 : Int)))]) (.exit 0) (stL 27 []) k k) (Loops.ev h1) <| AN)
noncomputable def l_eqPeerS_F (x0 : List GPeer) (x1 : List GPeer) : Option (Bool) :=
    cond ((x0.length : Int) != (x1.length : Int))
      (some (false))
      (if x0.length ≤ 9223372036854775807 then (l_eqPeerS_l0 x1 x0 0).bind fun y => match y with
        | .ret w0_4 => (some (w0_4))
        | .x0 => (some (true)) else none)
theorem l_eqPeerS_D (x0 : List GPeer) (x1 : List GPeer) : Ans (l_eqPeerS_F x0 x1) (fun r => Does E 74 [.one (.s .far () 4 (x0.map GPeer.t)), .one (.s .far () 4 (x1.map GPeer.t))] [(false, [tB r])]) := by
  unfold l_eqPeerS_F
  refine Ans.ite (fun h0 => ?_) (fun h0 => ?_)
  · exact Ans.some (l_eqPeerS_P0 x0 x1 h0)
  · refine Ans.pre (fun hl2 => ?_)
    refine Ans.bind (fun y hy => ?_)
    replace hy := l_eqPeerS_L0 x0 x1 x0 0 rfl hl2 y hy
    cases y with
    | ret w0_4 =>
      have h1 := hy
      exact Ans.some (l_eqPeerS_P1 x0 x1 w0_4 h0 h1)
    | x0 =>
      have h1 := hy
      exact Ans.some (l_eqPeerS_P2 x0 x1 h0 h1)
theorem el_l_eqPeerS (l : List GPeer) : ∀ (rest : List GPeer) (i : Nat), l.drop i = rest → (∀ y ∈ rest, Small.sm y) → l_eqPeerS_l0 l rest i = some .x0
  | [], i, _, _ => rfl
  | x :: rest, i, hE, h => by
    have hx := h x (by simp)
    unfold l_eqPeerS_l0
    rw [foldGet hE, Option.bind_some]
    simp only [hx, if_true, yes, bne_self_eq_false, BEq.rfl, Bool.not_true, cond_false, cond_true]
    exact el_l_eqPeerS l rest (i + 1) (foldRest hE) (fun y hy => h y (by simp [hy]))
theorem T_l_eqPeerS (x0 : List GPeer) (x1 : List GPeer) (e : x0 = x1) (h : Small.sm x0) : Does E 74 [.one (.s .far () 4 (x0.map GPeer.t)), .one (.s .far () 4 (x1.map GPeer.t))] [(false, [tB (yes x0 x1)])] := by
  subst e
  exact l_eqPeerS_D x0 x0 _ (by
    unfold l_eqPeerS_F
    rw [if_pos (sm_wf_len h), el_l_eqPeerS x0 x0 0 rfl h.2]
    simp [yes])
theorem l_eqNode_P0 (x0 : GNode) (x1 : GNode) (h0 : (x0.f0 != x1.f0) = true) : Does E 18 [.agg (GNode.t .far x0), .agg (GNode.t .far x1)] [(false, [tB false])] :=
  Does.path (fn := Try.f18) [.b true] _ rfl (fun _ => rfl) (fun k => by kernel_rfl) (AC h0 <| AN)
theorem l_eqNode_P1 (x0 : GNode) (x1 : GNode) (h0 : (x0.f0 != x1.f0) = false) (h1 : (x0.f1 != x1.f1) = true) : Does E 18 [.agg (GNode.t .far x0), .agg (GNode.t .far x1)] [(false, [tB false])] :=
  Does.path (fn := Try.f18) [.b false, .b true] _ rfl (fun _ => rfl) (fun k => by kernel_rfl) (AC h0 <| AC h1 <| AN)
theorem l_eqNode_P2 (x0 : GNode) (x1 : GNode) (h0 : (x0.f0 != x1.f0) = false) (h1 : (x0.f1 != x1.f1) = false) (h2 : (x0.f2 != x1.f2) = true) : Does E 18 [.agg (GNode.t .far x0), .agg (GNode.t .far x1)] [(false, [tB false])] :=
  Does.path (fn := Try.f18) [.b false, .b false, .b true] _ rfl (fun _ => rfl) (fun k => by kernel_rfl) (AC h0 <| AC h1 <| AC h2 <| AN)
theorem l_eqNode_P3 (x0 : GNode) (x1 : GNode) (h0 : (x0.f0 != x1.f0) = false) (h1 : (x0.f1 != x1.f1) = false) (h2 : (x0.f2 != x1.f2) = false) (h3 : (x0.f3 != x1.f3) = true) : Does E 18 [.agg (GNode.t .far x0), .agg (GNode.t .far x1)] [(false, [tB false])] :=
  Does.path (fn := Try.f18) [.b false, .b false, .b false, .b true] _ rfl (fun _ => rfl) (fun k => by kernel_rfl) (AC h0 <| AC h1 <| AC h2 <| AC h3 <| AN)
theorem l_eqNode_P4 (x0 : GNode) (x1 : GNode) (h0 : (x0.f0 != x1.f0) = false) (h1 : (x0.f1 != x1.f1) = false) (h2 : (x0.f2 != x1.f2) = false) (h3 : (x0.f3 != x1.f3) = false) (h4 : (x0.f4 != x1.f4) = true) : Does E 18 [.agg (GNode.t .far x0), .agg (GNode.t .far x1)] [(false, [tB false])] :=
  Does.path (fn := Try.f18) [.b false, .b false, .b false, .b false, .b true] _ rfl (fun _ => rfl) (fun k => by kernel_rfl) (AC h0 <| AC h1 <| AC h2 <| AC h3 <| AC h4 <| AN)
theorem l_eqNode_P5 (x0 : GNode) (x1 : GNode) (h0 : (x0.f0 != x1.f0) = false) (h1 : (x0.f1 != x1.f1) = false) (h2 : (x0.f2 != x1.f2) = false) (h3 : (x0.f3 != x1.f3) = false) (h4 : (x0.f4 != x1.f4) = false) (h5 : x0.f5 = x1.f5) (h6 : Small.sm x0.f5) (h7 : (yes x0.f5 x1.f5) = true) (h8 : x0.f6 = x1.f6) (h9 : Small.sm x0.f6) (h10 : (yes x0.f6 x1.f6) = true) (h11 : (x0.f7 != x1.f7) = true) : Does E 18 [.agg (GNode.t .far x0), .agg (GNode.t .far x1)] [(false, [tB false])] :=
  Does.path (fn := Try.f18) [.b false, .b false, .b false, .b false, .b false, rT, rT, .b true] _ rfl (fun _ => rfl) (fun k => by kernel_rfl) (AC h0 <| AC h1 <| AC h2 <| AC h3 <| AC h4 <| AD (Does.tB (T_l_eqIntS x0.f5 x1.f5 h5 h6) h7) <| AD (Does.tB (T_l_eqLog x0.f6 x1.f6 h8 h9) h10) <| AC h11 <| AN)
theorem l_eqNode_P6 (x0 : GNode) (x1 : GNode) (h0 : (x0.f0 != x1.f0) = false) (h1 : (x0.f1 != x1.f1) = false) (h2 : (x0.f2 != x1.f2) = false) (h3 : (x0.f3 != x1.f3) = false) (h4 : (x0.f4 != x1.f4) = false) (h5 : x0.f5 = x1.f5) (h6 : Small.sm x0.f5) (h7 : (yes x0.f5 x1.f5) = true) (h8 : x0.f6 = x1.f6) (h9 : Small.sm x0.f6) (h10 : (yes x0.f6 x1.f6) = true) (h11 : (x0.f7 != x1.f7) = false) (h12 : (x0.f8 != x1.f8) = true) : Does E 18 [.agg (GNode.t .far x0), .agg (GNode.t .far x1)] [(false, [tB false])] :=
  Does.path (fn := Try.f18) [.b false, .b false, .b false, .b false, .b false, rT, rT, .b false, .b true] _ rfl (fun _ => rfl) (fun k => by kernel_rfl) (AC h0 <| AC h1 <| AC h2 <| AC h3 <| AC h4 <| AD (Does.tB (T_l_eqIntS x0.f5 x1.f5 h5 h6) h7) <| AD (Does.tB (T_l_eqLog x0.f6 x1.f6 h8 h9) h10) <| AC h11 <| AC h12 <| AN)
theorem l_eqNode_P7 (x0 : GNode) (x1 : GNode) (h0 : (x0.f0 != x1.f0) = false) (h1 : (x0.f1 != x1.f1) = false) (h2 : (x0.f2 != x1.f2) = false) (h3 : (x0.f3 != x1.f3) = false) (h4 : (x0.f4 != x1.f4) = false) (h5 : x0.f5 = x1.f5) (h6 : Small.sm x0.f5) (h7 : (yes x0.f5 x1.f5) = true) (h8 : x0.f6 = x1.f6) (h9 : Small.sm x0.f6) (h10 : (yes x0.f6 x1.f6) = true) (h11 : (x0.f7 != x1.f7) = false) (h12 : (x0.f8 != x1.f8) = false) (h13 : (x0.f9 != x1.f9) = true) : Does E 18 [.agg (GNode.t .far x0), .agg (GNode.t .far x1)] [(false, [tB false])] :=
  Does.path (fn := Try.f18) [.b false, .b false, .b false, .b false, .b false, rT, rT, .b false, .b false, .b true] _ rfl (fun _ => rfl) (fun k => by kernel_rfl) (AC h0 <| AC h1 <| AC h2 <| AC h3 <| AC h4 <| AD (Does.tB (T_l_eqIntS x0.f5 x1.f5 h5 h6) h7) <| AD (Does.tB (T_l_eqLog x0.f6 x1.f6 h8 h9) h10) <| AC h11 <| AC h12 <| AC h13 <| AN)
theorem l_eqNode_P8 (x0 : GNode) (x1 : GNode) (h0 : (x0.f0 != x1.f0) = false) (h1 : (x0.f1 != x1.f1) = false) (h2 : (x0.f2 != x1.f2) = false) (h3 : (x0.f3 != x1.f3) = false) (h4 : (x0.f4 != x1.f4) = false) (h5 : x0.f5 = x1.f5) (h6 : Small.sm x0.f5) (h7 : (yes x0.f5 x1.f5) = true) (h8 : x0.f6 = x1.f6) (h9 : Small.sm x0.f6) (h10 : (yes x0.f6 x1.f6) = true) (h11 : (x0.f7 != x1.f7) = false) (h12 : (x0.f8 != x1.f8) = false) (h13 : (x0.f9 != x1.f9) = false) (h14 : x0.f10 = x1.f10) (h15 : Small.sm x0.f10) (h16 : (yes x0.f10 x1.f10) = true) (h17 : x0.f11 = x1.f11) (h18 : Small.sm x0.f11) (h19 : (yes x0.f11 x1.f11) = true) : Does E 18 [.agg (GNode.t .far x0), .agg (GNode.t .far x1)] [(false, [tB true])] :=
  Does.path (fn := Try.f18) [.b false, .b false, .b false, .b false, .b false, rT, rT, .b false, .b false, .b false, rT, rT] _ rfl (fun _ => rfl) (fun k => by kernel_rfl) (AC h0 <| AC h1 <| AC h2 <| AC h3 <| AC h4 <| AD (Does.tB (T_l_eqIntS x0.f5 x1.f5 h5 h6) h7) <| AD (Does.tB (T_l_eqLog x0.f6 x1.f6 h8 h9) h10) <| AC h11 <| AC h12 <| AC h13 <| AD (Does.tB (T_l_eqIntS x0.f10 x1.f10 h14 h15) h16) <| AD (Does.tB (T_l_eqPeerS x0.f11 x1.f11 h17 h18) h19) <| AN)
theorem l_eqNode_P9 (x0 : GNode) (x1 : GNode) (h0 : (x0.f0 != x1.f0) = false) (h1 : (x0.f1 != x1.f1) = false) (h2 : (x0.f2 != x1.f2) = false) (h3 : (x0.f3 != x1.f3) = false) (h4 : (x0.f4 != x1.f4) = false) (h5 : x0.f5 = x1.f5) (h6 : Small.sm x0.f5) (h7 : (yes x0.f5 x1.f5) = true) (h8 : x0.f6 = x1.f6) (h9 : Small.sm x0.f6) (h10 : (yes x0.f6 x1.f6) = true) (h11 : (x0.f7 != x1.f7) = false) (h12 : (x0.f8 != x1.f8) = false) (h13 : (x0.f9 != x1.f9) = false) (h14 : x0.f10 = x1.f10) (h15 : Small.sm x0.f10) (h16 : (yes x0.f10 x1.f10) = true) (h17 : x0.f11 = x1.f11) (h18 : Small.sm x0.f11) (h19 : (yes x0.f11 x1.f11) = false) : Does E 18 [.agg (GNode.t .far x0), .agg (GNode.t .far x1)] [(false, [tB false])] :=
  Does.path (fn := Try.f18) [.b false, .b false, .b false, .b false, .b false, rT, rT, .b false, .b false, .b false, rT, rF] _ rfl (fun _ => rfl) (fun k => by kernel_rfl) (AC h0 <| AC h1 <| AC h2 <| AC h3 <| AC h4 <| AD (Does.tB (T_l_eqIntS x0.f5 x1.f5 h5 h6) h7) <| AD (Does.tB (T_l_eqLog x0.f6 x1.f6 h8 h9) h10) <| AC h11 <| AC h12 <| AC h13 <| AD (Does.tB (T_l_eqIntS x0.f10 x1.f10 h14 h15) h16) <| AD (Does.tB (T_l_eqPeerS x0.f11 x1.f11 h17 h18) h19) <| AN)
theorem l_eqNode_P10 (x0 : GNode) (x1 : GNode) (h0 : (x0.f0 != x1.f0) = false) (h1 : (x0.f1 != x1.f1) = false) (h2 : (x0.f2 != x1.f2) = false) (h3 : (x0.f3 != x1.f3) = false) (h4 : (x0.f4 != x1.f4) = false) (h5 : x0.f5 = x1.f5) (h6 : Small.sm x0.f5) (h7 : (yes x0.f5 x1.f5) = true) (h8 : x0.f6 = x1.f6) (h9 : Small.sm x0.f6) (h10 : (yes x0.f6 x1.f6) = true) (h11 : (x0.f7 != x1.f7) = false) (h12 : (x0.f8 != x1.f8) = false) (h13 : (x0.f9 != x1.f9) = false) (h14 : x0.f10 = x1.f10) (h15 : Small.sm x0.f10) (h16 : (yes x0.f10 x1.f10) = false) : Does E 18 [.agg (GNode.t .far x0), .agg (GNode.t .far x1)] [(false, [tB false])] :=
  Does.path (fn := Try.f18) [.b false, .b false, .b false, .b false, .b false, rT, rT, .b false, .b false, .b false, rF] _ rfl (fun _ => rfl) (fun k => by kernel_rfl) (AC h0 <| AC h1 <| AC h2 <| AC h3 <| AC h4 <| AD (Does.tB (T_l_eqIntS x0.f5 x1.f5 h5 h6) h7) <| AD (Does.tB (T_l_eqLog x0.f6 x1.f6 h8 h9) h10) <| AC h11 <| AC h12 <| AC h13 <| AD (Does.tB (T_l_eqIntS x0.f10 x1.f10 h14 h15) h16) <| AN)
theorem l_eqNode_P11 (x0 : GNode) (x1 : GNode) (h0 : (x0.f0 != x1.f0) = false) (h1 : (x0.f1 != x1.f1) = false) (h2 : (x0.f2 != x1.f2) = false) (h3 : (x0.f3 != x1.f3) = false) (h4 : (x0.f4 != x1.f4) = false) (h5 : x0.f5 = x1.f5) (h6 : Small.sm x0.f5) (h7 : (yes x0.f5 x1.f5) = true) (h8 : x0.f6 = x1.f6) (h9 : Small.sm x0.f6) (h10 : (yes x0.f6 x1.f6) = false) : Does E 18 [.agg (GNode.t .far x0), .agg (GNode.t .far x1)] [(false, [tB false])] :=
  Does.path (fn := Try.f18) [.b false, .b false, .b false, .b false, .b false, rT, rF] _ rfl (fun _ => rfl) (fun k => by kernel_rfl) (AC h0 <| AC h1 <| AC h2 <| AC h3 <| AC h4 <| AD (Does.tB (T_l_eqIntS x0.f5 x1.f5 h5 h6) h7) <| AD (Does.tB (T_l_eqLog x0.f6 x1.f6 h8 h9) h10) <| AN)
theorem l_eqNode_P12 (x0 : GNode) (x1 : GNode) (h0 : (x0.f0 != x1.f0) = false) (h1 : (x0.f1 != x1.f1) = false) (h2 : (x0.f2 != x1.f2) = false) (h3 : (x0.f3 != x1.f3) = false) (h4 : (x0.f4 != x1.f4) = false) (h5 : x0.f5 = x1.f5) (h6 : Small.sm x0.f5) (h7 : (yes x0.f5 x1.f5) = false) : Does E 18 [.agg (GNode.t .far x0), .agg (GNode.t .far x1)] [(false, [tB false])] :=
  Does.path (fn := Try.f18) [.b false, .b false, .b false, .b false, .b false, rF] _ rfl (fun _ => rfl) (fun k => by kernel_rfl) (AC h0 <| AC h1 <| AC h2 <| AC h3 <| AC h4 <| AD (Does.tB (T_l_eqIntS x0.f5 x1.f5 h5 h6) h7) <| AN)
noncomputable def l_eqNode_F (x0 : GNode) (x1 : GNode) : Option (Bool) :=
    cond (x0.f0 != x1.f0)
      (some (false))
      (cond (x0.f1 != x1.f1)
        (some (false))
        (cond (x0.f2 != x1.f2)
          (some (false))
          (cond (x0.f3 != x1.f3)
            (some (false))
            (cond (x0.f4 != x1.f4)
              (some (false))
              (if x0.f5 = x1.f5 then if Small.sm x0.f5 then cond (yes x0.f5 x1.f5)
                (if x0.f6 = x1.f6 then if Small.sm x0.f6 then cond (yes x0.f6 x1.f6)
                  (cond (x0.f7 != x1.f7)
                    (some (false))
                    (cond (x0.f8 != x1.f8)
                      (some (false))
                      (cond (x0.f9 != x1.f9)
                        (some (false))
                        (if x0.f10 = x1.f10 then if Small.sm x0.f10 then cond (yes x0.f10 x1.f10)
                          (if x0.f11 = x1.f11 then if Small.sm x0.f11 then cond (yes x0.f11 x1.f11)
                            (some (true))
                            (some (false)) else none else none)
                          (some (false)) else none else none))))
                  (some (false)) else none else none)
                (some (false)) else none else none)))))
theorem l_eqNode_D (x0 : GNode) (x1 : GNode) : Ans (l_eqNode_F x0 x1) (fun r => Does E 18 [.agg (GNode.t .far x0), .agg (GNode.t .far x1)] [(false, [tB r])]) := by
  unfold l_eqNode_F
  refine Ans.ite (fun h0 => ?_) (fun h0 => ?_)
  · exact Ans.some (l_eqNode_P0 x0 x1 h0)
  · refine Ans.ite (fun h1 => ?_) (fun h1 => ?_)
    · exact Ans.some (l_eqNode_P1 x0 x1 h0 h1)
    · refine Ans.ite (fun h2 => ?_) (fun h2 => ?_)
      · exact Ans.some (l_eqNode_P2 x0 x1 h0 h1 h2)
      · refine Ans.ite (fun h3 => ?_) (fun h3 => ?_)
        · exact Ans.some (l_eqNode_P3 x0 x1 h0 h1 h2 h3)
        · refine Ans.ite (fun h4 => ?_) (fun h4 => ?_)
          · exact Ans.some (l_eqNode_P4 x0 x1 h0 h1 h2 h3 h4)
          · refine Ans.pre (fun h5 => ?_)
            refine Ans.pre (fun h6 => ?_)
            refine Ans.ite (fun h7 => ?_) (fun h7 => ?_)
            · refine Ans.pre (fun h8 => ?_)
              refine Ans.pre (fun h9 => ?_)
              refine Ans.ite (fun h10 => ?_) (fun h10 => ?_)
              · refine Ans.ite (fun h11 => ?_) (fun h11 => ?_)
                · exact Ans.some (l_eqNode_P5 x0 x1 h0 h1 h2 h3 h4 h5 h6 h7 h8 h9 h10 h11)
                · refine Ans.ite (fun h12 => ?_) (fun h12 => ?_)
                  · exact Ans.some (l_eqNode_P6 x0 x1 h0 h1 h2 h3 h4 h5 h6 h7 h8 h9 h10 h11 h12)
                  · refine Ans.ite (fun h13 => ?_) (fun h13 => ?_)
                    · exact Ans.some (l_eqNode_P7 x0 x1 h0 h1 h2 h3 h4 h5 h6 h7 h8 h9 h10 h11 h12 h13)
                    · refine Ans.pre (fun h14 => ?_)
                      refine Ans.pre (fun h15 => ?_)
                      refine Ans.ite (fun h16 => ?_) (fun h16 => ?_)
                      · refine Ans.pre (fun h17 => ?_)
                        refine Ans.pre (fun h18 => ?_)
                        refine Ans.ite (fun h19 => ?_) (fun h19 => ?_)
                        · exact Ans.some (l_eqNode_P8 x0 x1 h0 h1 h2 h3 h4 h5 h6 h7 h8 h9 h10 h11 h12 h13 h14 h15 h16 h17 h18 h19)
                        · exact Ans.some (l_eqNode_P9 x0 x1 h0 h1 h2 h3 h4 h5 h6 h7 h8 h9 h10 h11 h12 h13 h14 h15 h16 h17 h18 h19)
                      · exact Ans.some (l_eqNode_P10 x0 x1 h0 h1 h2 h3 h4 h5 h6 h7 h8 h9 h10 h11 h12 h13 h14 h15 h16)
              · exact Ans.some (l_eqNode_P11 x0 x1 h0 h1 h2 h3 h4 h5 h6 h7 h8 h9 h10)
            · exact Ans.some (l_eqNode_P12 x0 x1 h0 h1 h2 h3 h4 h5 h6 h7)
theorem T_l_eqNode (x0 : GNode) (x1 : GNode) (e : x0 = x1) (h : Small.sm x0) : Does E 18 [.agg (GNode.t .far x0), .agg (GNode.t .far x1)] [(false, [tB (yes x0 x1)])] := by
  subst e
  obtain ⟨w5, w6, w10, w11⟩ := h
  exact l_eqNode_D x0 x0 _ (by
    unfold l_eqNode_F
    simp only [w5, w6, w10, w11, if_true, yes, bne_self_eq_false, BEq.rfl, Bool.not_true, cond_false, cond_true])
end Go.Proofs.Ytgpllfmogdpapaa.Am
namespace Go.Proofs.Ytgpllfmogdpapaa.Am
set_option linter.unusedVariables false
set_option linter.unusedSimpArgs false
open Go Go.Proofs Classical
set_option maxRecDepth 100000
set_option linter.unusedVariables false
set_option linter.unusedSimpArgs false
def inRange (x a b : Int) : Bool := decide (x ≥ a) && decide (x ≤ b)
theorem inRange_get {α : Type} {l : List α} {k : Int} (h : inRange k 0 (IntKind.wrap .i64 ((l.length : Int) - 1)) = true) (hl : l.length ≤ 1050000) : 0 ≤ k ∧ k < (l.length : Int) := by
  unfold inRange at h
  rw [wrap_id _ (by omega) (by omega)] at h
  simp only [Bool.and_eq_true, decide_eq_true_eq] at h
  omega
theorem getI_in {α : Type} {l : List α} {k : Int} (h : 0 ≤ k ∧ k < (l.length : Int)) : ∃ x, getI l k = some x ∧ x ∈ l := by
  unfold getI
  rw [if_pos h.1, List.getElem?_eq_getElem (by omega)]
  exact ⟨_, rfl, List.getElem_mem _⟩
theorem sm_set {α : Type} [Small α] {l : List α} {n : Nat} {x : α} (h : Small.sm l) (hx : Small.sm x) : Small.sm (l.set n x) :=
  ⟨by rw [List.length_set]; exact h.1, fun y hy => by rcases List.mem_or_eq_of_mem_set hy with h' | rfl; exact h.2 _ h'; exact hx⟩
theorem sm_nil {α : Type} [Small α] : Small.sm ([] : List α) := ⟨Nat.zero_le _, fun y hy => by cases hy⟩
theorem sm_empty : Small.sm ByteArray.empty := Nat.zero_le 1050000
theorem s_l01In_P0 (x0 : Int) (x1 : Int) (x2 : Int) (h0 : (decide (x0 ≥ x1)) = true) : Does E 77 [.one (tI x0), .one (tI x1), .one (tI x2)] [(false, [tB (decide (x0 ≤ x2))])] :=
  Does.path (fn := Try.f77) [.b true] _ rfl (fun _ => rfl) (fun k => by kernel_rfl) (AC h0 <| AN)
theorem s_l01In_P1 (x0 : Int) (x1 : Int) (x2 : Int) (h0 : (decide (x0 ≥ x1)) = false) : Does E 77 [.one (tI x0), .one (tI x1), .one (tI x2)] [(false, [tB false])] :=
  Does.path (fn := Try.f77) [.b false] _ rfl (fun _ => rfl) (fun k => by kernel_rfl) (AC h0 <| AN)
noncomputable def s_l01In_F (x0 : Int) (x1 : Int) (x2 : Int) : Option (Bool) :=
    cond (decide (x0 ≥ x1))
      (some (decide (x0 ≤ x2)))
      (some (false))
theorem s_l01In_D (x0 : Int) (x1 : Int) (x2 : Int) : Ans (s_l01In_F x0 x1 x2) (fun r => Does E 77 [.one (tI x0), .one (tI x1), .one (tI x2)] [(false, [tB r])]) := by
  unfold s_l01In_F
  refine Ans.ite (fun h0 => ?_) (fun h0 => ?_)
  · exact Ans.some (s_l01In_P0 x0 x1 x2 h0)
  · exact Ans.some (s_l01In_P1 x0 x1 x2 h0)
theorem T_s_l01In (x0 : Int) (x1 : Int) (x2 : Int) : Does E 77 [.one (tI x0), .one (tI x1), .one (tI x2)] [(false, [tB (inRange x0 x1 x2)])] := by
  exact s_l01In_D x0 x1 x2 _ (by unfold s_l01In_F inRange; cases decide (x0 ≥ x1) <;> rfl)
theorem i_inRange_P0 (x0 : Int) (x1 : Int) (x2 : Int) (h0 : (decide (x0 ≥ x1)) = true) : Does E 85 [.one (tI x0), .one (tI x1), .one (tI x2)] [(false, [tB (decide (x0 ≤ x2))])] :=
  Does.path (fn := Try.f85) [.b true] _ rfl (fun _ => rfl) (fun k => by kernel_rfl) (AC h0 <| AN)
theorem i_inRange_P1 (x0 : Int) (x1 : Int) (x2 : Int) (h0 : (decide (x0 ≥ x1)) = false) : Does E 85 [.one (tI x0), .one (tI x1), .one (tI x2)] [(false, [tB false])] :=
  Does.path (fn := Try.f85) [.b false] _ rfl (fun _ => rfl) (fun k => by kernel_rfl) (AC h0 <| AN)
noncomputable def i_inRange_F (x0 : Int) (x1 : Int) (x2 : Int) : Option (Bool) :=
    cond (decide (x0 ≥ x1))
      (some (decide (x0 ≤ x2)))
      (some (false))
theorem i_inRange_D (x0 : Int) (x1 : Int) (x2 : Int) : Ans (i_inRange_F x0 x1 x2) (fun r => Does E 85 [.one (tI x0), .one (tI x1), .one (tI x2)] [(false, [tB r])]) := by
  unfold i_inRange_F
  refine Ans.ite (fun h0 => ?_) (fun h0 => ?_)
  · exact Ans.some (i_inRange_P0 x0 x1 x2 h0)
  · exact Ans.some (i_inRange_P1 x0 x1 x2 h0)
theorem T_i_inRange (x0 : Int) (x1 : Int) (x2 : Int) : Does E 85 [.one (tI x0), .one (tI x1), .one (tI x2)] [(false, [tB (inRange x0 x1 x2)])] := by
  exact i_inRange_D x0 x1 x2 _ (by unfold i_inRange_F inRange; cases decide (x0 ≥ x1) <;> rfl)
theorem slices_Clone_int_P0 (h : ([] : List Int).length * 8 ≤ 140737488355328 ∧ ([] : List Int).length ≤ 4611686018427387904) : Does E 88 [.one (.s .far () 1 (([] : List Int).map etI))] [(false, [.s .own () 1 (([] : List Int).map etI)])] :=
  Does.path (fn := Try.f88) [.b true, .rows (([] : List Int).map etI)] [fun _ => (([] : List Int).map etI).length = 0, fun _ => ([(false, [.s .own () 1 ([] : List (List (T Unit)))])] : URes) = [(false, [.s .own () 1 ([] : List (List (T Unit)))])], fun _ => (([] : List Int).map etI).all (fun r => r.all T.flat) = true ∧ (([] : List (List (T Unit))).length + (([] : List Int).map etI).length) * 8 ≤ 140737488355328 ∧ ([] : List (List (T Unit))).length + (([] : List Int).map etI).length ≤ 4611686018427387904, fun _ => ([] : List (List (T Unit))) ++ (([] : List Int).map etI) = (([] : List Int).map etI)] rfl (fun _ => rfl) (fun k => by kernel_rfl) ⟨Ev.c rfl, Ev.c rfl, Ev.c (cloneOk (fun x => rfl) h), Ev.c rfl, trivial⟩
theorem slices_Clone_int_P1 (y : Int) (l : List Int) (h : (y :: l).length * 8 ≤ 140737488355328 ∧ (y :: l).length ≤ 4611686018427387904) : Does E 88 [.one (.s .far () 1 ((y :: l).map etI))] [(false, [.s .own () 1 ((y :: l).map etI)])] :=
  Does.path (fn := Try.f88) [.b false, .rows ((y :: l).map etI)] [fun _ => ((y :: l).map etI).length ≠ 0, fun _ => ((y :: l).map etI).all (fun r => r.all T.flat) = true ∧ (([] : List (List (T Unit))).length + ((y :: l).map etI).length) * 8 ≤ 140737488355328 ∧ ([] : List (List (T Unit))).length + ((y :: l).map etI).length ≤ 4611686018427387904, fun _ => ([] : List (List (T Unit))) ++ ((y :: l).map etI) = ((y :: l).map etI)] rfl (fun _ => rfl) (fun k => by kernel_rfl) ⟨Ev.c (by simp), Ev.c (cloneOk (fun x => rfl) h), Ev.c rfl, trivial⟩
noncomputable def slices_Clone_int_F (x0 : List Int) : Option (List Int) := if x0.length * 8 ≤ 140737488355328 ∧ x0.length ≤ 4611686018427387904 then some x0 else none
theorem slices_Clone_int_D (x0 : List Int) : Ans (slices_Clone_int_F x0) (fun r => Does E 88 [.one (.s .far () 1 (x0.map etI))] [(false, [.s .own () 1 (r.map etI)])]) := by
  unfold slices_Clone_int_F
  refine Ans.pre (fun h => Ans.some ?_)
  cases x0 with
  | nil => exact slices_Clone_int_P0 h
  | cons y l => exact slices_Clone_int_P1 y l h
theorem T_slices_Clone_int (x0 : List Int) (h : x0.length ≤ 1050000) : Does E 88 [.one (.s .far () 1 (x0.map etI))] [(false, [.s .own () 1 ((id x0).map etI)])] := by
  exact slices_Clone_int_D x0 _ (by unfold slices_Clone_int_F; rw [if_pos (by omega)]; rfl)
theorem getBack {full rest : List Int} {x : Int} {i : Nat} (h : full.drop i = x :: rest) : i = 0 ∨ ∃ y, full[i - 1]? = some y := by
  cases i with
  | zero => exact .inl rfl
  | succ i =>
    right
    have : i < full.length := by
      rcases Nat.lt_or_ge i full.length with g | g
      · exact g
      · rw [List.drop_eq_nil_of_le (by omega)] at h; cases h
    exact ⟨full[i], by simp [this]⟩
def prevOf (full : List Int) (i : Nat) : Option Int := if i = 0 then none else full[i - 1]?
theorem prev_next {full rest : List Int} {x : Int} {i : Nat} (h : full.drop i = x :: rest) : prevOf full (i + 1) = some x := by
  unfold prevOf
  rw [if_neg (by omega)]
  show full[i]? = some x
  rw [← List.head?_drop, h]; rfl
inductive s_l05Rise_X0 where
  | ret (v6 : Bool)
  | x0 
def s_l05Rise_Q0 (v0 : List Int) (v1 : Int) (v2 : Int) (v7 : Int) : s_l05Rise_X0 → Prop
  | .ret zv6 => Loops E 80 (lpAt Try.f80 0) (stL 38 [(0, .one (.s .far () 1 (v0.map etI))), (1, .one (tI v1)), (2, .one (tI v2)), (7, .one (tI v7))]) .ret (stL 38 [(6, .one (tB zv6))])
  | .x0 => Loops E 80 (lpAt Try.f80 0) (stL 38 [(0, .one (.s .far () 1 (v0.map etI))), (1, .one (tI v1)), (2, .one (tI v2)), (7, .one (tI v7))]) (.exit 0) (stL 38 [])
theorem s_l05Rise_R0_0 (v0 : List Int) (v1 : Int) (v2 : Int) (v7 : Int) (g0 : Int) (g1 : Int) (h0 : (decide (v7 < (v0.length : Int))) = true) (h1 : getI v0 v7 = some g0) (h2 : (inRange g0 v1 v2) = true) (h3 : (decide (v7 > (0 : Int))) = true) (h4 : getI v0 (IntKind.wrap .i64 (v7 - (1 : Int))) = some g1) (h5 : (decide (g1 ≥ g0)) = true) : Round E 80 (lpAt Try.f80 0) (stL 38 [(0, .one (.s .far () 1 (v0.map etI))), (1, .one (tI v1)), (2, .one (tI v2)), (7, .one (tI v7))]) .ret (stL 38 [(6, .one (tB false))]) :=
  Round.path [.val (.int .i64 (v0.length : Int)), .b true, .row (etI g0), rT, .b true, .row (etI g1), .row (etI g0), .b true] _ (fun k => by kernel_rfl) (AV (ψ := fun _ => ((v0.map etI).length : Int) = (v0.length : Int)) (Ev.c lenMap) <| AC h0 <| AV (ψ := fun _ => 0 ≤ v7 ∧ (v0.map etI)[v7.toNat]? = some (etI g0)) (Ev.c (getRow h1)) <| AD (Does.tB (T_s_l01In g0 v1 v2) h2) <| AC h3 <| AV (ψ := fun _ => 0 ≤ (IntKind.wrap .i64 (v7 - (1 : Int))) ∧ (v0.map etI)[(IntKind.wrap .i64 (v7 - (1 : Int))).toNat]? = some (etI g1)) (Ev.c (getRow h4)) <| AV (ψ := fun _ => 0 ≤ v7 ∧ (v0.map etI)[v7.toNat]? = some (etI g0)) (Ev.c (getRow h1)) <| AC h5 <| AN)
theorem s_l05Rise_R0_1 (v0 : List Int) (v1 : Int) (v2 : Int) (v7 : Int) (g0 : Int) (g1 : Int) (h0 : (decide (v7 < (v0.length : Int))) = true) (h1 : getI v0 v7 = some g0) (h2 : (inRange g0 v1 v2) = true) (h3 : (decide (v7 > (0 : Int))) = true) (h4 : getI v0 (IntKind.wrap .i64 (v7 - (1 : Int))) = some g1) (h5 : (decide (g1 ≥ g0)) = false) : Round E 80 (lpAt Try.f80 0) (stL 38 [(0, .one (.s .far () 1 (v0.map etI))), (1, .one (tI v1)), (2, .one (tI v2)), (7, .one (tI v7))]) .normal (stL 38 [(0, .one (.s .far () 1 (v0.map etI))), (1, .one (tI v1)), (2, .one (tI v2)), (7, .one (tI (inc v7)))]) :=
  Round.path [.val (.int .i64 (v0.length : Int)), .b true, .row (etI g0), rT, .b true, .row (etI g1), .row (etI g0), .b false] _ (fun k => by kernel_rfl) (AV (ψ := fun _ => ((v0.map etI).length : Int) = (v0.length : Int)) (Ev.c lenMap) <| AC h0 <| AV (ψ := fun _ => 0 ≤ v7 ∧ (v0.map etI)[v7.toNat]? = some (etI g0)) (Ev.c (getRow h1)) <| AD (Does.tB (T_s_l01In g0 v1 v2) h2) <| AC h3 <| AV (ψ := fun _ => 0 ≤ (IntKind.wrap .i64 (v7 - (1 : Int))) ∧ (v0.map etI)[(IntKind.wrap .i64 (v7 - (1 : Int))).toNat]? = some (etI g1)) (Ev.c (getRow h4)) <| AV (ψ := fun _ => 0 ≤ v7 ∧ (v0.map etI)[v7.toNat]? = some (etI g0)) (Ev.c (getRow h1)) <| AC h5 <| AN)
theorem s_l05Rise_R0_2 (v0 : List Int) (v1 : Int) (v2 : Int) (v7 : Int) (g0 : Int) (h0 : (decide (v7 < (v0.length : Int))) = true) (h1 : getI v0 v7 = some g0) (h2 : (inRange g0 v1 v2) = true) (h3 : (decide (v7 > (0 : Int))) = false) : Round E 80 (lpAt Try.f80 0) (stL 38 [(0, .one (.s .far () 1 (v0.map etI))), (1, .one (tI v1)), (2, .one (tI v2)), (7, .one (tI v7))]) .normal (stL 38 [(0, .one (.s .far () 1 (v0.map etI))), (1, .one (tI v1)), (2, .one (tI v2)), (7, .one (tI (inc v7)))]) :=
  Round.path [.val (.int .i64 (v0.length : Int)), .b true, .row (etI g0), rT, .b false] _ (fun k => by kernel_rfl) (AV (ψ := fun _ => ((v0.map etI).length : Int) = (v0.length : Int)) (Ev.c lenMap) <| AC h0 <| AV (ψ := fun _ => 0 ≤ v7 ∧ (v0.map etI)[v7.toNat]? = some (etI g0)) (Ev.c (getRow h1)) <| AD (Does.tB (T_s_l01In g0 v1 v2) h2) <| AC h3 <| AN)
theorem s_l05Rise_R0_3 (v0 : List Int) (v1 : Int) (v2 : Int) (v7 : Int) (g0 : Int) (h0 : (decide (v7 < (v0.length : Int))) = true) (h1 : getI v0 v7 = some g0) (h2 : (inRange g0 v1 v2) = false) : Round E 80 (lpAt Try.f80 0) (stL 38 [(0, .one (.s .far () 1 (v0.map etI))), (1, .one (tI v1)), (2, .one (tI v2)), (7, .one (tI v7))]) .ret (stL 38 [(6, .one (tB false))]) :=
  Round.path [.val (.int .i64 (v0.length : Int)), .b true, .row (etI g0), rF] _ (fun k => by kernel_rfl) (AV (ψ := fun _ => ((v0.map etI).length : Int) = (v0.length : Int)) (Ev.c lenMap) <| AC h0 <| AV (ψ := fun _ => 0 ≤ v7 ∧ (v0.map etI)[v7.toNat]? = some (etI g0)) (Ev.c (getRow h1)) <| AD (Does.tB (T_s_l01In g0 v1 v2) h2) <| AN)
theorem s_l05Rise_R0_4 (v0 : List Int) (v1 : Int) (v2 : Int) (v7 : Int) (h0 : (decide (v7 < (v0.length : Int))) = false) : Round E 80 (lpAt Try.f80 0) (stL 38 [(0, .one (.s .far () 1 (v0.map etI))), (1, .one (tI v1)), (2, .one (tI v2)), (7, .one (tI v7))]) (.exit 0) (stL 38 []) :=
  Round.path [.val (.int .i64 (v0.length : Int)), .b false] _ (fun k => by kernel_rfl) (AV (ψ := fun _ => ((v0.map etI).length : Int) = (v0.length : Int)) (Ev.c lenMap) <| AC h0 <| AN)
noncomputable def s_l05Rise_l0 (v0 : List Int) (v1 : Int) (v2 : Int) : List Int → Nat → Option s_l05Rise_X0
  | [], i => some (.x0)
  | hd :: rest, i => cond (inRange hd v1 v2)
    (cond (decide ((i : Int) > (0 : Int)))
      ((getI v0 (IntKind.wrap .i64 ((i : Int) - (1 : Int)))).bind fun g1 => cond (decide (g1 ≥ hd))
        (some (.ret false))
        (s_l05Rise_l0 v0 v1 v2 rest (i + 1)))
      (s_l05Rise_l0 v0 v1 v2 rest (i + 1)))
    (some (.ret false))
theorem s_l05Rise_L0 (v0 : List Int) (v1 : Int) (v2 : Int) (rest : List Int) : ∀ (i : Nat) , (v0).drop i = rest → v0.length ≤ 9223372036854775807 → Ans (s_l05Rise_l0 v0 v1 v2 rest i) (s_l05Rise_Q0 v0 v1 v2 (i : Int)) := by
  induction rest with
  | nil =>
    intro i hE hl
    have hb := foldEnd hE
    unfold s_l05Rise_l0
    exact Ans.some (Loops.stop (s_l05Rise_R0_4 v0 v1 v2 (i : Int) hb) (by intro h; cases h))
  | cons hd rest ih =>
    intro i hE hl
    have hb := foldMore hE
    have hw := foldNext hE hl
    have hE2 := foldRest hE
    have hg := foldGet hE
    unfold s_l05Rise_l0
    refine Ans.ite (fun h2 => ?_) (fun h2 => ?_)
    · refine Ans.ite (fun h3 => ?_) (fun h3 => ?_)
      · refine Ans.bind (fun g1 h4 => ?_)
        refine Ans.ite (fun h5 => ?_) (fun h5 => ?_)
        · exact Ans.some (Loops.stop (s_l05Rise_R0_0 v0 v1 v2 (i : Int) hd g1 hb hg h2 h3 h4 h5) (by intro h; cases h))
        · exact (ih (i + 1) hE2 hl).mono fun y hy => by have r := s_l05Rise_R0_1 v0 v1 v2 (i : Int) hd g1 hb hg h2 h3 h4 h5; rw [hw] at r; cases y <;> exact Loops.next r hy
      · exact (ih (i + 1) hE2 hl).mono fun y hy => by have r := s_l05Rise_R0_2 v0 v1 v2 (i : Int) hd hb hg h2 h3; rw [hw] at r; cases y <;> exact Loops.next r hy
    · exact Ans.some (Loops.stop (s_l05Rise_R0_3 v0 v1 v2 (i : Int) hd hb hg h2) (by intro h; cases h))
theorem s_l05Rise_P0 (x0 : List Int) (x1 : Int) (x2 : Int) (w0_6 : Bool) (h0 : Loops E 80 (lpAt Try.f80 0) (stL 38 [(0, .one (.s .far () 1 (x0.map etI))), (1, .one (tI x1)), (2, .one (tI x2)), (7, .one (tI (0 : Int)))]) .ret (stL 38 [(6, .one (tB w0_6))])) : Does E 80 [.one (.s .far () 1 (x0.map etI)), .one (tI x1), .one (tI x2)] [(false, [tB w0_6])] :=
  Does.path (fn := Try.f80) [.lp .ret (stL 38 [(6, .one (tB w0_6))])] _ rfl (fun _ => rfl) (fun k => by kernel_rfl) (AV (ψ := fun k => LoopK E 80 (lpAt Try.f80 0) (stL 38 [(0, .one (.s .far () 1 (x0.map etI))), (1, .one (tI x1)), (2, .one (tI x2)), (7, .one (tI (0 : Int)))]) .ret (stL 38 [(6, .one (tB w0_6))]) k k) (Loops.ev h0) <| AN)
theorem s_l05Rise_P1 (x0 : List Int) (x1 : Int) (x2 : Int) (h0 : Loops E 80 (lpAt Try.f80 0) (stL 38 [(0, .one (.s .far () 1 (x0.map etI))), (1, .one (tI x1)), (2, .one (tI x2)), (7, .one (tI (0 : Int)))]) (.exit 0) (stL 38 [])) : Does E 80 [.one (.s .far () 1 (x0.map etI)), .one (tI x1), .one (tI x2)] [(false, [tB true])] :=
  Does.path (fn := Try.f80) [.lp (.exit 0) (stL 38 [])] _ rfl (fun _ => rfl) (fun k => by kernel_rfl) (AV (ψ := fun k => LoopK E 80 (lpAt Try.f80 0) (stL 38 [(0, .one (.s .far () 1 (x0.map etI))), (1, .one (tI x1)), (2, .one (tI x2)), (7, .one (tI (0 : Int)))]) (.exit 0) (stL 38 []) k k) (Loops.ev h0) <| AN)
noncomputable def s_l05Rise_F (x0 : List Int) (x1 : Int) (x2 : Int) : Option (Bool) :=
    if x0.length ≤ 9223372036854775807 then (s_l05Rise_l0 x0 x1 x2 x0 0).bind fun y => match y with
      | .ret w0_6 => (some (w0_6))
      | .x0 => (some (true)) else none
theorem s_l05Rise_D (x0 : List Int) (x1 : Int) (x2 : Int) : Ans (s_l05Rise_F x0 x1 x2) (fun r => Does E 80 [.one (.s .far () 1 (x0.map etI)), .one (tI x1), .one (tI x2)] [(false, [tB r])]) := by
  unfold s_l05Rise_F
  refine Ans.pre (fun hl1 => ?_)
  refine Ans.bind (fun y hy => ?_)
  replace hy := s_l05Rise_L0 x0 x1 x2 x0 0 rfl hl1 y hy
  cases y with
  | ret w0_6 =>
    have h0 := hy
    exact Ans.some (s_l05Rise_P0 x0 x1 x2 w0_6 h0)
  | x0 =>
    have h0 := hy
    exact Ans.some (s_l05Rise_P1 x0 x1 x2 h0)
def riseN (a b : Int) : List Int → Option Int → Bool
  | [], _ => true
  | x :: l, p => inRange x a b && (match p with | some y => decide (y < x) | none => true) && riseN a b l (some x)
def riseL (l : List Int) (a b : Int) : Bool := riseN a b l none
theorem riseN_len {a b : Int} : ∀ {l : List Int} {p : Int}, riseN a b l (some p) = true → p ≤ b → (l.length : Int) ≤ b - p
  | [], p, _, h => by simp; omega
  | x :: l, p, h, hp => by
    simp only [riseN, Bool.and_eq_true, decide_eq_true_eq, inRange] at h
    have := riseN_len h.2 (by omega)
    rw [List.length_cons]
    omega
theorem riseL_len {l : List Int} (h : riseL l 1 4 = true) : l.length ≤ 4 := by
  cases l with
  | nil => simp
  | cons x l =>
    simp only [riseL, riseN, Bool.and_eq_true, decide_eq_true_eq, inRange] at h
    have := riseN_len h.2 (by omega)
    rw [List.length_cons]
    omega
theorem s_rise (full : List Int) (a b : Int) (hl : full.length ≤ 1050000) : ∀ (rest : List Int) (i : Nat), full.drop i = rest → s_l05Rise_l0 full a b rest i = some (if riseN a b rest (prevOf full i) = true then .x0 else .ret false)
  | [], i, _ => rfl
  | x :: rest, i, h => by
    have ih := s_rise full a b hl rest (i + 1) (foldRest h)
    rw [prev_next h] at ih
    have hi : i < full.length := by
      rcases Nat.lt_or_ge i full.length with g | g
      · exact g
      · rw [List.drop_eq_nil_of_le g] at h; cases h
    unfold s_l05Rise_l0 riseN
    rw [ih]
    cases inRange x a b with
    | false => rfl
    | true =>
      rw [cond_true, Bool.true_and]
      rcases getBack h with rfl | ⟨y, hy⟩
      · simp [prevOf]
      · by_cases z : i = 0
        · subst z; simp [prevOf]
        · have hp : prevOf full i = some y := by unfold prevOf; rw [if_neg z, hy]
          have hg : getI full (IntKind.wrap .i64 ((i : Int) - 1)) = some y := by
            rw [wrap_id _ (by omega) (by omega)]
            have e : ((i : Int) - 1) = ((i - 1 : Nat) : Int) := by omega
            rw [e, getI_nat, hy]
          rw [hp, hg, decide_eq_true (by omega : (i : Int) > 0), cond_true, Option.bind_some]
          simp only
          by_cases c : y ≥ x
          · have yx : ¬ y < x := by omega
            rw [decide_eq_true c, cond_true]; simp [yx]
          · have yx : y < x := by omega
            rw [decide_eq_false c, cond_false]; simp [yx]
theorem T_s_l05Rise (x0 : List Int) (x1 : Int) (x2 : Int) (h : x0.length ≤ 1050000) : Does E 80 [.one (.s .far () 1 (x0.map etI)), .one (tI x1), .one (tI x2)] [(false, [tB (riseL x0 x1 x2)])] := by
  exact s_l05Rise_D x0 x1 x2 _ (by
    unfold s_l05Rise_F
    rw [if_pos (by omega), s_rise x0 x1 x2 h x0 0 rfl]
    unfold riseL prevOf
    rw [if_pos rfl]
    cases riseN x1 x2 x0 none <;> rfl)
theorem i_isNode_P0 (x0 : Int)  : Does E 82 [.one (tI x0)] [(false, [tB (inRange x0 (1 : Int) (4 : Int))])] :=
  Does.path (fn := Try.f82) [.ret [(false, [tB (inRange x0 (1 : Int) (4 : Int))])]] _ rfl (fun _ => rfl) (fun k => by kernel_rfl) (AD (T_i_inRange x0 (1 : Int) (4 : Int)) <| AN)
noncomputable def i_isNode_F (x0 : Int) : Option (Bool) :=
    some (inRange x0 (1 : Int) (4 : Int))
theorem i_isNode_D (x0 : Int) : Ans (i_isNode_F x0) (fun r => Does E 82 [.one (tI x0)] [(false, [tB r])]) := by
  unfold i_isNode_F
  exact Ans.some (i_isNode_P0 x0)
abbrev isNode (x : Int) : Bool := inRange x 1 4
theorem T_i_isNode (x0 : Int) : Does E 82 [.one (tI x0)] [(false, [tB (isNode x0)])] := by
  exact i_isNode_D x0 _ rfl
theorem i_isTerm_P0 (x0 : Int)  : Does E 84 [.one (tI x0)] [(false, [tB (inRange x0 (0 : Int) (100000 : Int))])] :=
  Does.path (fn := Try.f84) [.ret [(false, [tB (inRange x0 (0 : Int) (100000 : Int))])]] _ rfl (fun _ => rfl) (fun k => by kernel_rfl) (AD (T_i_inRange x0 (0 : Int) (100000 : Int)) <| AN)
noncomputable def i_isTerm_F (x0 : Int) : Option (Bool) :=
    some (inRange x0 (0 : Int) (100000 : Int))
theorem i_isTerm_D (x0 : Int) : Ans (i_isTerm_F x0) (fun r => Does E 84 [.one (tI x0)] [(false, [tB r])]) := by
  unfold i_isTerm_F
  exact Ans.some (i_isTerm_P0 x0)
abbrev isTerm (x : Int) : Bool := inRange x 0 100000
theorem T_i_isTerm (x0 : Int) : Does E 84 [.one (tI x0)] [(false, [tB (isTerm x0)])] := by
  exact i_isTerm_D x0 _ rfl
theorem i_isIndex_P0 (x0 : Int)  : Does E 137 [.one (tI x0)] [(false, [tB (inRange x0 (0 : Int) (1000000 : Int))])] :=
  Does.path (fn := Try.f137) [.ret [(false, [tB (inRange x0 (0 : Int) (1000000 : Int))])]] _ rfl (fun _ => rfl) (fun k => by kernel_rfl) (AD (T_i_inRange x0 (0 : Int) (1000000 : Int)) <| AN)
noncomputable def i_isIndex_F (x0 : Int) : Option (Bool) :=
    some (inRange x0 (0 : Int) (1000000 : Int))
theorem i_isIndex_D (x0 : Int) : Ans (i_isIndex_F x0) (fun r => Does E 137 [.one (tI x0)] [(false, [tB r])]) := by
  unfold i_isIndex_F
  exact Ans.some (i_isIndex_P0 x0)
abbrev isIndex (x : Int) : Bool := inRange x 0 1000000
theorem T_i_isIndex (x0 : Int) : Does E 137 [.one (tI x0)] [(false, [tB (isIndex x0)])] := by
  exact i_isIndex_D x0 _ rfl
inductive i_areNodes_X0 where
  | ret (v2 : Bool)
  | x0 
def i_areNodes_Q0 (v0 : List Int) (v5 : List Int) (v6 : Int) (v7 : Int) : i_areNodes_X0 → Prop
  | .ret zv2 => Loops E 86 (lpAt Try.f86 0) (stL 29 [(0, .one (.s .far () 1 (v0.map etI))), (5, .one (.s .far () 1 (v5.map etI))), (6, .one (tI v6)), (7, .one (tI v7))]) .ret (stL 29 [(2, .one (tB zv2))])
  | .x0 => Loops E 86 (lpAt Try.f86 0) (stL 29 [(0, .one (.s .far () 1 (v0.map etI))), (5, .one (.s .far () 1 (v5.map etI))), (6, .one (tI v6)), (7, .one (tI v7))]) (.exit 0) (stL 29 [])
theorem i_areNodes_R0_0 (v0 : List Int) (v5 : List Int) (v6 : Int) (v7 : Int) (g0 : Int) (g1 : Int) (h0 : (decide (v7 < v6)) = true) (h1 : getI v5 v7 = some g0) (h2 : (isNode g0) = true) (h3 : (decide (v7 > (0 : Int))) = true) (h4 : getI v0 (IntKind.wrap .i64 (v7 - (1 : Int))) = some g1) (h5 : (decide (g0 ≤ g1)) = true) : Round E 86 (lpAt Try.f86 0) (stL 29 [(0, .one (.s .far () 1 (v0.map etI))), (5, .one (.s .far () 1 (v5.map etI))), (6, .one (tI v6)), (7, .one (tI v7))]) .ret (stL 29 [(2, .one (tB false))]) :=
  Round.path [.b true, .row (etI g0), rT, .b true, .row (etI g1), .b true] _ (fun k => by kernel_rfl) (AC h0 <| AV (ψ := fun _ => 0 ≤ v7 ∧ (v5.map etI)[v7.toNat]? = some (etI g0)) (Ev.c (getRow h1)) <| AD (Does.tB (T_i_isNode g0) h2) <| AC h3 <| AV (ψ := fun _ => 0 ≤ (IntKind.wrap .i64 (v7 - (1 : Int))) ∧ (v0.map etI)[(IntKind.wrap .i64 (v7 - (1 : Int))).toNat]? = some (etI g1)) (Ev.c (getRow h4)) <| AC h5 <| AN)
theorem i_areNodes_R0_1 (v0 : List Int) (v5 : List Int) (v6 : Int) (v7 : Int) (g0 : Int) (g1 : Int) (h0 : (decide (v7 < v6)) = true) (h1 : getI v5 v7 = some g0) (h2 : (isNode g0) = true) (h3 : (decide (v7 > (0 : Int))) = true) (h4 : getI v0 (IntKind.wrap .i64 (v7 - (1 : Int))) = some g1) (h5 : (decide (g0 ≤ g1)) = false) : Round E 86 (lpAt Try.f86 0) (stL 29 [(0, .one (.s .far () 1 (v0.map etI))), (5, .one (.s .far () 1 (v5.map etI))), (6, .one (tI v6)), (7, .one (tI v7))]) .normal (stL 29 [(0, .one (.s .far () 1 (v0.map etI))), (5, .one (.s .far () 1 (v5.map etI))), (6, .one (tI v6)), (7, .one (tI (inc v7)))]) :=
  Round.path [.b true, .row (etI g0), rT, .b true, .row (etI g1), .b false] _ (fun k => by kernel_rfl) (AC h0 <| AV (ψ := fun _ => 0 ≤ v7 ∧ (v5.map etI)[v7.toNat]? = some (etI g0)) (Ev.c (getRow h1)) <| AD (Does.tB (T_i_isNode g0) h2) <| AC h3 <| AV (ψ := fun _ => 0 ≤ (IntKind.wrap .i64 (v7 - (1 : Int))) ∧ (v0.map etI)[(IntKind.wrap .i64 (v7 - (1 : Int))).toNat]? = some (etI g1)) (Ev.c (getRow h4)) <| AC h5 <| AN)
theorem i_areNodes_R0_2 (v0 : List Int) (v5 : List Int) (v6 : Int) (v7 : Int) (g0 : Int) (h0 : (decide (v7 < v6)) = true) (h1 : getI v5 v7 = some g0) (h2 : (isNode g0) = true) (h3 : (decide (v7 > (0 : Int))) = false) : Round E 86 (lpAt Try.f86 0) (stL 29 [(0, .one (.s .far () 1 (v0.map etI))), (5, .one (.s .far () 1 (v5.map etI))), (6, .one (tI v6)), (7, .one (tI v7))]) .normal (stL 29 [(0, .one (.s .far () 1 (v0.map etI))), (5, .one (.s .far () 1 (v5.map etI))), (6, .one (tI v6)), (7, .one (tI (inc v7)))]) :=
  Round.path [.b true, .row (etI g0), rT, .b false] _ (fun k => by kernel_rfl) (AC h0 <| AV (ψ := fun _ => 0 ≤ v7 ∧ (v5.map etI)[v7.toNat]? = some (etI g0)) (Ev.c (getRow h1)) <| AD (Does.tB (T_i_isNode g0) h2) <| AC h3 <| AN)
theorem i_areNodes_R0_3 (v0 : List Int) (v5 : List Int) (v6 : Int) (v7 : Int) (g0 : Int) (h0 : (decide (v7 < v6)) = true) (h1 : getI v5 v7 = some g0) (h2 : (isNode g0) = false) : Round E 86 (lpAt Try.f86 0) (stL 29 [(0, .one (.s .far () 1 (v0.map etI))), (5, .one (.s .far () 1 (v5.map etI))), (6, .one (tI v6)), (7, .one (tI v7))]) .ret (stL 29 [(2, .one (tB false))]) :=
  Round.path [.b true, .row (etI g0), rF] _ (fun k => by kernel_rfl) (AC h0 <| AV (ψ := fun _ => 0 ≤ v7 ∧ (v5.map etI)[v7.toNat]? = some (etI g0)) (Ev.c (getRow h1)) <| AD (Does.tB (T_i_isNode g0) h2) <| AN)
theorem i_areNodes_R0_4 (v0 : List Int) (v5 : List Int) (v6 : Int) (v7 : Int) (h0 : (decide (v7 < v6)) = false) : Round E 86 (lpAt Try.f86 0) (stL 29 [(0, .one (.s .far () 1 (v0.map etI))), (5, .one (.s .far () 1 (v5.map etI))), (6, .one (tI v6)), (7, .one (tI v7))]) (.exit 0) (stL 29 []) :=
  Round.path [.b false] _ (fun k => by kernel_rfl) (AC h0 <| AN)
noncomputable def i_areNodes_l0 (v0 : List Int) : List Int → Nat → Option i_areNodes_X0
  | [], i => some (.x0)
  | hd :: rest, i => cond (isNode hd)
    (cond (decide ((i : Int) > (0 : Int)))
      ((getI v0 (IntKind.wrap .i64 ((i : Int) - (1 : Int)))).bind fun g1 => cond (decide (hd ≤ g1))
        (some (.ret false))
        (i_areNodes_l0 v0 rest (i + 1)))
      (i_areNodes_l0 v0 rest (i + 1)))
    (some (.ret false))
theorem i_areNodes_L0 (v0 : List Int) (v5 : List Int) (rest : List Int) : ∀ (i : Nat) , (v5).drop i = rest → v5.length ≤ 9223372036854775807 → Ans (i_areNodes_l0 v0 rest i) (i_areNodes_Q0 v0 v5 (v5.length : Int) (i : Int)) := by
  induction rest with
  | nil =>
    intro i hE hl
    have hb := foldEnd hE
    unfold i_areNodes_l0
    exact Ans.some (Loops.stop (i_areNodes_R0_4 v0 v5 (v5.length : Int) (i : Int) hb) (by intro h; cases h))
  | cons hd rest ih =>
    intro i hE hl
    have hb := foldMore hE
    have hw := foldNext hE hl
    have hE2 := foldRest hE
    have hg := foldGet hE
    unfold i_areNodes_l0
    refine Ans.ite (fun h2 => ?_) (fun h2 => ?_)
    · refine Ans.ite (fun h3 => ?_) (fun h3 => ?_)
      · refine Ans.bind (fun g1 h4 => ?_)
        refine Ans.ite (fun h5 => ?_) (fun h5 => ?_)
        · exact Ans.some (Loops.stop (i_areNodes_R0_0 v0 v5 (v5.length : Int) (i : Int) hd g1 hb hg h2 h3 h4 h5) (by intro h; cases h))
        · exact (ih (i + 1) hE2 hl).mono fun y hy => by have r := i_areNodes_R0_1 v0 v5 (v5.length : Int) (i : Int) hd g1 hb hg h2 h3 h4 h5; rw [hw] at r; cases y <;> exact Loops.next r hy
      · exact (ih (i + 1) hE2 hl).mono fun y hy => by have r := i_areNodes_R0_2 v0 v5 (v5.length : Int) (i : Int) hd hb hg h2 h3; rw [hw] at r; cases y <;> exact Loops.next r hy
    · exact Ans.some (Loops.stop (i_areNodes_R0_3 v0 v5 (v5.length : Int) (i : Int) hd hb hg h2) (by intro h; cases h))
theorem i_areNodes_P0 (x0 : List Int) (w0_2 : Bool) (h0 : Loops E 86 (lpAt Try.f86 0) (stL 29 [(0, .one (.s .far () 1 (x0.map etI))), (5, .one (.s .far () 1 (x0.map etI))), (6, .one (tI (x0.length : Int))), (7, .one (tI (0 : Int)))]) .ret (stL 29 [(2, .one (tB w0_2))])) : Does E 86 [.one (.s .far () 1 (x0.map etI))] [(false, [tB w0_2])] :=
  Does.path (fn := Try.f86) [.val (.int .i64 (x0.length : Int)), .lp .ret (stL 29 [(2, .one (tB w0_2))])] _ rfl (fun _ => rfl) (fun k => by kernel_rfl) (AV (ψ := fun _ => ((x0.map etI).length : Int) = (x0.length : Int)) (Ev.c lenMap) <| AV (ψ := fun k => LoopK E 86 (lpAt Try.f86 0) (stL 29 [(0, .one (.s .far () 1 (x0.map etI))), (5, .one (.s .far () 1 (x0.map etI))), (6, .one (tI (x0.length : Int))), (7, .one (tI (0 : Int)))]) .ret (stL 29 [(2, .one (tB w0_2))]) k k) (Loops.ev h0) <| AN)
theorem i_areNodes_P1 (x0 : List Int) (h0 : Loops E 86 (lpAt Try.f86 0) (stL 29 [(0, .one (.s .far () 1 (x0.map etI))), (5, .one (.s .far () 1 (x0.map etI))), (6, .one (tI (x0.length : Int))), (7, .one (tI (0 : Int)))]) (.exit 0) (stL 29 [])) : Does E 86 [.one (.s .far () 1 (x0.map etI))] [(false, [tB true])] :=
  Does.path (fn := Try.f86) [.val (.int .i64 (x0.length : Int)), .lp (.exit 0) (stL 29 [])] _ rfl (fun _ => rfl) (fun k => by kernel_rfl) (AV (ψ := fun _ => ((x0.map etI).length : Int) = (x0.length : Int)) (Ev.c lenMap) <| AV (ψ := fun k => LoopK E 86 (lpAt Try.f86 0) (stL 29 [(0, .one (.s .far () 1 (x0.map etI))), (5, .one (.s .far () 1 (x0.map etI))), (6, .one (tI (x0.length : Int))), (7, .one (tI (0 : Int)))]) (.exit 0) (stL 29 []) k k) (Loops.ev h0) <| AN)
noncomputable def i_areNodes_F (x0 : List Int) : Option (Bool) :=
    if x0.length ≤ 9223372036854775807 then (i_areNodes_l0 x0 x0 0).bind fun y => match y with
      | .ret w0_2 => (some (w0_2))
      | .x0 => (some (true)) else none
theorem i_areNodes_D (x0 : List Int) : Ans (i_areNodes_F x0) (fun r => Does E 86 [.one (.s .far () 1 (x0.map etI))] [(false, [tB r])]) := by
  unfold i_areNodes_F
  refine Ans.pre (fun hl1 => ?_)
  refine Ans.bind (fun y hy => ?_)
  replace hy := i_areNodes_L0 x0 x0 x0 0 rfl hl1 y hy
  cases y with
  | ret w0_2 =>
    have h0 := hy
    exact Ans.some (i_areNodes_P0 x0 w0_2 h0)
  | x0 =>
    have h0 := hy
    exact Ans.some (i_areNodes_P1 x0 h0)
abbrev areNodes (l : List Int) : Bool := riseL l 1 4
theorem i_rise (full : List Int) (hl : full.length ≤ 1050000) : ∀ (rest : List Int) (i : Nat), full.drop i = rest → i_areNodes_l0 full rest i = some (if riseN 1 4 rest (prevOf full i) = true then .x0 else .ret false)
  | [], i, _ => rfl
  | x :: rest, i, h => by
    have ih := i_rise full hl rest (i + 1) (foldRest h)
    rw [prev_next h] at ih
    have hi : i < full.length := by
      rcases Nat.lt_or_ge i full.length with g | g
      · exact g
      · rw [List.drop_eq_nil_of_le g] at h; cases h
    unfold i_areNodes_l0 riseN
    rw [ih]
    rw [show isNode x = inRange x 1 4 from rfl]
    cases inRange x 1 4 with
    | false => rfl
    | true =>
      rw [cond_true, Bool.true_and]
      rcases getBack h with rfl | ⟨y, hy⟩
      · simp [prevOf]
      · by_cases z : i = 0
        · subst z; simp [prevOf]
        · have hp : prevOf full i = some y := by unfold prevOf; rw [if_neg z, hy]
          have hg : getI full (IntKind.wrap .i64 ((i : Int) - 1)) = some y := by
            rw [wrap_id _ (by omega) (by omega)]
            have e : ((i : Int) - 1) = ((i - 1 : Nat) : Int) := by omega
            rw [e, getI_nat, hy]
          rw [hp, hg, decide_eq_true (by omega : (i : Int) > 0), cond_true, Option.bind_some]
          simp only
          by_cases c : x ≤ y
          · have yx : ¬ y < x := by omega
            rw [decide_eq_true c, cond_true]; simp [yx]
          · have yx : y < x := by omega
            rw [decide_eq_false c, cond_false]; simp [yx]
theorem T_i_areNodes (x0 : List Int) (h : x0.length ≤ 1050000) : Does E 86 [.one (.s .far () 1 (x0.map etI))] [(false, [tB (areNodes x0)])] := by
  exact i_areNodes_D x0 _ (by
    unfold i_areNodes_F
    rw [if_pos (by omega), i_rise x0 h x0 0 rfl]
    unfold areNodes riseL prevOf
    rw [if_pos rfl]
    cases riseN 1 4 x0 none <;> rfl)
theorem s_ConfOk_P0 (x0 : List Int) (h0 : (inRange (x0.length : Int) (1 : Int) (4 : Int)) = true) (h1 : x0.length ≤ 1050000) : Does E 78 [.one (.s .far () 1 (x0.map etI))] [(false, [tB (riseL x0 (1 : Int) (4 : Int))])] :=
  Does.path (fn := Try.f78) [.val (.int .i64 (x0.length : Int)), rT, .ret [(false, [tB (riseL x0 (1 : Int) (4 : Int))])]] _ rfl (fun _ => rfl) (fun k => by kernel_rfl) (AV (ψ := fun _ => ((x0.map etI).length : Int) = (x0.length : Int)) (Ev.c lenMap) <| AD (Does.tB (T_s_l01In (x0.length : Int) (1 : Int) (4 : Int)) h0) <| AD (T_s_l05Rise x0 (1 : Int) (4 : Int) h1) <| AN)
theorem s_ConfOk_P1 (x0 : List Int) (h0 : (inRange (x0.length : Int) (1 : Int) (4 : Int)) = false) : Does E 78 [.one (.s .far () 1 (x0.map etI))] [(false, [tB false])] :=
  Does.path (fn := Try.f78) [.val (.int .i64 (x0.length : Int)), rF] _ rfl (fun _ => rfl) (fun k => by kernel_rfl) (AV (ψ := fun _ => ((x0.map etI).length : Int) = (x0.length : Int)) (Ev.c lenMap) <| AD (Does.tB (T_s_l01In (x0.length : Int) (1 : Int) (4 : Int)) h0) <| AN)
noncomputable def s_ConfOk_F (x0 : List Int) : Option (Bool) :=
    cond (inRange (x0.length : Int) (1 : Int) (4 : Int))
      (if x0.length ≤ 1050000 then some (riseL x0 (1 : Int) (4 : Int)) else none)
      (some (false))
theorem s_ConfOk_D (x0 : List Int) : Ans (s_ConfOk_F x0) (fun r => Does E 78 [.one (.s .far () 1 (x0.map etI))] [(false, [tB r])]) := by
  unfold s_ConfOk_F
  refine Ans.ite (fun h0 => ?_) (fun h0 => ?_)
  · refine Ans.pre (fun h1 => ?_)
    exact Ans.some (s_ConfOk_P0 x0 h0 h1)
  · exact Ans.some (s_ConfOk_P1 x0 h0)
def confOk (l : List Int) : Bool := decide ((l.length : Int) > 0) && riseL l 1 4
theorem T_s_ConfOk (x0 : List Int) (h : x0.length ≤ 1050000) : Does E 78 [.one (.s .far () 1 (x0.map etI))] [(false, [tB (confOk x0)])] := by
  exact s_ConfOk_D x0 _ (by
    unfold s_ConfOk_F confOk
    rw [if_pos h]
    cases q : riseL x0 1 4 with
    | false => cases inRange (x0.length : Int) 1 4 <;> cases decide ((x0.length : Int) > 0) <;> rfl
    | true =>
      have := riseL_len q
      have e : inRange (x0.length : Int) 1 4 = decide ((x0.length : Int) > 0) := by
        unfold inRange
        rw [decide_eq_true (by omega : (x0.length : Int) ≤ 4), Bool.and_true]
        exact decide_eq_decide.2 (by omega)
      rw [e]
      cases decide ((x0.length : Int) > 0) <;> rfl)
theorem i_ConfOk_P0 (x0 : List Int) (h0 : (decide ((x0.length : Int) > (0 : Int))) = true) (h1 : x0.length ≤ 1050000) : Does E 83 [.one (.s .far () 1 (x0.map etI))] [(false, [tB (areNodes x0)])] :=
  Does.path (fn := Try.f83) [.val (.int .i64 (x0.length : Int)), .b true, .ret [(false, [tB (areNodes x0)])]] _ rfl (fun _ => rfl) (fun k => by kernel_rfl) (AV (ψ := fun _ => ((x0.map etI).length : Int) = (x0.length : Int)) (Ev.c lenMap) <| AC h0 <| AD (T_i_areNodes x0 h1) <| AN)
theorem i_ConfOk_P1 (x0 : List Int) (h0 : (decide ((x0.length : Int) > (0 : Int))) = false) : Does E 83 [.one (.s .far () 1 (x0.map etI))] [(false, [tB false])] :=
  Does.path (fn := Try.f83) [.val (.int .i64 (x0.length : Int)), .b false] _ rfl (fun _ => rfl) (fun k => by kernel_rfl) (AV (ψ := fun _ => ((x0.map etI).length : Int) = (x0.length : Int)) (Ev.c lenMap) <| AC h0 <| AN)
noncomputable def i_ConfOk_F (x0 : List Int) : Option (Bool) :=
    cond (decide ((x0.length : Int) > (0 : Int)))
      (if x0.length ≤ 1050000 then some (areNodes x0) else none)
      (some (false))
theorem i_ConfOk_D (x0 : List Int) : Ans (i_ConfOk_F x0) (fun r => Does E 83 [.one (.s .far () 1 (x0.map etI))] [(false, [tB r])]) := by
  unfold i_ConfOk_F
  refine Ans.ite (fun h0 => ?_) (fun h0 => ?_)
  · refine Ans.pre (fun h1 => ?_)
    exact Ans.some (i_ConfOk_P0 x0 h0 h1)
  · exact Ans.some (i_ConfOk_P1 x0 h0)
theorem T_i_ConfOk (x0 : List Int) (h : x0.length ≤ 1050000) : Does E 83 [.one (.s .far () 1 (x0.map etI))] [(false, [tB (confOk x0)])] := by
  exact i_ConfOk_D x0 _ (by
    unfold i_ConfOk_F confOk
    rw [if_pos h]
    cases decide ((x0.length : Int) > 0) <;> rfl)
inductive s_ReadConf_X0 where
  | x0 (v4 : List Int)
def s_ReadConf_Q0 (v0 : ByteArray) (v4 : List Int) (v5 : Int) : s_ReadConf_X0 → Prop
  | .x0 zv4 => Loops E 141 (lpAt Try.f141 0) (stL 36 [(0, .one (tS v0)), (4, .one (.s .own () 1 (v4.map etI))), (5, .one (tI v5))]) (.exit 0) (stL 36 [(0, .one (tS v0)), (4, .one (.s .own () 1 (zv4.map etI)))])
theorem s_ReadConf_R0_0 (v0 : ByteArray) (v4 : List Int) (v5 : Int) (h0 : (decide (v5 < (v0.size : Int))) = true) (h1 : (decide (v5 ≤ (4 : Int))) = true) (h2 : 0 ≤ v5 ∧ v5 < (v0.size : Int)) (h3 : (v4.length + ([IntKind.wrap .i64 (bytAt v0 v5)]).length) * 8 ≤ 140737488355328 ∧ v4.length + ([IntKind.wrap .i64 (bytAt v0 v5)]).length ≤ 4611686018427387904) : Round E 141 (lpAt Try.f141 0) (stL 36 [(0, .one (tS v0)), (4, .one (.s .own () 1 (v4.map etI))), (5, .one (tI v5))]) .normal (stL 36 [(0, .one (tS v0)), (4, .one (.s .own () 1 ((v4 ++ ([IntKind.wrap .i64 (bytAt v0 v5)])).map etI))), (5, .one (tI (inc v5)))]) :=
  Round.path [.b true, .b true, .rows ((v4 ++ ([IntKind.wrap .i64 (bytAt v0 v5)])).map etI)] _ (fun k => by kernel_rfl) (AC h0 <| AC h1 <| AV (ψ := fun _ => 0 ≤ v5 ∧ v5 < (v0.size : Int)) (Ev.c h2) <| AV (ψ := fun _ => (((([IntKind.wrap .i64 (bytAt v0 v5)]).map etI).drop 0).take (([IntKind.wrap .i64 (bytAt v0 v5)]).map etI).length).all (fun r => r.all T.flat) = true ∧ ((v4.map etI).length + (((([IntKind.wrap .i64 (bytAt v0 v5)]).map etI).drop 0).take (([IntKind.wrap .i64 (bytAt v0 v5)]).map etI).length).length) * 8 ≤ 140737488355328 ∧ (v4.map etI).length + (((([IntKind.wrap .i64 (bytAt v0 v5)]).map etI).drop 0).take (([IntKind.wrap .i64 (bytAt v0 v5)]).map etI).length).length ≤ 4611686018427387904) (Ev.c (by simp only [List.take_length, List.drop_zero]; exact appOk (fun x => rfl) h3)) <| AV (ψ := fun _ => (v4.map etI) ++ (((([IntKind.wrap .i64 (bytAt v0 v5)]).map etI).drop 0).take (([IntKind.wrap .i64 (bytAt v0 v5)]).map etI).length) = (v4 ++ ([IntKind.wrap .i64 (bytAt v0 v5)])).map etI) (Ev.c (by simp only [List.take_length, List.drop_zero]; exact appMap)) <| AN)
theorem s_ReadConf_R0_1 (v0 : ByteArray) (v4 : List Int) (v5 : Int) (h0 : (decide (v5 < (v0.size : Int))) = true) (h1 : (decide (v5 ≤ (4 : Int))) = false) : Round E 141 (lpAt Try.f141 0) (stL 36 [(0, .one (tS v0)), (4, .one (.s .own () 1 (v4.map etI))), (5, .one (tI v5))]) (.exit 0) (stL 36 [(0, .one (tS v0)), (4, .one (.s .own () 1 (v4.map etI)))]) :=
  Round.path [.b true, .b false] _ (fun k => by kernel_rfl) (AC h0 <| AC h1 <| AN)
theorem s_ReadConf_R0_2 (v0 : ByteArray) (v4 : List Int) (v5 : Int) (h0 : (decide (v5 < (v0.size : Int))) = false) : Round E 141 (lpAt Try.f141 0) (stL 36 [(0, .one (tS v0)), (4, .one (.s .own () 1 (v4.map etI))), (5, .one (tI v5))]) (.exit 0) (stL 36 [(0, .one (tS v0)), (4, .one (.s .own () 1 (v4.map etI)))]) :=
  Round.path [.b false] _ (fun k => by kernel_rfl) (AC h0 <| AN)
noncomputable def s_ReadConf_l0 (v0 : ByteArray) : List Int → Nat → (List Int) → Option s_ReadConf_X0
  | [], i, v4 => some (.x0 v4)
  | hd :: rest, i, v4 => cond (decide ((i : Int) ≤ (4 : Int)))
    (if (v4.length + ([IntKind.wrap .i64 hd]).length) * 8 ≤ 140737488355328 ∧ v4.length + ([IntKind.wrap .i64 hd]).length ≤ 4611686018427387904 then s_ReadConf_l0 v0 rest (i + 1) (v4 ++ ([IntKind.wrap .i64 hd])) else none)
    (some (.x0 v4))
theorem s_ReadConf_L0 (v0 : ByteArray) (rest : List Int) : ∀ (i : Nat) (v4 : List Int), (strNums v0).drop i = rest → v0.size ≤ 9223372036854775807 → Ans (s_ReadConf_l0 v0 rest i v4) (s_ReadConf_Q0 v0 v4 (i : Int)) := by
  induction rest with
  | nil =>
    intro i v4 hE hl
    have hb := foldEndS hE
    unfold s_ReadConf_l0
    exact Ans.some (Loops.stop (s_ReadConf_R0_2 v0 v4 (i : Int) hb) (by intro h; cases h))
  | cons hd rest ih =>
    intro i v4 hE hl
    have hb := foldMoreS hE
    have hw := foldNextS hE hl
    have hE2 := foldRest hE
    have hp := foldInS hE
    obtain rfl := foldHdS hE
    unfold s_ReadConf_l0
    refine Ans.ite (fun h1 => ?_) (fun h1 => ?_)
    · refine Ans.pre (fun h3 => ?_)
      exact (ih (i + 1) (v4 ++ ([IntKind.wrap .i64 (bytAt v0 (i : Int))])) hE2 hl).mono fun y hy => by have r := s_ReadConf_R0_0 v0 v4 (i : Int) hb h1 hp h3; rw [hw] at r; cases y <;> exact Loops.next r hy
    · exact Ans.some (Loops.stop (s_ReadConf_R0_1 v0 v4 (i : Int) hb h1) (by intro h; cases h))
theorem s_ReadConf_P0 (x0 : ByteArray) (w0_4 : List Int) (h0 : Loops E 141 (lpAt Try.f141 0) (stL 36 [(0, .one (tS x0)), (4, .one (.s .own () 1 (([] : List Int).map etI))), (5, .one (tI (0 : Int)))]) (.exit 0) (stL 36 [(0, .one (tS x0)), (4, .one (.s .own () 1 (w0_4.map etI)))])) (h1 : ((w0_4.length : Int) != (x0.size : Int)) = true) : Does E 141 [.one (tS x0)] [(false, [.s .own () 1 (([] : List Int).map etI)]), (false, [tB false])] :=
  Does.path (fn := Try.f141) [.lp (.exit 0) (stL 36 [(0, .one (tS x0)), (4, .one (.s .own () 1 (w0_4.map etI)))]), .val (.int .i64 (w0_4.length : Int)), .b true] _ rfl (fun _ => rfl) (fun k => by kernel_rfl) (AV (ψ := fun k => LoopK E 141 (lpAt Try.f141 0) (stL 36 [(0, .one (tS x0)), (4, .one (.s .own () 1 (([] : List Int).map etI))), (5, .one (tI (0 : Int)))]) (.exit 0) (stL 36 [(0, .one (tS x0)), (4, .one (.s .own () 1 (w0_4.map etI)))]) k k) (Loops.ev h0) <| AV (ψ := fun _ => ((w0_4.map etI).length : Int) = (w0_4.length : Int)) (Ev.c lenMap) <| AC h1 <| AN)
theorem s_ReadConf_P1 (x0 : ByteArray) (w0_4 : List Int) (h0 : Loops E 141 (lpAt Try.f141 0) (stL 36 [(0, .one (tS x0)), (4, .one (.s .own () 1 (([] : List Int).map etI))), (5, .one (tI (0 : Int)))]) (.exit 0) (stL 36 [(0, .one (tS x0)), (4, .one (.s .own () 1 (w0_4.map etI)))])) (h1 : ((w0_4.length : Int) != (x0.size : Int)) = false) (h2 : w0_4.length ≤ 1050000) (h3 : (confOk w0_4) = true) : Does E 141 [.one (tS x0)] [(false, [.s .own () 1 (w0_4.map etI)]), (false, [tB true])] :=
  Does.path (fn := Try.f141) [.lp (.exit 0) (stL 36 [(0, .one (tS x0)), (4, .one (.s .own () 1 (w0_4.map etI)))]), .val (.int .i64 (w0_4.length : Int)), .b false, rT] _ rfl (fun _ => rfl) (fun k => by kernel_rfl) (AV (ψ := fun k => LoopK E 141 (lpAt Try.f141 0) (stL 36 [(0, .one (tS x0)), (4, .one (.s .own () 1 (([] : List Int).map etI))), (5, .one (tI (0 : Int)))]) (.exit 0) (stL 36 [(0, .one (tS x0)), (4, .one (.s .own () 1 (w0_4.map etI)))]) k k) (Loops.ev h0) <| AV (ψ := fun _ => ((w0_4.map etI).length : Int) = (w0_4.length : Int)) (Ev.c lenMap) <| AC h1 <| AV (ψ := fun k => E.C k 78 [.one (.s .far () 1 (((w0_4.map etI).drop 0).take (w0_4.map etI).length))] = some [(false, [tB true])]) (Does.args (by simp only [List.take_length, List.drop_zero]) (Does.to (T_s_ConfOk w0_4 h2) (by rw [h3]))) <| AN)
theorem s_ReadConf_P2 (x0 : ByteArray) (w0_4 : List Int) (h0 : Loops E 141 (lpAt Try.f141 0) (stL 36 [(0, .one (tS x0)), (4, .one (.s .own () 1 (([] : List Int).map etI))), (5, .one (tI (0 : Int)))]) (.exit 0) (stL 36 [(0, .one (tS x0)), (4, .one (.s .own () 1 (w0_4.map etI)))])) (h1 : ((w0_4.length : Int) != (x0.size : Int)) = false) (h2 : w0_4.length ≤ 1050000) (h3 : (confOk w0_4) = false) : Does E 141 [.one (tS x0)] [(false, [.s .own () 1 (([] : List Int).map etI)]), (false, [tB false])] :=
  Does.path (fn := Try.f141) [.lp (.exit 0) (stL 36 [(0, .one (tS x0)), (4, .one (.s .own () 1 (w0_4.map etI)))]), .val (.int .i64 (w0_4.length : Int)), .b false, rF] _ rfl (fun _ => rfl) (fun k => by kernel_rfl) (AV (ψ := fun k => LoopK E 141 (lpAt Try.f141 0) (stL 36 [(0, .one (tS x0)), (4, .one (.s .own () 1 (([] : List Int).map etI))), (5, .one (tI (0 : Int)))]) (.exit 0) (stL 36 [(0, .one (tS x0)), (4, .one (.s .own () 1 (w0_4.map etI)))]) k k) (Loops.ev h0) <| AV (ψ := fun _ => ((w0_4.map etI).length : Int) = (w0_4.length : Int)) (Ev.c lenMap) <| AC h1 <| AV (ψ := fun k => E.C k 78 [.one (.s .far () 1 (((w0_4.map etI).drop 0).take (w0_4.map etI).length))] = some [(false, [tB false])]) (Does.args (by simp only [List.take_length, List.drop_zero]) (Does.to (T_s_ConfOk w0_4 h2) (by rw [h3]))) <| AN)
noncomputable def s_ReadConf_F (x0 : ByteArray) : Option ((List Int) × Bool) :=
    if x0.size ≤ 9223372036854775807 then (s_ReadConf_l0 x0 (strNums x0) 0 ([])).bind fun y => match y with
      | .x0 w0_4 => (cond ((w0_4.length : Int) != (x0.size : Int))
        (some (([] : List Int), false))
        (if w0_4.length ≤ 1050000 then cond (confOk w0_4)
          (some (w0_4, true))
          (some (([] : List Int), false)) else none)) else none
theorem s_ReadConf_D (x0 : ByteArray) : Ans (s_ReadConf_F x0) (fun r => Does E 141 [.one (tS x0)] [(false, [.s .own () 1 (r.1.map etI)]), (false, [tB r.2])]) := by
  unfold s_ReadConf_F
  refine Ans.pre (fun hl1 => ?_)
  refine Ans.bind (fun y hy => ?_)
  replace hy := s_ReadConf_L0 x0 (strNums x0) 0 ([]) rfl hl1 y hy
  cases y with
  | x0 w0_4 =>
    have h0 := hy
    refine Ans.ite (fun h1 => ?_) (fun h1 => ?_)
    · exact Ans.some (s_ReadConf_P0 x0 w0_4 h0 h1)
    · refine Ans.pre (fun h2 => ?_)
      refine Ans.ite (fun h3 => ?_) (fun h3 => ?_)
      · exact Ans.some (s_ReadConf_P1 x0 w0_4 h0 h1 h2 h3)
      · exact Ans.some (s_ReadConf_P2 x0 w0_4 h0 h1 h2 h3)
noncomputable def readConf (s : ByteArray) : List Int × Bool := cond (decide ((s.size : Int) > 4) || !confOk (strNums s)) ([], false) (strNums s, true)
theorem byte_wrap {s : ByteArray} {x : Int} (h : x ∈ strNums s) : IntKind.wrap .i64 x = x := by
  unfold strNums at h
  obtain ⟨b, _, rfl⟩ := List.mem_map.1 h
  have := b.toNat_lt
  exact wrap_id _ (by omega) (by omega)
theorem rc_l (s : ByteArray) : ∀ (rest : List Int) (i : Nat) (v : List Int), (∀ x ∈ rest, x ∈ strNums s) → v.length = i → s_ReadConf_l0 s rest i v = some (.x0 (v ++ rest.take (5 - i)))
  | [], i, v, _, _ => by unfold s_ReadConf_l0; simp
  | x :: rest, i, v, hr, hv => by
    unfold s_ReadConf_l0
    by_cases q : (i : Int) ≤ 4
    · rw [decide_eq_true q, cond_true, byte_wrap (hr x (by simp)), if_pos (by simp only [List.length_cons, List.length_nil]; omega), rc_l s rest (i + 1) _ (fun y hy => hr y (by simp [hy])) (by simp [hv])]
      have e : 5 - i = (5 - (i + 1)) + 1 := by omega
      rw [e, List.take_succ_cons]
      simp
    · rw [decide_eq_false q, cond_false]
      have e : 5 - i = 0 := by omega
      rw [e]; simp
theorem confOk_len {l : List Int} (h : confOk l = true) : 0 < l.length ∧ l.length ≤ 4 := by
  unfold confOk at h
  simp only [Bool.and_eq_true, decide_eq_true_eq] at h
  exact ⟨by omega, riseL_len h.2⟩
theorem s_readConf (s : ByteArray) (h : Small.sm s) : s_ReadConf_F s = some (readConf s) := by
  have hs : s.size ≤ 1050000 := h
  have hn := strNums_length s
  unfold s_ReadConf_F readConf
  rw [if_pos (by omega), rc_l s _ 0 [] (fun x hx => hx) rfl]
  simp only [Option.bind_some, List.nil_append, Nat.sub_zero, List.length_take, hn]
  by_cases q : (s.size : Int) > 4
  · rw [decide_eq_true q, Bool.true_or]
    rw [if_pos (by omega)]
    by_cases q5 : s.size = 5
    · have e : (((min 5 s.size : Nat) : Int) != (s.size : Int)) = false := by simp; omega
      have c : confOk (List.take 5 (strNums s)) = false := by
        cases g : confOk (List.take 5 (strNums s)) with
        | false => rfl
        | true => have := confOk_len g; simp [hn] at this; omega
      rw [e, c]; rfl
    · have e : (((min 5 s.size : Nat) : Int) != (s.size : Int)) = true := by simp; omega
      rw [e]; rfl
  · rw [decide_eq_false q, Bool.false_or, if_pos (by omega)]
    have e : (((min 5 s.size : Nat) : Int) != (s.size : Int)) = false := by simp; omega
    rw [e, cond_false, List.take_of_length_le (by omega)]
    cases confOk (strNums s) <;> rfl
theorem readConf_len (s : ByteArray) : (readConf s).1.length ≤ 4 := by
  unfold readConf
  cases q : confOk (strNums s) with
  | false => cases decide ((s.size : Int) > 4) <;> simp
  | true => have := confOk_len q; cases decide ((s.size : Int) > 4) <;> simp <;> omega
theorem readConf_ok {s : ByteArray} (h : (readConf s).2 = true) : (readConf s).1 ≠ [] := by
  unfold readConf at h ⊢
  cases q : confOk (strNums s) with
  | false => rw [q] at h; simp at h
  | true =>
    rw [q] at h
    cases q2 : decide ((s.size : Int) > 4) with
    | true => rw [q2] at h; simp at h
    | false => have := confOk_len q; simp; intro e; rw [e] at this; simp at this
theorem T_s_ReadConf (x0 : ByteArray) (h : Small.sm x0) : Does E 141 [.one (tS x0)] [(false, [.s .own () 1 (((readConf x0).1).map etI)]), (false, [tB ((readConf x0).2)])] := by
  exact s_ReadConf_D x0 _ (s_readConf x0 h)
inductive i_numbers_X0 where
  | x0 (v3 : List Int)
def i_numbers_Q0 (v3 : List Int) (v7 : List Int) (v8 : Int) (v9 : Int) : i_numbers_X0 → Prop
  | .x0 zv3 => Loops E 167 (lpAt Try.f167 0) (stL 20 [(3, .one (.s .own () 1 (v3.map etI))), (7, .one (.s .own () 1 (v7.map etY))), (8, .one (tI v8)), (9, .one (tI v9))]) (.exit 0) (stL 20 [(3, .one (.s .own () 1 (zv3.map etI)))])
theorem i_numbers_R0_0 (v3 : List Int) (v7 : List Int) (v8 : Int) (v9 : Int) (g0 : Int) (h0 : (decide (v9 < v8)) = true) (h1 : getI v7 v9 = some g0) (h2 : (v3.length + ([IntKind.wrap .i64 g0]).length) * 8 ≤ 140737488355328 ∧ v3.length + ([IntKind.wrap .i64 g0]).length ≤ 4611686018427387904) : Round E 167 (lpAt Try.f167 0) (stL 20 [(3, .one (.s .own () 1 (v3.map etI))), (7, .one (.s .own () 1 (v7.map etY))), (8, .one (tI v8)), (9, .one (tI v9))]) .normal (stL 20 [(3, .one (.s .own () 1 ((v3 ++ ([IntKind.wrap .i64 g0])).map etI))), (7, .one (.s .own () 1 (v7.map etY))), (8, .one (tI v8)), (9, .one (tI (inc v9)))]) :=
  Round.path [.b true, .row (etY g0), .rows ((v3 ++ ([IntKind.wrap .i64 g0])).map etI)] _ (fun k => by kernel_rfl) (AC h0 <| AV (ψ := fun _ => 0 ≤ v9 ∧ v9 < ((v7.map etY).length : Int)) (Ev.c (getLt h1)) <| AV (ψ := fun _ => (v7.map etY)[0 + v9.toNat]? = some (etY g0)) (Ev.c (getRow0 h1)) <| AV (ψ := fun _ => (((([IntKind.wrap .i64 g0]).map etI).drop 0).take (([IntKind.wrap .i64 g0]).map etI).length).all (fun r => r.all T.flat) = true ∧ ((v3.map etI).length + (((([IntKind.wrap .i64 g0]).map etI).drop 0).take (([IntKind.wrap .i64 g0]).map etI).length).length) * 8 ≤ 140737488355328 ∧ (v3.map etI).length + (((([IntKind.wrap .i64 g0]).map etI).drop 0).take (([IntKind.wrap .i64 g0]).map etI).length).length ≤ 4611686018427387904) (Ev.c (by simp only [List.take_length, List.drop_zero]; exact appOk (fun x => rfl) h2)) <| AV (ψ := fun _ => (v3.map etI) ++ (((([IntKind.wrap .i64 g0]).map etI).drop 0).take (([IntKind.wrap .i64 g0]).map etI).length) = (v3 ++ ([IntKind.wrap .i64 g0])).map etI) (Ev.c (by simp only [List.take_length, List.drop_zero]; exact appMap)) <| AN)
theorem i_numbers_R0_1 (v3 : List Int) (v7 : List Int) (v8 : Int) (v9 : Int) (h0 : (decide (v9 < v8)) = false) : Round E 167 (lpAt Try.f167 0) (stL 20 [(3, .one (.s .own () 1 (v3.map etI))), (7, .one (.s .own () 1 (v7.map etY))), (8, .one (tI v8)), (9, .one (tI v9))]) (.exit 0) (stL 20 [(3, .one (.s .own () 1 (v3.map etI)))]) :=
  Round.path [.b false] _ (fun k => by kernel_rfl) (AC h0 <| AN)
noncomputable def i_numbers_l0  : List Int → Nat → (List Int) → Option i_numbers_X0
  | [], i, v3 => some (.x0 v3)
  | hd :: rest, i, v3 => if (v3.length + ([IntKind.wrap .i64 hd]).length) * 8 ≤ 140737488355328 ∧ v3.length + ([IntKind.wrap .i64 hd]).length ≤ 4611686018427387904 then i_numbers_l0 rest (i + 1) (v3 ++ ([IntKind.wrap .i64 hd])) else none
theorem i_numbers_L0 (v7 : List Int) (rest : List Int) : ∀ (i : Nat) (v3 : List Int), (v7).drop i = rest → v7.length ≤ 9223372036854775807 → Ans (i_numbers_l0 rest i v3) (i_numbers_Q0 v3 v7 (v7.length : Int) (i : Int)) := by
  induction rest with
  | nil =>
    intro i v3 hE hl
    have hb := foldEnd hE
    unfold i_numbers_l0
    exact Ans.some (Loops.stop (i_numbers_R0_1 v3 v7 (v7.length : Int) (i : Int) hb) (by intro h; cases h))
  | cons hd rest ih =>
    intro i v3 hE hl
    have hb := foldMore hE
    have hw := foldNext hE hl
    have hE2 := foldRest hE
    have hg := foldGet hE
    unfold i_numbers_l0
    refine Ans.pre (fun h2 => ?_)
    exact (ih (i + 1) (v3 ++ ([IntKind.wrap .i64 hd])) hE2 hl).mono fun y hy => by have r := i_numbers_R0_0 v3 v7 (v7.length : Int) (i : Int) hd hb hg h2; rw [hw] at r; cases y <;> exact Loops.next r hy
theorem i_numbers_P0 (x0 : ByteArray) (w0_3 : List Int) (h0 : Loops E 167 (lpAt Try.f167 0) (stL 20 [(3, .one (.s .own () 1 (([] : List Int).map etI))), (7, .one (.s .own () 1 ((strNums x0).map etY))), (8, .one (tI ((strNums x0).length : Int))), (9, .one (tI (0 : Int)))]) (.exit 0) (stL 20 [(3, .one (.s .own () 1 (w0_3.map etI)))])) : Does E 167 [.one (tS x0)] [(false, [.s .own () 1 (w0_3.map etI)])] :=
  Does.path (fn := Try.f167) [.rows ((strNums x0).map etY), .val (.int .i64 ((strNums x0).length : Int)), .lp (.exit 0) (stL 20 [(3, .one (.s .own () 1 (w0_3.map etI)))])] _ rfl (fun _ => rfl) (fun k => by kernel_rfl) (AV (ψ := fun _ => (strRows x0 : List (List (T Unit))) = (strNums x0).map etY) (Ev.c strRows_map) <| AV (ψ := fun _ => (((strNums x0).map etY).length : Int) = ((strNums x0).length : Int)) (Ev.c lenMap) <| AV (ψ := fun k => LoopK E 167 (lpAt Try.f167 0) (stL 20 [(3, .one (.s .own () 1 (([] : List Int).map etI))), (7, .one (.s .own () 1 ((strNums x0).map etY))), (8, .one (tI ((strNums x0).length : Int))), (9, .one (tI (0 : Int)))]) (.exit 0) (stL 20 [(3, .one (.s .own () 1 (w0_3.map etI)))]) k k) (Loops.ev h0) <| AN)
noncomputable def i_numbers_F (x0 : ByteArray) : Option ((List Int)) :=
    if (strNums x0).length ≤ 9223372036854775807 then (i_numbers_l0 (strNums x0) 0 ([])).bind fun y => match y with
      | .x0 w0_3 => (some (w0_3)) else none
theorem i_numbers_D (x0 : ByteArray) : Ans (i_numbers_F x0) (fun r => Does E 167 [.one (tS x0)] [(false, [.s .own () 1 (r.map etI)])]) := by
  unfold i_numbers_F
  refine Ans.pre (fun hl1 => ?_)
  refine Ans.bind (fun y hy => ?_)
  replace hy := i_numbers_L0 (strNums x0) (strNums x0) 0 ([]) rfl hl1 y hy
  cases y with
  | x0 w0_3 =>
    have h0 := hy
    exact Ans.some (i_numbers_P0 x0 w0_3 h0)
theorem nums_l (s : ByteArray) : ∀ (rest : List Int) (i : Nat) (v : List Int), (∀ x ∈ rest, x ∈ strNums s) → v.length + rest.length ≤ 1050000 → i_numbers_l0 rest i v = some (.x0 (v ++ rest))
  | [], i, v, _, _ => by unfold i_numbers_l0; simp
  | x :: rest, i, v, hr, hv => by
    rw [List.length_cons] at hv
    unfold i_numbers_l0
    rw [byte_wrap (hr x (by simp)), if_pos (by simp only [List.length_cons, List.length_nil]; omega), nums_l s rest (i + 1) _ (fun y hy => hr y (by simp [hy])) (by simp; omega)]
    simp
theorem T_i_numbers (x0 : ByteArray) (h : Small.sm x0) : Does E 167 [.one (tS x0)] [(false, [.s .own () 1 ((strNums x0).map etI)])] := by
  exact i_numbers_D x0 _ (by
    have hs : x0.size ≤ 1050000 := h
    have hn := strNums_length x0
    unfold i_numbers_F
    rw [if_pos (by omega), nums_l x0 _ 0 [] (fun x hx => hx) (by simp; omega)]
    simp)
theorem i_ReadConf_P0 (x0 : ByteArray) (h0 : (decide ((x0.size : Int) > (4 : Int))) = true) : Does E 125 [.one (tS x0)] [(false, [.s .own () 1 (([] : List Int).map etI)]), (false, [tB false])] :=
  Does.path (fn := Try.f125) [.b true] _ rfl (fun _ => rfl) (fun k => by kernel_rfl) (AC h0 <| AN)
theorem i_ReadConf_P1 (x0 : ByteArray) (h0 : (decide ((x0.size : Int) > (4 : Int))) = false) (h1 : Small.sm x0) (h2 : (strNums x0).length ≤ 1050000) (h3 : (confOk (strNums x0)) = true) : Does E 125 [.one (tS x0)] [(false, [.s .own () 1 ((strNums x0).map etI)]), (false, [tB true])] :=
  Does.path (fn := Try.f125) [.b false, .ret [(false, [.s .own () 1 ((strNums x0).map etI)])], rT] _ rfl (fun _ => rfl) (fun k => by kernel_rfl) (AC h0 <| AD (T_i_numbers x0 h1) <| AV (ψ := fun k => E.C k 83 [.one (.s .far () 1 ((((strNums x0).map etI).drop 0).take ((strNums x0).map etI).length))] = some [(false, [tB true])]) (Does.args (by simp only [List.take_length, List.drop_zero]) (Does.to (T_i_ConfOk (strNums x0) h2) (by rw [h3]))) <| AN)
theorem i_ReadConf_P2 (x0 : ByteArray) (h0 : (decide ((x0.size : Int) > (4 : Int))) = false) (h1 : Small.sm x0) (h2 : (strNums x0).length ≤ 1050000) (h3 : (confOk (strNums x0)) = false) : Does E 125 [.one (tS x0)] [(false, [.s .own () 1 (([] : List Int).map etI)]), (false, [tB false])] :=
  Does.path (fn := Try.f125) [.b false, .ret [(false, [.s .own () 1 ((strNums x0).map etI)])], rF] _ rfl (fun _ => rfl) (fun k => by kernel_rfl) (AC h0 <| AD (T_i_numbers x0 h1) <| AV (ψ := fun k => E.C k 83 [.one (.s .far () 1 ((((strNums x0).map etI).drop 0).take ((strNums x0).map etI).length))] = some [(false, [tB false])]) (Does.args (by simp only [List.take_length, List.drop_zero]) (Does.to (T_i_ConfOk (strNums x0) h2) (by rw [h3]))) <| AN)
noncomputable def i_ReadConf_F (x0 : ByteArray) : Option ((List Int) × Bool) :=
    cond (decide ((x0.size : Int) > (4 : Int)))
      (some (([] : List Int), false))
      (if Small.sm x0 then if (strNums x0).length ≤ 1050000 then cond (confOk (strNums x0))
        (some (strNums x0, true))
        (some (([] : List Int), false)) else none else none)
theorem i_ReadConf_D (x0 : ByteArray) : Ans (i_ReadConf_F x0) (fun r => Does E 125 [.one (tS x0)] [(false, [.s .own () 1 (r.1.map etI)]), (false, [tB r.2])]) := by
  unfold i_ReadConf_F
  refine Ans.ite (fun h0 => ?_) (fun h0 => ?_)
  · exact Ans.some (i_ReadConf_P0 x0 h0)
  · refine Ans.pre (fun h1 => ?_)
    refine Ans.pre (fun h2 => ?_)
    refine Ans.ite (fun h3 => ?_) (fun h3 => ?_)
    · exact Ans.some (i_ReadConf_P1 x0 h0 h1 h2 h3)
    · exact Ans.some (i_ReadConf_P2 x0 h0 h1 h2 h3)
theorem T_i_ReadConf (x0 : ByteArray) (h : Small.sm x0) : Does E 125 [.one (tS x0)] [(false, [.s .own () 1 (((readConf x0).1).map etI)]), (false, [tB ((readConf x0).2)])] := by
  exact i_ReadConf_D x0 _ (by
    have hs : x0.size ≤ 1050000 := h
    have hn := strNums_length x0
    unfold i_ReadConf_F readConf
    have h1 : (strNums x0).length ≤ 1050000 := by omega
    simp only [h, h1, if_true]
    cases decide ((x0.size : Int) > 4) <;> cases confOk (strNums x0) <;> rfl)
theorem s_EntryOk_P0 (x0 : GEntry) (h0 : (inRange x0.f0 (0 : Int) (100000 : Int)) = true) (h1 : (x0.f1 == (1 : Int)) = true) : Does E 133 [.agg (GEntry.t x0)] [(false, [tB (x0.f2.toList == ByteArray.empty.toList)])] :=
  Does.path (fn := Try.f133) [rT, .b true] _ rfl (fun _ => rfl) (fun k => by kernel_rfl) (AD (Does.tB (T_s_l01In x0.f0 (0 : Int) (100000 : Int)) h0) <| AC h1 <| AN)
theorem s_EntryOk_P1 (x0 : GEntry) (h0 : (inRange x0.f0 (0 : Int) (100000 : Int)) = true) (h1 : (x0.f1 == (1 : Int)) = false) (h2 : (x0.f1 == (2 : Int)) = true) (h3 : Small.sm x0.f2) : Does E 133 [.agg (GEntry.t x0)] [(false, [tB ((readConf x0.f2).2)])] :=
  Does.path (fn := Try.f133) [rT, .b false, .b true, .ret [(false, [.s .own () 1 (((readConf x0.f2).1).map etI)]), (false, [tB ((readConf x0.f2).2)])]] _ rfl (fun _ => rfl) (fun k => by kernel_rfl) (AD (Does.tB (T_s_l01In x0.f0 (0 : Int) (100000 : Int)) h0) <| AC h1 <| AC h2 <| AD (T_s_ReadConf x0.f2 h3) <| AN)
theorem s_EntryOk_P2 (x0 : GEntry) (h0 : (inRange x0.f0 (0 : Int) (100000 : Int)) = true) (h1 : (x0.f1 == (1 : Int)) = false) (h2 : (x0.f1 == (2 : Int)) = false) (h3 : (x0.f1 == (3 : Int)) = true) : Does E 133 [.agg (GEntry.t x0)] [(false, [tB (decide ((x0.f2.size : Int) ≤ (640 : Int)))])] :=
  Does.path (fn := Try.f133) [rT, .b false, .b false, .b true] _ rfl (fun _ => rfl) (fun k => by kernel_rfl) (AD (Does.tB (T_s_l01In x0.f0 (0 : Int) (100000 : Int)) h0) <| AC h1 <| AC h2 <| AC h3 <| AN)
theorem s_EntryOk_P3 (x0 : GEntry) (h0 : (inRange x0.f0 (0 : Int) (100000 : Int)) = true) (h1 : (x0.f1 == (1 : Int)) = false) (h2 : (x0.f1 == (2 : Int)) = false) (h3 : (x0.f1 == (3 : Int)) = false) : Does E 133 [.agg (GEntry.t x0)] [(false, [tB false])] :=
  Does.path (fn := Try.f133) [rT, .b false, .b false, .b false] _ rfl (fun _ => rfl) (fun k => by kernel_rfl) (AD (Does.tB (T_s_l01In x0.f0 (0 : Int) (100000 : Int)) h0) <| AC h1 <| AC h2 <| AC h3 <| AN)
theorem s_EntryOk_P4 (x0 : GEntry) (h0 : (inRange x0.f0 (0 : Int) (100000 : Int)) = false) : Does E 133 [.agg (GEntry.t x0)] [(false, [tB false])] :=
  Does.path (fn := Try.f133) [rF] _ rfl (fun _ => rfl) (fun k => by kernel_rfl) (AD (Does.tB (T_s_l01In x0.f0 (0 : Int) (100000 : Int)) h0) <| AN)
noncomputable def s_EntryOk_F (x0 : GEntry) : Option (Bool) :=
    cond (inRange x0.f0 (0 : Int) (100000 : Int))
      (cond (x0.f1 == (1 : Int))
        (some (x0.f2.toList == ByteArray.empty.toList))
        (cond (x0.f1 == (2 : Int))
          (if Small.sm x0.f2 then some ((readConf x0.f2).2) else none)
          (cond (x0.f1 == (3 : Int))
            (some (decide ((x0.f2.size : Int) ≤ (640 : Int))))
            (some (false)))))
      (some (false))
theorem s_EntryOk_D (x0 : GEntry) : Ans (s_EntryOk_F x0) (fun r => Does E 133 [.agg (GEntry.t x0)] [(false, [tB r])]) := by
  unfold s_EntryOk_F
  refine Ans.ite (fun h0 => ?_) (fun h0 => ?_)
  · refine Ans.ite (fun h1 => ?_) (fun h1 => ?_)
    · exact Ans.some (s_EntryOk_P0 x0 h0 h1)
    · refine Ans.ite (fun h2 => ?_) (fun h2 => ?_)
      · refine Ans.pre (fun h3 => ?_)
        exact Ans.some (s_EntryOk_P1 x0 h0 h1 h2 h3)
      · refine Ans.ite (fun h3 => ?_) (fun h3 => ?_)
        · exact Ans.some (s_EntryOk_P2 x0 h0 h1 h2 h3)
        · exact Ans.some (s_EntryOk_P3 x0 h0 h1 h2 h3)
  · exact Ans.some (s_EntryOk_P4 x0 h0)
noncomputable def entryOk (e : GEntry) : Bool := cond (inRange e.f0 0 100000) (cond (e.f1 == (1 : Int)) (e.f2.toList == ByteArray.empty.toList) (cond (e.f1 == (2 : Int)) (readConf e.f2).2 (cond (e.f1 == (3 : Int)) (decide ((e.f2.size : Int) ≤ (640 : Int))) false))) false
theorem cond_some {α : Type} {b : Bool} {x y : α} : (cond b (some x) (some y)) = some (cond b x y) := by cases b <;> rfl
theorem T_s_EntryOk (x0 : GEntry) (h : Small.sm x0) : Does E 133 [.agg (GEntry.t x0)] [(false, [tB (entryOk x0)])] := by
  exact s_EntryOk_D x0 _ (by
    have h2 : Small.sm x0.f2 := h
    unfold s_EntryOk_F entryOk
    simp only [h2, if_true, cond_some])
theorem i_EntryOk_P0 (x0 : GEntry) (h0 : (isTerm x0.f0) = true) (h1 : (x0.f1 == (1 : Int)) = true) : Does E 119 [.agg (GEntry.t x0)] [(false, [tB (x0.f2.toList == ByteArray.empty.toList)])] :=
  Does.path (fn := Try.f119) [rT, .b true] _ rfl (fun _ => rfl) (fun k => by kernel_rfl) (AD (Does.tB (T_i_isTerm x0.f0) h0) <| AC h1 <| AN)
theorem i_EntryOk_P1 (x0 : GEntry) (h0 : (isTerm x0.f0) = true) (h1 : (x0.f1 == (1 : Int)) = false) (h2 : (x0.f1 == (2 : Int)) = true) (h3 : Small.sm x0.f2) : Does E 119 [.agg (GEntry.t x0)] [(false, [tB ((readConf x0.f2).2)])] :=
  Does.path (fn := Try.f119) [rT, .b false, .b true, .ret [(false, [.s .own () 1 (((readConf x0.f2).1).map etI)]), (false, [tB ((readConf x0.f2).2)])]] _ rfl (fun _ => rfl) (fun k => by kernel_rfl) (AD (Does.tB (T_i_isTerm x0.f0) h0) <| AC h1 <| AC h2 <| AD (T_i_ReadConf x0.f2 h3) <| AN)
theorem i_EntryOk_P2 (x0 : GEntry) (h0 : (isTerm x0.f0) = true) (h1 : (x0.f1 == (1 : Int)) = false) (h2 : (x0.f1 == (2 : Int)) = false) (h3 : (x0.f1 == (3 : Int)) = true) : Does E 119 [.agg (GEntry.t x0)] [(false, [tB (decide ((x0.f2.size : Int) ≤ (640 : Int)))])] :=
  Does.path (fn := Try.f119) [rT, .b false, .b false, .b true] _ rfl (fun _ => rfl) (fun k => by kernel_rfl) (AD (Does.tB (T_i_isTerm x0.f0) h0) <| AC h1 <| AC h2 <| AC h3 <| AN)
theorem i_EntryOk_P3 (x0 : GEntry) (h0 : (isTerm x0.f0) = true) (h1 : (x0.f1 == (1 : Int)) = false) (h2 : (x0.f1 == (2 : Int)) = false) (h3 : (x0.f1 == (3 : Int)) = false) : Does E 119 [.agg (GEntry.t x0)] [(false, [tB false])] :=
  Does.path (fn := Try.f119) [rT, .b false, .b false, .b false] _ rfl (fun _ => rfl) (fun k => by kernel_rfl) (AD (Does.tB (T_i_isTerm x0.f0) h0) <| AC h1 <| AC h2 <| AC h3 <| AN)
theorem i_EntryOk_P4 (x0 : GEntry) (h0 : (isTerm x0.f0) = false) : Does E 119 [.agg (GEntry.t x0)] [(false, [tB false])] :=
  Does.path (fn := Try.f119) [rF] _ rfl (fun _ => rfl) (fun k => by kernel_rfl) (AD (Does.tB (T_i_isTerm x0.f0) h0) <| AN)
noncomputable def i_EntryOk_F (x0 : GEntry) : Option (Bool) :=
    cond (isTerm x0.f0)
      (cond (x0.f1 == (1 : Int))
        (some (x0.f2.toList == ByteArray.empty.toList))
        (cond (x0.f1 == (2 : Int))
          (if Small.sm x0.f2 then some ((readConf x0.f2).2) else none)
          (cond (x0.f1 == (3 : Int))
            (some (decide ((x0.f2.size : Int) ≤ (640 : Int))))
            (some (false)))))
      (some (false))
theorem i_EntryOk_D (x0 : GEntry) : Ans (i_EntryOk_F x0) (fun r => Does E 119 [.agg (GEntry.t x0)] [(false, [tB r])]) := by
  unfold i_EntryOk_F
  refine Ans.ite (fun h0 => ?_) (fun h0 => ?_)
  · refine Ans.ite (fun h1 => ?_) (fun h1 => ?_)
    · exact Ans.some (i_EntryOk_P0 x0 h0 h1)
    · refine Ans.ite (fun h2 => ?_) (fun h2 => ?_)
      · refine Ans.pre (fun h3 => ?_)
        exact Ans.some (i_EntryOk_P1 x0 h0 h1 h2 h3)
      · refine Ans.ite (fun h3 => ?_) (fun h3 => ?_)
        · exact Ans.some (i_EntryOk_P2 x0 h0 h1 h2 h3)
        · exact Ans.some (i_EntryOk_P3 x0 h0 h1 h2 h3)
  · exact Ans.some (i_EntryOk_P4 x0 h0)
theorem T_i_EntryOk (x0 : GEntry) (h : Small.sm x0) : Does E 119 [.agg (GEntry.t x0)] [(false, [tB (entryOk x0)])] := by
  exact i_EntryOk_D x0 _ (by
    have h2 : Small.sm x0.f2 := h
    unfold i_EntryOk_F entryOk
    simp only [h2, if_true, cond_some])
inductive s_LogOk_X0 where
  | ret (v2 : Bool)
  | x0 
def s_LogOk_Q0 (v1_0 : Int) (v1_1 : Int) (v1_2 : List GEntry) (v3 : Int) (v4 : Int) : s_LogOk_X0 → Prop
  | .ret zv2 => Loops E 55 (lpAt Try.f55 0) (stL 62 [(1, .box () [tI v1_0, tI v1_1, .s .far () 3 (v1_2.map GEntry.t)]), (3, .one (tI v3)), (4, .one (tI v4))]) .ret (stL 62 [(2, .one (tB zv2))])
  | .x0 => Loops E 55 (lpAt Try.f55 0) (stL 62 [(1, .box () [tI v1_0, tI v1_1, .s .far () 3 (v1_2.map GEntry.t)]), (3, .one (tI v3)), (4, .one (tI v4))]) (.exit 0) (stL 62 [])
theorem s_LogOk_R0_0 (v1_0 : Int) (v1_1 : Int) (v1_2 : List GEntry) (v3 : Int) (v4 : Int) (g0 : GEntry) (h0 : (decide (v4 < (v1_2.length : Int))) = true) (h1 : getI v1_2 v4 = some g0) (h2 : Small.sm g0) (h3 : (entryOk g0) = true) (h4 : (decide (g0.f0 < v3)) = true) : Round E 55 (lpAt Try.f55 0) (stL 62 [(1, .box () [tI v1_0, tI v1_1, .s .far () 3 (v1_2.map GEntry.t)]), (3, .one (tI v3)), (4, .one (tI v4))]) .ret (stL 62 [(2, .one (tB false))]) :=
  Round.path [.val (.int .i64 (v1_2.length : Int)), .b true, .row (GEntry.t g0), rT, .row (GEntry.t g0), .b true] _ (fun k => by kernel_rfl) (AV (ψ := fun _ => ((v1_2.map GEntry.t).length : Int) = (v1_2.length : Int)) (Ev.c lenMap) <| AC h0 <| AV (ψ := fun _ => 0 ≤ v4 ∧ (v1_2.map GEntry.t)[v4.toNat]? = some (GEntry.t g0)) (Ev.c (getRow h1)) <| AD (Does.tB (T_s_EntryOk g0 h2) h3) <| AV (ψ := fun _ => 0 ≤ v4 ∧ (v1_2.map GEntry.t)[v4.toNat]? = some (GEntry.t g0)) (Ev.c (getRow h1)) <| AC h4 <| AN)
theorem s_LogOk_R0_1 (v1_0 : Int) (v1_1 : Int) (v1_2 : List GEntry) (v3 : Int) (v4 : Int) (g0 : GEntry) (h0 : (decide (v4 < (v1_2.length : Int))) = true) (h1 : getI v1_2 v4 = some g0) (h2 : Small.sm g0) (h3 : (entryOk g0) = true) (h4 : (decide (g0.f0 < v3)) = false) : Round E 55 (lpAt Try.f55 0) (stL 62 [(1, .box () [tI v1_0, tI v1_1, .s .far () 3 (v1_2.map GEntry.t)]), (3, .one (tI v3)), (4, .one (tI v4))]) .normal (stL 62 [(1, .box () [tI v1_0, tI v1_1, .s .far () 3 (v1_2.map GEntry.t)]), (3, .one (tI g0.f0)), (4, .one (tI (inc v4)))]) :=
  Round.path [.val (.int .i64 (v1_2.length : Int)), .b true, .row (GEntry.t g0), rT, .row (GEntry.t g0), .b false, .row (GEntry.t g0)] _ (fun k => by kernel_rfl) (AV (ψ := fun _ => ((v1_2.map GEntry.t).length : Int) = (v1_2.length : Int)) (Ev.c lenMap) <| AC h0 <| AV (ψ := fun _ => 0 ≤ v4 ∧ (v1_2.map GEntry.t)[v4.toNat]? = some (GEntry.t g0)) (Ev.c (getRow h1)) <| AD (Does.tB (T_s_EntryOk g0 h2) h3) <| AV (ψ := fun _ => 0 ≤ v4 ∧ (v1_2.map GEntry.t)[v4.toNat]? = some (GEntry.t g0)) (Ev.c (getRow h1)) <| AC h4 <| AV (ψ := fun _ => 0 ≤ v4 ∧ (v1_2.map GEntry.t)[v4.toNat]? = some (GEntry.t g0)) (Ev.c (getRow h1)) <| AN)
theorem s_LogOk_R0_2 (v1_0 : Int) (v1_1 : Int) (v1_2 : List GEntry) (v3 : Int) (v4 : Int) (g0 : GEntry) (h0 : (decide (v4 < (v1_2.length : Int))) = true) (h1 : getI v1_2 v4 = some g0) (h2 : Small.sm g0) (h3 : (entryOk g0) = false) : Round E 55 (lpAt Try.f55 0) (stL 62 [(1, .box () [tI v1_0, tI v1_1, .s .far () 3 (v1_2.map GEntry.t)]), (3, .one (tI v3)), (4, .one (tI v4))]) .ret (stL 62 [(2, .one (tB false))]) :=
  Round.path [.val (.int .i64 (v1_2.length : Int)), .b true, .row (GEntry.t g0), rF] _ (fun k => by kernel_rfl) (AV (ψ := fun _ => ((v1_2.map GEntry.t).length : Int) = (v1_2.length : Int)) (Ev.c lenMap) <| AC h0 <| AV (ψ := fun _ => 0 ≤ v4 ∧ (v1_2.map GEntry.t)[v4.toNat]? = some (GEntry.t g0)) (Ev.c (getRow h1)) <| AD (Does.tB (T_s_EntryOk g0 h2) h3) <| AN)
theorem s_LogOk_R0_3 (v1_0 : Int) (v1_1 : Int) (v1_2 : List GEntry) (v3 : Int) (v4 : Int) (h0 : (decide (v4 < (v1_2.length : Int))) = false) : Round E 55 (lpAt Try.f55 0) (stL 62 [(1, .box () [tI v1_0, tI v1_1, .s .far () 3 (v1_2.map GEntry.t)]), (3, .one (tI v3)), (4, .one (tI v4))]) (.exit 0) (stL 62 []) :=
  Round.path [.val (.int .i64 (v1_2.length : Int)), .b false] _ (fun k => by kernel_rfl) (AV (ψ := fun _ => ((v1_2.map GEntry.t).length : Int) = (v1_2.length : Int)) (Ev.c lenMap) <| AC h0 <| AN)
noncomputable def s_LogOk_l0  : List GEntry → Nat → Int → Option s_LogOk_X0
  | [], i, v3 => some (.x0)
  | hd :: rest, i, v3 => if Small.sm hd then cond (entryOk hd)
    (cond (decide (hd.f0 < v3))
      (some (.ret false))
      (s_LogOk_l0 rest (i + 1) hd.f0))
    (some (.ret false)) else none
theorem s_LogOk_L0 (v1_0 : Int) (v1_1 : Int) (v1_2 : List GEntry) (rest : List GEntry) : ∀ (i : Nat) (v3 : Int), (v1_2).drop i = rest → v1_2.length ≤ 9223372036854775807 → Ans (s_LogOk_l0 rest i v3) (s_LogOk_Q0 v1_0 v1_1 v1_2 v3 (i : Int)) := by
  induction rest with
  | nil =>
    intro i v3 hE hl
    have hb := foldEnd hE
    unfold s_LogOk_l0
    exact Ans.some (Loops.stop (s_LogOk_R0_3 v1_0 v1_1 v1_2 v3 (i : Int) hb) (by intro h; cases h))
  | cons hd rest ih =>
    intro i v3 hE hl
    have hb := foldMore hE
    have hw := foldNext hE hl
    have hE2 := foldRest hE
    have hg := foldGet hE
    unfold s_LogOk_l0
    refine Ans.pre (fun h2 => ?_)
    refine Ans.ite (fun h3 => ?_) (fun h3 => ?_)
    · refine Ans.ite (fun h4 => ?_) (fun h4 => ?_)
      · exact Ans.some (Loops.stop (s_LogOk_R0_0 v1_0 v1_1 v1_2 v3 (i : Int) hd hb hg h2 h3 h4) (by intro h; cases h))
      · exact (ih (i + 1) hd.f0 hE2 hl).mono fun y hy => by have r := s_LogOk_R0_1 v1_0 v1_1 v1_2 v3 (i : Int) hd hb hg h2 h3 h4; rw [hw] at r; cases y <;> exact Loops.next r hy
    · exact Ans.some (Loops.stop (s_LogOk_R0_2 v1_0 v1_1 v1_2 v3 (i : Int) hd hb hg h2 h3) (by intro h; cases h))
theorem s_LogOk_P0 (x0 : GLog) (h0 : (inRange x0.f0 (0 : Int) (1000000 : Int)) = true) (h1 : (inRange x0.f1 (0 : Int) (100000 : Int)) = true) (h2 : (decide ((x0.f2.length : Int) > (60 : Int))) = true) : Does E 55 [.agg (GLog.t .far x0)] [(false, [tB false])] :=
  Does.path (fn := Try.f55) [rT, rT, .val (.int .i64 (x0.f2.length : Int)), .b true] _ rfl (fun _ => rfl) (fun k => by kernel_rfl) (AD (Does.tB (T_s_l01In x0.f0 (0 : Int) (1000000 : Int)) h0) <| AD (Does.tB (T_s_l01In x0.f1 (0 : Int) (100000 : Int)) h1) <| AV (ψ := fun _ => ((x0.f2.map GEntry.t).length : Int) = (x0.f2.length : Int)) (Ev.c lenMap) <| AC h2 <| AN)
theorem s_LogOk_P1 (x0 : GLog) (h0 : (inRange x0.f0 (0 : Int) (1000000 : Int)) = true) (h1 : (inRange x0.f1 (0 : Int) (100000 : Int)) = true) (h2 : (decide ((x0.f2.length : Int) > (60 : Int))) = false) (h3 : (decide ((IntKind.wrap .i64 (x0.f0 + (x0.f2.length : Int))) > (1000000 : Int))) = true) : Does E 55 [.agg (GLog.t .far x0)] [(false, [tB false])] :=
  Does.path (fn := Try.f55) [rT, rT, .val (.int .i64 (x0.f2.length : Int)), .b false, .val (.int .i64 (x0.f2.length : Int)), .no, .b true] _ rfl (fun _ => rfl) (fun k => by kernel_rfl) (AD (Does.tB (T_s_l01In x0.f0 (0 : Int) (1000000 : Int)) h0) <| AD (Does.tB (T_s_l01In x0.f1 (0 : Int) (100000 : Int)) h1) <| AV (ψ := fun _ => ((x0.f2.map GEntry.t).length : Int) = (x0.f2.length : Int)) (Ev.c lenMap) <| AC h2 <| AV (ψ := fun _ => ((x0.f2.map GEntry.t).length : Int) = (x0.f2.length : Int)) (Ev.c lenMap) <| AC h3 <| AN)
theorem s_LogOk_P2 (x0 : GLog) (w0_2 : Bool) (h0 : (inRange x0.f0 (0 : Int) (1000000 : Int)) = true) (h1 : (inRange x0.f1 (0 : Int) (100000 : Int)) = true) (h2 : (decide ((x0.f2.length : Int) > (60 : Int))) = false) (h3 : (decide ((IntKind.wrap .i64 (x0.f0 + (x0.f2.length : Int))) > (1000000 : Int))) = false) (h4 : Loops E 55 (lpAt Try.f55 0) (stL 62 [(1, .box () [tI x0.f0, tI x0.f1, .s .far () 3 (x0.f2.map GEntry.t)]), (3, .one (tI x0.f1)), (4, .one (tI (0 : Int)))]) .ret (stL 62 [(2, .one (tB w0_2))])) : Does E 55 [.agg (GLog.t .far x0)] [(false, [tB w0_2])] :=
  Does.path (fn := Try.f55) [rT, rT, .val (.int .i64 (x0.f2.length : Int)), .b false, .val (.int .i64 (x0.f2.length : Int)), .no, .b false, .lp .ret (stL 62 [(2, .one (tB w0_2))])] _ rfl (fun _ => rfl) (fun k => by kernel_rfl) (AD (Does.tB (T_s_l01In x0.f0 (0 : Int) (1000000 : Int)) h0) <| AD (Does.tB (T_s_l01In x0.f1 (0 : Int) (100000 : Int)) h1) <| AV (ψ := fun _ => ((x0.f2.map GEntry.t).length : Int) = (x0.f2.length : Int)) (Ev.c lenMap) <| AC h2 <| AV (ψ := fun _ => ((x0.f2.map GEntry.t).length : Int) = (x0.f2.length : Int)) (Ev.c lenMap) <| AC h3 <| AV (ψ := fun k => LoopK E 55 (lpAt Try.f55 0) (stL 62 [(1, .box () [tI x0.f0, tI x0.f1, .s .far () 3 (x0.f2.map GEntry.t)]), (3, .one (tI x0.f1)), (4, .one (tI (0 : Int)))]) .ret (stL 62 [(2, .one (tB w0_2))]) k k) (Loops.ev h4) <| AN)
theorem s_LogOk_P3 (x0 : GLog) (h0 : (inRange x0.f0 (0 : Int) (1000000 : Int)) = true) (h1 : (inRange x0.f1 (0 : Int) (100000 : Int)) = true) (h2 : (decide ((x0.f2.length : Int) > (60 : Int))) = false) (h3 : (decide ((IntKind.wrap .i64 (x0.f0 + (x0.f2.length : Int))) > (1000000 : Int))) = false) (h4 : Loops E 55 (lpAt Try.f55 0) (stL 62 [(1, .box () [tI x0.f0, tI x0.f1, .s .far () 3 (x0.f2.map GEntry.t)]), (3, .one (tI x0.f1)), (4, .one (tI (0 : Int)))]) (.exit 0) (stL 62 [])) : Does E 55 [.agg (GLog.t .far x0)] [(false, [tB true])] :=
  Does.path (fn := Try.f55) [rT, rT, .val (.int .i64 (x0.f2.length : Int)), .b false, .val (.int .i64 (x0.f2.length : Int)), .no, .b false, .lp (.exit 0) (stL 62 [])] _ rfl (fun _ => rfl) (fun k => by kernel_rfl) (AD (Does.tB (T_s_l01In x0.f0 (0 : Int) (1000000 : Int)) h0) <| AD (Does.tB (T_s_l01In x0.f1 (0 : Int) (100000 : Int)) h1) <| AV (ψ := fun _ => ((x0.f2.map GEntry.t).length : Int) = (x0.f2.length : Int)) (Ev.c lenMap) <| AC h2 <| AV (ψ := fun _ => ((x0.f2.map GEntry.t).length : Int) = (x0.f2.length : Int)) (Ev.c lenMap) <| AC h3 <| AV (ψ := fun k => LoopK E 55 (lpAt Try.f55 0) (stL 62 [(1, .box () [tI x0.f0, tI x0.f1, .s .far () 3 (x0.f2.map GEntry.t)]), (3, .one (tI x0.f1)), (4, .one (tI (0 : Int)))]) (.exit 0) (stL 62 []) k k) (Loops.ev h4) <| AN)
theorem s_LogOk_P4 (x0 : GLog) (h0 : (inRange x0.f0 (0 : Int) (1000000 : Int)) = true) (h1 : (inRange x0.f1 (0 : Int) (100000 : Int)) = false) : Does E 55 [.agg (GLog.t .far x0)] [(false, [tB false])] :=
  Does.path (fn := Try.f55) [rT, rF] _ rfl (fun _ => rfl) (fun k => by kernel_rfl) (AD (Does.tB (T_s_l01In x0.f0 (0 : Int) (1000000 : Int)) h0) <| AD (Does.tB (T_s_l01In x0.f1 (0 : Int) (100000 : Int)) h1) <| AN)
theorem s_LogOk_P5 (x0 : GLog) (h0 : (inRange x0.f0 (0 : Int) (1000000 : Int)) = false) : Does E 55 [.agg (GLog.t .far x0)] [(false, [tB false])] :=
  Does.path (fn := Try.f55) [rF] _ rfl (fun _ => rfl) (fun k => by kernel_rfl) (AD (Does.tB (T_s_l01In x0.f0 (0 : Int) (1000000 : Int)) h0) <| AN)
noncomputable def s_LogOk_F (x0 : GLog) : Option (Bool) :=
    cond (inRange x0.f0 (0 : Int) (1000000 : Int))
      (cond (inRange x0.f1 (0 : Int) (100000 : Int))
        (cond (decide ((x0.f2.length : Int) > (60 : Int)))
          (some (false))
          (cond (decide ((IntKind.wrap .i64 (x0.f0 + (x0.f2.length : Int))) > (1000000 : Int)))
            (some (false))
            (if x0.f2.length ≤ 9223372036854775807 then (s_LogOk_l0 x0.f2 0 x0.f1).bind fun y => match y with
              | .ret w0_2 => (some (w0_2))
              | .x0 => (some (true)) else none)))
        (some (false)))
      (some (false))
theorem s_LogOk_D (x0 : GLog) : Ans (s_LogOk_F x0) (fun r => Does E 55 [.agg (GLog.t .far x0)] [(false, [tB r])]) := by
  unfold s_LogOk_F
  refine Ans.ite (fun h0 => ?_) (fun h0 => ?_)
  · refine Ans.ite (fun h1 => ?_) (fun h1 => ?_)
    · refine Ans.ite (fun h2 => ?_) (fun h2 => ?_)
      · exact Ans.some (s_LogOk_P0 x0 h0 h1 h2)
      · refine Ans.ite (fun h3 => ?_) (fun h3 => ?_)
        · exact Ans.some (s_LogOk_P1 x0 h0 h1 h2 h3)
        · refine Ans.pre (fun hl5 => ?_)
          refine Ans.bind (fun y hy => ?_)
          replace hy := s_LogOk_L0 x0.f0 x0.f1 x0.f2 x0.f2 0 x0.f1 rfl hl5 y hy
          cases y with
          | ret w0_2 =>
            have h4 := hy
            exact Ans.some (s_LogOk_P2 x0 w0_2 h0 h1 h2 h3 h4)
          | x0 =>
            have h4 := hy
            exact Ans.some (s_LogOk_P3 x0 h0 h1 h2 h3 h4)
    · exact Ans.some (s_LogOk_P4 x0 h0 h1)
  · exact Ans.some (s_LogOk_P5 x0 h0)
noncomputable def entriesOk : List GEntry → Int → Bool
  | [], _ => true
  | e :: r, t => entryOk e && !decide (e.f0 < t) && entriesOk r e.f0
noncomputable def logOk (l : GLog) : Bool := inRange l.f0 0 1000000 && inRange l.f1 0 100000 && !decide ((l.f2.length : Int) > 60) && !decide ((IntKind.wrap .i64 (l.f0 + (l.f2.length : Int))) > 1000000) && entriesOk l.f2 l.f1
theorem s_LogOk_es : ∀ (l : List GEntry) (i : Nat) (t : Int), (∀ e ∈ l, Small.sm e) → s_LogOk_l0 l i t = some (if entriesOk l t = true then .x0 else .ret false)
  | [], _, _, _ => rfl
  | e :: r, i, t, h => by
    have he := h e (by simp)
    unfold s_LogOk_l0 entriesOk
    simp only [he, if_true, s_LogOk_es r (i + 1) e.f0 fun y hy => h y (by simp [hy])]
    cases entryOk e <;> cases decide (e.f0 < t) <;> rfl
theorem s_LogOk_all (l : GLog) (h : Small.sm l) : s_LogOk_F l = some (logOk l) := by
  have hl : Small.sm l.f2 := h
  unfold s_LogOk_F logOk
  try simp only [isIndex, isTerm]
  cases inRange l.f0 0 1000000 with
  | false => rfl
  | true =>
    cases inRange l.f1 0 100000 with
    | false => rfl
    | true =>
      cases decide ((l.f2.length : Int) > 60) with
      | true => rfl
      | false =>
        cases decide ((IntKind.wrap .i64 (l.f0 + (l.f2.length : Int))) > 1000000) with
        | true => rfl
        | false =>
          simp only [cond_true, cond_false, if_pos (sm_wf_len hl), s_LogOk_es l.f2 0 l.f1 hl.2]
          cases entriesOk l.f2 l.f1 <;> rfl
theorem T_s_LogOk (x0 : GLog) (h : Small.sm x0) : Does E 55 [.agg (GLog.t .far x0)] [(false, [tB (logOk x0)])] := by
  exact s_LogOk_D x0 _ (s_LogOk_all x0 h)
inductive i_LogOk_X0 where
  | ret (v2 : Bool)
  | x0 
def i_LogOk_Q0 (v3 : Int) (v34 : List GEntry) (v35 : Int) (v36 : Int) : i_LogOk_X0 → Prop
  | .ret zv2 => Loops E 60 (lpAt Try.f60 0) (stL 52 [(3, .one (tI v3)), (34, .one (.s .far () 3 (v34.map GEntry.t))), (35, .one (tI v35)), (36, .one (tI v36))]) .ret (stL 52 [(2, .one (tB zv2))])
  | .x0 => Loops E 60 (lpAt Try.f60 0) (stL 52 [(3, .one (tI v3)), (34, .one (.s .far () 3 (v34.map GEntry.t))), (35, .one (tI v35)), (36, .one (tI v36))]) (.exit 0) (stL 52 [])
theorem i_LogOk_R0_0 (v3 : Int) (v34 : List GEntry) (v35 : Int) (v36 : Int) (g0 : GEntry) (h0 : (decide (v36 < v35)) = true) (h1 : getI v34 v36 = some g0) (h2 : Small.sm g0) (h3 : (entryOk g0) = true) (h4 : (decide (g0.f0 < v3)) = true) : Round E 60 (lpAt Try.f60 0) (stL 52 [(3, .one (tI v3)), (34, .one (.s .far () 3 (v34.map GEntry.t))), (35, .one (tI v35)), (36, .one (tI v36))]) .ret (stL 52 [(2, .one (tB false))]) :=
  Round.path [.b true, .row (GEntry.t g0), rT, .b true] _ (fun k => by kernel_rfl) (AC h0 <| AV (ψ := fun _ => 0 ≤ v36 ∧ (v34.map GEntry.t)[v36.toNat]? = some (GEntry.t g0)) (Ev.c (getRow h1)) <| AD (Does.tB (T_i_EntryOk g0 h2) h3) <| AC h4 <| AN)
theorem i_LogOk_R0_1 (v3 : Int) (v34 : List GEntry) (v35 : Int) (v36 : Int) (g0 : GEntry) (h0 : (decide (v36 < v35)) = true) (h1 : getI v34 v36 = some g0) (h2 : Small.sm g0) (h3 : (entryOk g0) = true) (h4 : (decide (g0.f0 < v3)) = false) : Round E 60 (lpAt Try.f60 0) (stL 52 [(3, .one (tI v3)), (34, .one (.s .far () 3 (v34.map GEntry.t))), (35, .one (tI v35)), (36, .one (tI v36))]) .normal (stL 52 [(3, .one (tI g0.f0)), (34, .one (.s .far () 3 (v34.map GEntry.t))), (35, .one (tI v35)), (36, .one (tI (inc v36)))]) :=
  Round.path [.b true, .row (GEntry.t g0), rT, .b false] _ (fun k => by kernel_rfl) (AC h0 <| AV (ψ := fun _ => 0 ≤ v36 ∧ (v34.map GEntry.t)[v36.toNat]? = some (GEntry.t g0)) (Ev.c (getRow h1)) <| AD (Does.tB (T_i_EntryOk g0 h2) h3) <| AC h4 <| AN)
theorem i_LogOk_R0_2 (v3 : Int) (v34 : List GEntry) (v35 : Int) (v36 : Int) (g0 : GEntry) (h0 : (decide (v36 < v35)) = true) (h1 : getI v34 v36 = some g0) (h2 : Small.sm g0) (h3 : (entryOk g0) = false) : Round E 60 (lpAt Try.f60 0) (stL 52 [(3, .one (tI v3)), (34, .one (.s .far () 3 (v34.map GEntry.t))), (35, .one (tI v35)), (36, .one (tI v36))]) .ret (stL 52 [(2, .one (tB false))]) :=
  Round.path [.b true, .row (GEntry.t g0), rF] _ (fun k => by kernel_rfl) (AC h0 <| AV (ψ := fun _ => 0 ≤ v36 ∧ (v34.map GEntry.t)[v36.toNat]? = some (GEntry.t g0)) (Ev.c (getRow h1)) <| AD (Does.tB (T_i_EntryOk g0 h2) h3) <| AN)
theorem i_LogOk_R0_3 (v3 : Int) (v34 : List GEntry) (v35 : Int) (v36 : Int) (h0 : (decide (v36 < v35)) = false) : Round E 60 (lpAt Try.f60 0) (stL 52 [(3, .one (tI v3)), (34, .one (.s .far () 3 (v34.map GEntry.t))), (35, .one (tI v35)), (36, .one (tI v36))]) (.exit 0) (stL 52 []) :=
  Round.path [.b false] _ (fun k => by kernel_rfl) (AC h0 <| AN)
noncomputable def i_LogOk_l0  : List GEntry → Nat → Int → Option i_LogOk_X0
  | [], i, v3 => some (.x0)
  | hd :: rest, i, v3 => if Small.sm hd then cond (entryOk hd)
    (cond (decide (hd.f0 < v3))
      (some (.ret false))
      (i_LogOk_l0 rest (i + 1) hd.f0))
    (some (.ret false)) else none
theorem i_LogOk_L0 (v34 : List GEntry) (rest : List GEntry) : ∀ (i : Nat) (v3 : Int), (v34).drop i = rest → v34.length ≤ 9223372036854775807 → Ans (i_LogOk_l0 rest i v3) (i_LogOk_Q0 v3 v34 (v34.length : Int) (i : Int)) := by
  induction rest with
  | nil =>
    intro i v3 hE hl
    have hb := foldEnd hE
    unfold i_LogOk_l0
    exact Ans.some (Loops.stop (i_LogOk_R0_3 v3 v34 (v34.length : Int) (i : Int) hb) (by intro h; cases h))
  | cons hd rest ih =>
    intro i v3 hE hl
    have hb := foldMore hE
    have hw := foldNext hE hl
    have hE2 := foldRest hE
    have hg := foldGet hE
    unfold i_LogOk_l0
    refine Ans.pre (fun h2 => ?_)
    refine Ans.ite (fun h3 => ?_) (fun h3 => ?_)
    · refine Ans.ite (fun h4 => ?_) (fun h4 => ?_)
      · exact Ans.some (Loops.stop (i_LogOk_R0_0 v3 v34 (v34.length : Int) (i : Int) hd hb hg h2 h3 h4) (by intro h; cases h))
      · exact (ih (i + 1) hd.f0 hE2 hl).mono fun y hy => by have r := i_LogOk_R0_1 v3 v34 (v34.length : Int) (i : Int) hd hb hg h2 h3 h4; rw [hw] at r; cases y <;> exact Loops.next r hy
    · exact Ans.some (Loops.stop (i_LogOk_R0_2 v3 v34 (v34.length : Int) (i : Int) hd hb hg h2 h3) (by intro h; cases h))
theorem i_LogOk_P0 (x0 : GLog) (h0 : (isIndex x0.f0) = true) (h1 : (isTerm x0.f1) = true) (h2 : (decide ((x0.f2.length : Int) > (60 : Int))) = true) : Does E 60 [.agg (GLog.t .far x0)] [(false, [tB false])] :=
  Does.path (fn := Try.f60) [rT, rT, .val (.int .i64 (x0.f2.length : Int)), .b true] _ rfl (fun _ => rfl) (fun k => by kernel_rfl) (AD (Does.tB (T_i_isIndex x0.f0) h0) <| AD (Does.tB (T_i_isTerm x0.f1) h1) <| AV (ψ := fun _ => ((x0.f2.map GEntry.t).length : Int) = (x0.f2.length : Int)) (Ev.c lenMap) <| AC h2 <| AN)
theorem i_LogOk_P1 (x0 : GLog) (h0 : (isIndex x0.f0) = true) (h1 : (isTerm x0.f1) = true) (h2 : (decide ((x0.f2.length : Int) > (60 : Int))) = false) (h3 : (decide ((IntKind.wrap .i64 (x0.f0 + (x0.f2.length : Int))) > (1000000 : Int))) = true) : Does E 60 [.agg (GLog.t .far x0)] [(false, [tB false])] :=
  Does.path (fn := Try.f60) [rT, rT, .val (.int .i64 (x0.f2.length : Int)), .b false, .val (.int .i64 (x0.f2.length : Int)), .no, .b true] _ rfl (fun _ => rfl) (fun k => by kernel_rfl) (AD (Does.tB (T_i_isIndex x0.f0) h0) <| AD (Does.tB (T_i_isTerm x0.f1) h1) <| AV (ψ := fun _ => ((x0.f2.map GEntry.t).length : Int) = (x0.f2.length : Int)) (Ev.c lenMap) <| AC h2 <| AV (ψ := fun _ => ((x0.f2.map GEntry.t).length : Int) = (x0.f2.length : Int)) (Ev.c lenMap) <| AC h3 <| AN)
theorem i_LogOk_P2 (x0 : GLog) (w0_2 : Bool) (h0 : (isIndex x0.f0) = true) (h1 : (isTerm x0.f1) = true) (h2 : (decide ((x0.f2.length : Int) > (60 : Int))) = false) (h3 : (decide ((IntKind.wrap .i64 (x0.f0 + (x0.f2.length : Int))) > (1000000 : Int))) = false) (h4 : Loops E 60 (lpAt Try.f60 0) (stL 52 [(3, .one (tI x0.f1)), (34, .one (.s .far () 3 (x0.f2.map GEntry.t))), (35, .one (tI (x0.f2.length : Int))), (36, .one (tI (0 : Int)))]) .ret (stL 52 [(2, .one (tB w0_2))])) : Does E 60 [.agg (GLog.t .far x0)] [(false, [tB w0_2])] :=
  Does.path (fn := Try.f60) [rT, rT, .val (.int .i64 (x0.f2.length : Int)), .b false, .val (.int .i64 (x0.f2.length : Int)), .no, .b false, .val (.int .i64 (x0.f2.length : Int)), .lp .ret (stL 52 [(2, .one (tB w0_2))])] _ rfl (fun _ => rfl) (fun k => by kernel_rfl) (AD (Does.tB (T_i_isIndex x0.f0) h0) <| AD (Does.tB (T_i_isTerm x0.f1) h1) <| AV (ψ := fun _ => ((x0.f2.map GEntry.t).length : Int) = (x0.f2.length : Int)) (Ev.c lenMap) <| AC h2 <| AV (ψ := fun _ => ((x0.f2.map GEntry.t).length : Int) = (x0.f2.length : Int)) (Ev.c lenMap) <| AC h3 <| AV (ψ := fun _ => ((x0.f2.map GEntry.t).length : Int) = (x0.f2.length : Int)) (Ev.c lenMap) <| AV (ψ := fun k => LoopK E 60 (lpAt Try.f60 0) (stL 52 [(3, .one (tI x0.f1)), (34, .one (.s .far () 3 (x0.f2.map GEntry.t))), (35, .one (tI (x0.f2.length : Int))), (36, .one (tI (0 : Int)))]) .ret (stL 52 [(2, .one (tB w0_2))]) k k) (Loops.ev h4) <| AN)
theorem i_LogOk_P3 (x0 : GLog) (h0 : (isIndex x0.f0) = true) (h1 : (isTerm x0.f1) = true) (h2 : (decide ((x0.f2.length : Int) > (60 : Int))) = false) (h3 : (decide ((IntKind.wrap .i64 (x0.f0 + (x0.f2.length : Int))) > (1000000 : Int))) = false) (h4 : Loops E 60 (lpAt Try.f60 0) (stL 52 [(3, .one (tI x0.f1)), (34, .one (.s .far () 3 (x0.f2.map GEntry.t))), (35, .one (tI (x0.f2.length : Int))), (36, .one (tI (0 : Int)))]) (.exit 0) (stL 52 [])) : Does E 60 [.agg (GLog.t .far x0)] [(false, [tB true])] :=
  Does.path (fn := Try.f60) [rT, rT, .val (.int .i64 (x0.f2.length : Int)), .b false, .val (.int .i64 (x0.f2.length : Int)), .no, .b false, .val (.int .i64 (x0.f2.length : Int)), .lp (.exit 0) (stL 52 [])] _ rfl (fun _ => rfl) (fun k => by kernel_rfl) (AD (Does.tB (T_i_isIndex x0.f0) h0) <| AD (Does.tB (T_i_isTerm x0.f1) h1) <| AV (ψ := fun _ => ((x0.f2.map GEntry.t).length : Int) = (x0.f2.length : Int)) (Ev.c lenMap) <| AC h2 <| AV (ψ := fun _ => ((x0.f2.map GEntry.t).length : Int) = (x0.f2.length : Int)) (Ev.c lenMap) <| AC h3 <| AV (ψ := fun _ => ((x0.f2.map GEntry.t).length : Int) = (x0.f2.length : Int)) (Ev.c lenMap) <| AV (ψ := fun k => LoopK E 60 (lpAt Try.f60 0) (stL 52 [(3, .one (tI x0.f1)), (34, .one (.s .far () 3 (x0.f2.map GEntry.t))), (35, .one (tI (x0.f2.length : Int))), (36, .one (tI (0 : Int)))]) (.exit 0) (stL 52 []) k k) (Loops.ev h4) <| AN)
theorem i_LogOk_P4 (x0 : GLog) (h0 : (isIndex x0.f0) = true) (h1 : (isTerm x0.f1) = false) : Does E 60 [.agg (GLog.t .far x0)] [(false, [tB false])] :=
  Does.path (fn := Try.f60) [rT, rF] _ rfl (fun _ => rfl) (fun k => by kernel_rfl) (AD (Does.tB (T_i_isIndex x0.f0) h0) <| AD (Does.tB (T_i_isTerm x0.f1) h1) <| AN)
theorem i_LogOk_P5 (x0 : GLog) (h0 : (isIndex x0.f0) = false) : Does E 60 [.agg (GLog.t .far x0)] [(false, [tB false])] :=
  Does.path (fn := Try.f60) [rF] _ rfl (fun _ => rfl) (fun k => by kernel_rfl) (AD (Does.tB (T_i_isIndex x0.f0) h0) <| AN)
noncomputable def i_LogOk_F (x0 : GLog) : Option (Bool) :=
    cond (isIndex x0.f0)
      (cond (isTerm x0.f1)
        (cond (decide ((x0.f2.length : Int) > (60 : Int)))
          (some (false))
          (cond (decide ((IntKind.wrap .i64 (x0.f0 + (x0.f2.length : Int))) > (1000000 : Int)))
            (some (false))
            (if x0.f2.length ≤ 9223372036854775807 then (i_LogOk_l0 x0.f2 0 x0.f1).bind fun y => match y with
              | .ret w0_2 => (some (w0_2))
              | .x0 => (some (true)) else none)))
        (some (false)))
      (some (false))
theorem i_LogOk_D (x0 : GLog) : Ans (i_LogOk_F x0) (fun r => Does E 60 [.agg (GLog.t .far x0)] [(false, [tB r])]) := by
  unfold i_LogOk_F
  refine Ans.ite (fun h0 => ?_) (fun h0 => ?_)
  · refine Ans.ite (fun h1 => ?_) (fun h1 => ?_)
    · refine Ans.ite (fun h2 => ?_) (fun h2 => ?_)
      · exact Ans.some (i_LogOk_P0 x0 h0 h1 h2)
      · refine Ans.ite (fun h3 => ?_) (fun h3 => ?_)
        · exact Ans.some (i_LogOk_P1 x0 h0 h1 h2 h3)
        · refine Ans.pre (fun hl5 => ?_)
          refine Ans.bind (fun y hy => ?_)
          replace hy := i_LogOk_L0 x0.f2 x0.f2 0 x0.f1 rfl hl5 y hy
          cases y with
          | ret w0_2 =>
            have h4 := hy
            exact Ans.some (i_LogOk_P2 x0 w0_2 h0 h1 h2 h3 h4)
          | x0 =>
            have h4 := hy
            exact Ans.some (i_LogOk_P3 x0 h0 h1 h2 h3 h4)
    · exact Ans.some (i_LogOk_P4 x0 h0 h1)
  · exact Ans.some (i_LogOk_P5 x0 h0)
theorem i_LogOk_es : ∀ (l : List GEntry) (i : Nat) (t : Int), (∀ e ∈ l, Small.sm e) → i_LogOk_l0 l i t = some (if entriesOk l t = true then .x0 else .ret false)
  | [], _, _, _ => rfl
  | e :: r, i, t, h => by
    have he := h e (by simp)
    unfold i_LogOk_l0 entriesOk
    simp only [he, if_true, i_LogOk_es r (i + 1) e.f0 fun y hy => h y (by simp [hy])]
    cases entryOk e <;> cases decide (e.f0 < t) <;> rfl
theorem i_LogOk_all (l : GLog) (h : Small.sm l) : i_LogOk_F l = some (logOk l) := by
  have hl : Small.sm l.f2 := h
  unfold i_LogOk_F logOk
  try simp only [isIndex, isTerm]
  cases inRange l.f0 0 1000000 with
  | false => rfl
  | true =>
    cases inRange l.f1 0 100000 with
    | false => rfl
    | true =>
      cases decide ((l.f2.length : Int) > 60) with
      | true => rfl
      | false =>
        cases decide ((IntKind.wrap .i64 (l.f0 + (l.f2.length : Int))) > 1000000) with
        | true => rfl
        | false =>
          simp only [cond_true, cond_false, if_pos (sm_wf_len hl), i_LogOk_es l.f2 0 l.f1 hl.2]
          cases entriesOk l.f2 l.f1 <;> rfl
theorem T_i_LogOk (x0 : GLog) (h : Small.sm x0) : Does E 60 [.agg (GLog.t .far x0)] [(false, [tB (logOk x0)])] := by
  exact i_LogOk_D x0 _ (i_LogOk_all x0 h)
theorem i_Log_last_P0 (x0 : GLog)  : Does E 120 [.im .far () (GLog.t .far x0) 0] [(false, [tI (IntKind.wrap .i64 (x0.f0 + (x0.f2.length : Int)))])] :=
  Does.path (fn := Try.f120) [.val (.int .i64 (x0.f2.length : Int))] _ rfl (fun _ => rfl) (fun k => by kernel_rfl) (AV (ψ := fun _ => ((x0.f2.map GEntry.t).length : Int) = (x0.f2.length : Int)) (Ev.c lenMap) <| AN)
noncomputable def i_Log_last_F (x0 : GLog) : Option (Int) :=
    some (IntKind.wrap .i64 (x0.f0 + (x0.f2.length : Int)))
theorem i_Log_last_D (x0 : GLog) : Ans (i_Log_last_F x0) (fun r => Does E 120 [.im .far () (GLog.t .far x0) 0] [(false, [tI r])]) := by
  unfold i_Log_last_F
  exact Ans.some (i_Log_last_P0 x0)
def logEnd (l : GLog) : Int := IntKind.wrap .i64 (l.f0 + (l.f2.length : Int))
theorem T_i_Log_last (x0 : GLog) : Does E 120 [.im .far () (GLog.t .far x0) 0] [(false, [tI (logEnd x0)])] := by
  exact i_Log_last_D x0 _ rfl
theorem s_LogLast_P0 (x0 : GLog) (h0 : ((x0.f2.length : Int) == (0 : Int)) = true) : Does E 79 [.agg (GLog.t .far x0)] [(false, [tI x0.f0]), (false, [tI x0.f1])] :=
  Does.path (fn := Try.f79) [.val (.int .i64 (x0.f2.length : Int)), .b true] _ rfl (fun _ => rfl) (fun k => by kernel_rfl) (AV (ψ := fun _ => ((x0.f2.map GEntry.t).length : Int) = (x0.f2.length : Int)) (Ev.c lenMap) <| AC h0 <| AN)
theorem s_LogLast_P1 (x0 : GLog) (g0 : GEntry) (h0 : ((x0.f2.length : Int) == (0 : Int)) = false) (h1 : getI x0.f2 (IntKind.wrap .i64 ((x0.f2.length : Int) - (1 : Int))) = some g0) : Does E 79 [.agg (GLog.t .far x0)] [(false, [tI (IntKind.wrap .i64 (x0.f0 + (x0.f2.length : Int)))]), (false, [tI g0.f0])] :=
  Does.path (fn := Try.f79) [.val (.int .i64 (x0.f2.length : Int)), .b false, .row (GEntry.t g0)] _ rfl (fun _ => rfl) (fun k => by kernel_rfl) (AV (ψ := fun _ => ((x0.f2.map GEntry.t).length : Int) = (x0.f2.length : Int)) (Ev.c lenMap) <| AC h0 <| AV (ψ := fun _ => 0 ≤ (IntKind.wrap .i64 ((x0.f2.length : Int) - (1 : Int))) ∧ (x0.f2.map GEntry.t)[(IntKind.wrap .i64 ((x0.f2.length : Int) - (1 : Int))).toNat]? = some (GEntry.t g0)) (Ev.c (getRow h1)) <| AN)
noncomputable def s_LogLast_F (x0 : GLog) : Option (Int × Int) :=
    cond ((x0.f2.length : Int) == (0 : Int))
      (some (x0.f0, x0.f1))
      ((getI x0.f2 (IntKind.wrap .i64 ((x0.f2.length : Int) - (1 : Int)))).bind fun g0 => some (IntKind.wrap .i64 (x0.f0 + (x0.f2.length : Int)), g0.f0))
theorem s_LogLast_D (x0 : GLog) : Ans (s_LogLast_F x0) (fun r => Does E 79 [.agg (GLog.t .far x0)] [(false, [tI r.1]), (false, [tI r.2])]) := by
  unfold s_LogLast_F
  refine Ans.ite (fun h0 => ?_) (fun h0 => ?_)
  · exact Ans.some (s_LogLast_P0 x0 h0)
  · refine Ans.bind (fun g0 h1 => ?_)
    exact Ans.some (s_LogLast_P1 x0 g0 h0 h1)
def logLast (l : GLog) : Int × Int := match l.f2.getLast? with | none => (l.f0, l.f1) | some e => (logEnd l, e.f0)
theorem last_get {α : Type} (l : List α) (h : l.length ≤ 1050000) (n : (l.length : Int) ≠ 0) : getI l (IntKind.wrap .i64 ((l.length : Int) - 1)) = l.getLast? := by
  rw [wrap_id _ (by omega) (by omega)]
  have e : ((l.length : Int) - 1) = ((l.length - 1 : Nat) : Int) := by omega
  rw [e, getI_nat, List.getLast?_eq_getElem?]
theorem s_LogLast_all (l : GLog) (h : Small.sm l) : s_LogLast_F l = some (logLast l) := by
  have hl : Small.sm l.f2 := h
  have h1 : l.f2.length ≤ 1050000 := hl.1
  unfold s_LogLast_F logLast
  by_cases q : (l.f2.length : Int) = 0
  · have e : l.f2 = [] := List.length_eq_zero_iff.1 (by omega)
    rw [e]; rfl
  · rw [show ((l.f2.length : Int) == 0) = false from beq_eq_false_iff_ne.2 q, cond_false, last_get _ h1 q]
    cases g : l.f2.getLast? with
    | none => exact absurd (List.getLast?_eq_none_iff.1 g) (fun e => q (by rw [e]; rfl))
    | some e => rfl
theorem T_s_LogLast (x0 : GLog) (h : Small.sm x0) : Does E 79 [.agg (GLog.t .far x0)] [(false, [tI ((logLast x0).1)]), (false, [tI ((logLast x0).2)])] := by
  exact s_LogLast_D x0 _ (s_LogLast_all x0 h)
theorem i_LogLast_P0 (x0 : GLog) (h0 : ((x0.f2.length : Int) == (0 : Int)) = true) : Does E 59 [.agg (GLog.t .far x0)] [(false, [tI x0.f0]), (false, [tI x0.f1])] :=
  Does.path (fn := Try.f59) [.val (.int .i64 (x0.f2.length : Int)), .b true] _ rfl (fun _ => rfl) (fun k => by kernel_rfl) (AV (ψ := fun _ => ((x0.f2.map GEntry.t).length : Int) = (x0.f2.length : Int)) (Ev.c lenMap) <| AC h0 <| AN)
theorem i_LogLast_P1 (x0 : GLog) (g0 : GEntry) (h0 : ((x0.f2.length : Int) == (0 : Int)) = false) (h1 : getI x0.f2 (IntKind.wrap .i64 ((x0.f2.length : Int) - (1 : Int))) = some g0) : Does E 59 [.agg (GLog.t .far x0)] [(false, [tI (logEnd x0)]), (false, [tI g0.f0])] :=
  Does.path (fn := Try.f59) [.val (.int .i64 (x0.f2.length : Int)), .b false, .ret [(false, [tI (logEnd x0)])], .val (.int .i64 (x0.f2.length : Int)), .row (GEntry.t g0)] _ rfl (fun _ => rfl) (fun k => by kernel_rfl) (AV (ψ := fun _ => ((x0.f2.map GEntry.t).length : Int) = (x0.f2.length : Int)) (Ev.c lenMap) <| AC h0 <| AD (T_i_Log_last x0) <| AV (ψ := fun _ => ((x0.f2.map GEntry.t).length : Int) = (x0.f2.length : Int)) (Ev.c lenMap) <| AV (ψ := fun _ => 0 ≤ (IntKind.wrap .i64 ((x0.f2.length : Int) - (1 : Int))) ∧ (x0.f2.map GEntry.t)[(IntKind.wrap .i64 ((x0.f2.length : Int) - (1 : Int))).toNat]? = some (GEntry.t g0)) (Ev.c (getRow h1)) <| AN)
noncomputable def i_LogLast_F (x0 : GLog) : Option (Int × Int) :=
    cond ((x0.f2.length : Int) == (0 : Int))
      (some (x0.f0, x0.f1))
      ((getI x0.f2 (IntKind.wrap .i64 ((x0.f2.length : Int) - (1 : Int)))).bind fun g0 => some (logEnd x0, g0.f0))
theorem i_LogLast_D (x0 : GLog) : Ans (i_LogLast_F x0) (fun r => Does E 59 [.agg (GLog.t .far x0)] [(false, [tI r.1]), (false, [tI r.2])]) := by
  unfold i_LogLast_F
  refine Ans.ite (fun h0 => ?_) (fun h0 => ?_)
  · exact Ans.some (i_LogLast_P0 x0 h0)
  · refine Ans.bind (fun g0 h1 => ?_)
    exact Ans.some (i_LogLast_P1 x0 g0 h0 h1)
theorem i_LogLast_all (l : GLog) (h : Small.sm l) : i_LogLast_F l = some (logLast l) := by
  have hl : Small.sm l.f2 := h
  have h1 : l.f2.length ≤ 1050000 := hl.1
  unfold i_LogLast_F logLast
  by_cases q : (l.f2.length : Int) = 0
  · have e : l.f2 = [] := List.length_eq_zero_iff.1 (by omega)
    rw [e]; rfl
  · rw [show ((l.f2.length : Int) == 0) = false from beq_eq_false_iff_ne.2 q, cond_false, last_get _ h1 q]
    cases g : l.f2.getLast? with
    | none => exact absurd (List.getLast?_eq_none_iff.1 g) (fun e => q (by rw [e]; rfl))
    | some e => rfl
theorem T_i_LogLast (x0 : GLog) (h : Small.sm x0) : Does E 59 [.agg (GLog.t .far x0)] [(false, [tI ((logLast x0).1)]), (false, [tI ((logLast x0).2)])] := by
  exact i_LogLast_D x0 _ (i_LogLast_all x0 h)
theorem logOk_in {l : GLog} (h : logOk l = true) : (0 ≤ l.f0 ∧ l.f0 ≤ 1000000) ∧ l.f2.length ≤ 60 ∧ logEnd l = l.f0 + (l.f2.length : Int) ∧ (logLast l).1 = logEnd l := by
  unfold logOk inRange at h
  simp only [Bool.and_eq_true, decide_eq_true_eq, Bool.not_eq_true', decide_eq_false_iff_not] at h
  have e : logEnd l = l.f0 + (l.f2.length : Int) := wrap_id _ (by omega) (by omega)
  refine ⟨by omega, by omega, e, ?_⟩
  unfold logLast
  cases g : l.f2.getLast? with
  | none => rw [e, List.getLast?_eq_none_iff.1 g]; simp
  | some _ => rfl
end Go.Proofs.Ytgpllfmogdpapaa.Am
