/- What the functions that mark nodes do. Conditions: none. -/
import Derived.Test.YtgpllfmogdpapaaNodes
namespace Go.Proofs.Ytgpllfmogdpapaa.Am
set_option linter.unusedVariables false
set_option linter.unusedSimpArgs false
open Go Go.Proofs Classical
set_option maxRecDepth 100000
set_option linter.unusedVariables false
set_option linter.unusedSimpArgs false
inductive l_markIntS_X0 where
  | x0 (v0 : List Int) (v1 : Int)
def l_markIntS_Q0 (v0 : List Int) (v1 : Int) (v5 : Int) : l_markIntS_X0 → Prop
  | .x0 zv0 zv1 => Loops E 20 (lpAt Try.f20 0) (stL 19 [(0, .one (.s .own () 1 (v0.map etI))), (1, .one (tI v1)), (5, .one (tI v5))]) (.exit 0) (stL 19 [(0, .one (.s .own () 1 (zv0.map etI))), (1, .one (tI zv1))])
theorem l_markIntS_R0_0 (v0 : List Int) (v1 : Int) (v5 : Int) (g0 : Int) (h0 : (decide (v5 < (v0.length : Int))) = true) (h1 : getI v0 v5 = some g0) : Round E 20 (lpAt Try.f20 0) (stL 19 [(0, .one (.s .own () 1 (v0.map etI))), (1, .one (tI v1)), (5, .one (tI v5))]) .normal (stL 19 [(0, .one (.s .own () 1 ((v0.set v5.toNat v1).map etI))), (1, .one (tI (inc v1))), (5, .one (tI (inc v5)))]) :=
  Round.path [.val (.int .i64 (v0.length : Int)), .b true, .row (etI g0), .rows ((v0.set v5.toNat v1).map etI)] _ (fun k => by kernel_rfl) (AV (ψ := fun _ => ((v0.map etI).length : Int) = (v0.length : Int)) (Ev.c lenMap) <| AC h0 <| AV (ψ := fun _ => 0 ≤ v5 ∧ v5 < ((v0.map etI).length : Int)) (Ev.c (getLt h1)) <| AV (ψ := fun _ => (v0.map etI)[0 + v5.toNat]? = some (etI g0)) (Ev.c (getRow0 h1)) <| AV (ψ := fun _ => (v0.map etI).set (0 + v5.toNat) (spliceAt (etI g0) 0 [tI v1]) = (v0.set v5.toNat v1).map etI) (Ev.c (setMap (by rfl))) <| AN)
theorem l_markIntS_R0_1 (v0 : List Int) (v1 : Int) (v5 : Int) (h0 : (decide (v5 < (v0.length : Int))) = false) : Round E 20 (lpAt Try.f20 0) (stL 19 [(0, .one (.s .own () 1 (v0.map etI))), (1, .one (tI v1)), (5, .one (tI v5))]) (.exit 0) (stL 19 [(0, .one (.s .own () 1 (v0.map etI))), (1, .one (tI v1))]) :=
  Round.path [.val (.int .i64 (v0.length : Int)), .b false] _ (fun k => by kernel_rfl) (AV (ψ := fun _ => ((v0.map etI).length : Int) = (v0.length : Int)) (Ev.c lenMap) <| AC h0 <| AN)
noncomputable def l_markIntS_l0  : List Int → List Int → Nat → Int → Option l_markIntS_X0
  | [], done, i, v1 => some (.x0 done v1)
  | hd :: rest, done, i, v1 => l_markIntS_l0 rest (done ++ [v1]) (i + 1) (inc v1)
theorem l_markIntS_L0  (rest : List Int) : ∀ (done : List Int) (i : Nat) (v1 : Int), i = done.length → (done ++ rest).length ≤ 9223372036854775807 → Ans (l_markIntS_l0 rest done i v1) (l_markIntS_Q0 (done ++ rest) v1 (i : Int)) := by
  induction rest with
  | nil =>
    intro done i v1 hi hl
    rw [List.append_nil]
    have hb := mapEnd hi
    unfold l_markIntS_l0
    exact Ans.some (Loops.stop (l_markIntS_R0_1 done v1 (i : Int) hb) (by intro h; cases h))
  | cons hd rest ih =>
    intro done i v1 hi hl
    have hb := mapMore (hd := hd) (rest := rest) hi
    have hw := mapNext (hd := hd) (rest := rest) hi hl
    have hg := mapGet (hd := hd) (rest := rest) hi
    unfold l_markIntS_l0
    exact (ih (done ++ [v1]) (i + 1) (inc v1) (by simp [hi]) (by simpa using hl)).mono fun y hy => by have r := l_markIntS_R0_0 (done ++ hd :: rest) v1 (i : Int) hd hb hg; rw [hw, setSplit hi] at r; cases y <;> exact Loops.next r hy
theorem l_markIntS_P0 (x0 : List Int) (x1 : Int) (w0_0 : List Int) (w0_1 : Int) (h0 : Loops E 20 (lpAt Try.f20 0) (stL 19 [(0, .one (.s .own () 1 (x0.map etI))), (1, .one (tI x1)), (5, .one (tI (0 : Int)))]) (.exit 0) (stL 19 [(0, .one (.s .own () 1 (w0_0.map etI))), (1, .one (tI w0_1))])) : Does E 20 [.one (.s .own () 1 (x0.map etI)), .one (tI x1)] [(false, [.s .own () 1 (w0_0.map etI)]), (false, [tI w0_1])] :=
  Does.path (fn := Try.f20) [.lp (.exit 0) (stL 19 [(0, .one (.s .own () 1 (w0_0.map etI))), (1, .one (tI w0_1))])] _ rfl (fun _ => rfl) (fun k => by kernel_rfl) (AV (ψ := fun k => LoopK E 20 (lpAt Try.f20 0) (stL 19 [(0, .one (.s .own () 1 (x0.map etI))), (1, .one (tI x1)), (5, .one (tI (0 : Int)))]) (.exit 0) (stL 19 [(0, .one (.s .own () 1 (w0_0.map etI))), (1, .one (tI w0_1))]) k k) (Loops.ev h0) <| AN)
noncomputable def l_markIntS_F (x0 : List Int) (x1 : Int) : Option ((List Int) × Int) :=
    if x0.length ≤ 9223372036854775807 then (l_markIntS_l0 x0 [] 0 x1).bind fun y => match y with
      | .x0 w0_0 w0_1 => (some (w0_0, w0_1)) else none
theorem l_markIntS_D (x0 : List Int) (x1 : Int) : Ans (l_markIntS_F x0 x1) (fun r => Does E 20 [.one (.s .own () 1 (x0.map etI)), .one (tI x1)] [(false, [.s .own () 1 (r.1.map etI)]), (false, [tI r.2])]) := by
  unfold l_markIntS_F
  refine Ans.pre (fun hl1 => ?_)
  refine Ans.bind (fun y hy => ?_)
  replace hy := l_markIntS_L0 x0 [] 0 x1 rfl hl1 y hy
  cases y with
  | x0 w0_0 w0_1 =>
    have h0 := hy
    exact Ans.some (l_markIntS_P0 x0 x1 w0_0 w0_1 h0)
inductive l_heldIntS_X0 where
  | ret (v4 : Int)
  | x0 (v1 : Int)
def l_heldIntS_Q0 (v0 : List Int) (v1 : Int) (v5 : Int) : l_heldIntS_X0 → Prop
  | .ret zv4 => Loops E 21 (lpAt Try.f21 0) (stL 21 [(0, .one (.s .far () 1 (v0.map etI))), (1, .one (tI v1)), (5, .one (tI v5))]) .ret (stL 21 [(4, .one (tI zv4))])
  | .x0 zv1 => Loops E 21 (lpAt Try.f21 0) (stL 21 [(0, .one (.s .far () 1 (v0.map etI))), (1, .one (tI v1)), (5, .one (tI v5))]) (.exit 0) (stL 21 [(1, .one (tI zv1))])
theorem l_heldIntS_R0_0 (v0 : List Int) (v1 : Int) (v5 : Int) (g0 : Int) (h0 : (decide (v5 < (v0.length : Int))) = true) (h1 : getI v0 v5 = some g0) (h2 : (g0 != v1) = true) : Round E 21 (lpAt Try.f21 0) (stL 21 [(0, .one (.s .far () 1 (v0.map etI))), (1, .one (tI v1)), (5, .one (tI v5))]) .ret (stL 21 [(4, .one (tI (-1 : Int)))]) :=
  Round.path [.val (.int .i64 (v0.length : Int)), .b true, .row (etI g0), .b true] _ (fun k => by kernel_rfl) (AV (ψ := fun _ => ((v0.map etI).length : Int) = (v0.length : Int)) (Ev.c lenMap) <| AC h0 <| AV (ψ := fun _ => 0 ≤ v5 ∧ (v0.map etI)[v5.toNat]? = some (etI g0)) (Ev.c (getRow h1)) <| AC h2 <| AN)
theorem l_heldIntS_R0_1 (v0 : List Int) (v1 : Int) (v5 : Int) (g0 : Int) (h0 : (decide (v5 < (v0.length : Int))) = true) (h1 : getI v0 v5 = some g0) (h2 : (g0 != v1) = false) : Round E 21 (lpAt Try.f21 0) (stL 21 [(0, .one (.s .far () 1 (v0.map etI))), (1, .one (tI v1)), (5, .one (tI v5))]) .normal (stL 21 [(0, .one (.s .far () 1 (v0.map etI))), (1, .one (tI (inc v1))), (5, .one (tI (inc v5)))]) :=
  Round.path [.val (.int .i64 (v0.length : Int)), .b true, .row (etI g0), .b false] _ (fun k => by kernel_rfl) (AV (ψ := fun _ => ((v0.map etI).length : Int) = (v0.length : Int)) (Ev.c lenMap) <| AC h0 <| AV (ψ := fun _ => 0 ≤ v5 ∧ (v0.map etI)[v5.toNat]? = some (etI g0)) (Ev.c (getRow h1)) <| AC h2 <| AN)
theorem l_heldIntS_R0_2 (v0 : List Int) (v1 : Int) (v5 : Int) (h0 : (decide (v5 < (v0.length : Int))) = false) : Round E 21 (lpAt Try.f21 0) (stL 21 [(0, .one (.s .far () 1 (v0.map etI))), (1, .one (tI v1)), (5, .one (tI v5))]) (.exit 0) (stL 21 [(1, .one (tI v1))]) :=
  Round.path [.val (.int .i64 (v0.length : Int)), .b false] _ (fun k => by kernel_rfl) (AV (ψ := fun _ => ((v0.map etI).length : Int) = (v0.length : Int)) (Ev.c lenMap) <| AC h0 <| AN)
noncomputable def l_heldIntS_l0  : List Int → Nat → Int → Option l_heldIntS_X0
  | [], i, v1 => some (.x0 v1)
  | hd :: rest, i, v1 => cond (hd != v1)
    (some (.ret (-1 : Int)))
    (l_heldIntS_l0 rest (i + 1) (inc v1))
theorem l_heldIntS_L0 (v0 : List Int) (rest : List Int) : ∀ (i : Nat) (v1 : Int), (v0).drop i = rest → v0.length ≤ 9223372036854775807 → Ans (l_heldIntS_l0 rest i v1) (l_heldIntS_Q0 v0 v1 (i : Int)) := by
  induction rest with
  | nil =>
    intro i v1 hE hl
    have hb := foldEnd hE
    unfold l_heldIntS_l0
    exact Ans.some (Loops.stop (l_heldIntS_R0_2 v0 v1 (i : Int) hb) (by intro h; cases h))
  | cons hd rest ih =>
    intro i v1 hE hl
    have hb := foldMore hE
    have hw := foldNext hE hl
    have hE2 := foldRest hE
    have hg := foldGet hE
    unfold l_heldIntS_l0
    refine Ans.ite (fun h2 => ?_) (fun h2 => ?_)
    · exact Ans.some (Loops.stop (l_heldIntS_R0_0 v0 v1 (i : Int) hd hb hg h2) (by intro h; cases h))
    · exact (ih (i + 1) (inc v1) hE2 hl).mono fun y hy => by have r := l_heldIntS_R0_1 v0 v1 (i : Int) hd hb hg h2; rw [hw] at r; cases y <;> exact Loops.next r hy
theorem l_heldIntS_P0 (x0 : List Int) (x1 : Int) (w0_4 : Int) (h0 : Loops E 21 (lpAt Try.f21 0) (stL 21 [(0, .one (.s .far () 1 (x0.map etI))), (1, .one (tI x1)), (5, .one (tI (0 : Int)))]) .ret (stL 21 [(4, .one (tI w0_4))])) : Does E 21 [.one (.s .far () 1 (x0.map etI)), .one (tI x1)] [(false, [tI w0_4])] :=
  Does.path (fn := Try.f21) [.lp .ret (stL 21 [(4, .one (tI w0_4))])] _ rfl (fun _ => rfl) (fun k => by kernel_rfl) (AV (ψ := fun k => LoopK E 21 (lpAt Try.f21 0) (stL 21 [(0, .one (.s .far () 1 (x0.map etI))), (1, .one (tI x1)), (5, .one (tI (0 : Int)))]) .ret (stL 21 [(4, .one (tI w0_4))]) k k) (Loops.ev h0) <| AN)
theorem l_heldIntS_P1 (x0 : List Int) (x1 : Int) (w0_1 : Int) (h0 : Loops E 21 (lpAt Try.f21 0) (stL 21 [(0, .one (.s .far () 1 (x0.map etI))), (1, .one (tI x1)), (5, .one (tI (0 : Int)))]) (.exit 0) (stL 21 [(1, .one (tI w0_1))])) : Does E 21 [.one (.s .far () 1 (x0.map etI)), .one (tI x1)] [(false, [tI w0_1])] :=
  Does.path (fn := Try.f21) [.lp (.exit 0) (stL 21 [(1, .one (tI w0_1))])] _ rfl (fun _ => rfl) (fun k => by kernel_rfl) (AV (ψ := fun k => LoopK E 21 (lpAt Try.f21 0) (stL 21 [(0, .one (.s .far () 1 (x0.map etI))), (1, .one (tI x1)), (5, .one (tI (0 : Int)))]) (.exit 0) (stL 21 [(1, .one (tI w0_1))]) k k) (Loops.ev h0) <| AN)
noncomputable def l_heldIntS_F (x0 : List Int) (x1 : Int) : Option (Int) :=
    if x0.length ≤ 9223372036854775807 then (l_heldIntS_l0 x0 0 x1).bind fun y => match y with
      | .ret w0_4 => (some (w0_4))
      | .x0 w0_1 => (some (w0_1)) else none
theorem l_heldIntS_D (x0 : List Int) (x1 : Int) : Ans (l_heldIntS_F x0 x1) (fun r => Does E 21 [.one (.s .far () 1 (x0.map etI)), .one (tI x1)] [(false, [tI r])]) := by
  unfold l_heldIntS_F
  refine Ans.pre (fun hl1 => ?_)
  refine Ans.bind (fun y hy => ?_)
  replace hy := l_heldIntS_L0 x0 x0 0 x1 rfl hl1 y hy
  cases y with
  | ret w0_4 =>
    have h0 := hy
    exact Ans.some (l_heldIntS_P0 x0 x1 w0_4 h0)
  | x0 w0_1 =>
    have h0 := hy
    exact Ans.some (l_heldIntS_P1 x0 x1 w0_1 h0)
noncomputable def p_l_markIntS (x : List Int) (k : Int) : (List Int) × Int := (l_markIntS_F x k).getD ([], 0)
noncomputable def p_l_heldIntS (x : List Int) (k : Int) : Int := (l_heldIntS_F x k).getD (-1)
theorem T_l_markIntS (x0 : List Int) (x1 : Int) (h : l_markIntS_F x0 x1 = some (p_l_markIntS x0 x1)) : Does E 20 [.one (.s .own () 1 (x0.map etI)), .one (tI x1)] [(false, [.s .own () 1 (((p_l_markIntS x0 x1).1).map etI)]), (false, [tI ((p_l_markIntS x0 x1).2)])] := by
  exact l_markIntS_D x0 x1 _ h
theorem T_l_heldIntS (x0 : List Int) (x1 : Int) (h : l_heldIntS_F x0 x1 = some (p_l_heldIntS x0 x1)) : Does E 21 [.one (.s .far () 1 (x0.map etI)), .one (tI x1)] [(false, [tI (p_l_heldIntS x0 x1)])] := by
  exact l_heldIntS_D x0 x1 _ h
theorem mk_l_markIntS : ∀ (rest done : List Int) (i : Nat) (k : Int), (∀ y ∈ rest, Small.sm y) → 0 ≤ k → k + 1 * (rest.length : Int) ≤ 4611686018427387904 →
    ∃ new m, l_markIntS_l0 rest done i k = some (.x0 (done ++ new) m) ∧ k ≤ m ∧ m ≤ k + 1 * (rest.length : Int) ∧ new.length = rest.length ∧ (∀ y ∈ new, Small.sm y) ∧ ∀ j, l_heldIntS_l0 new j k = some (.x0 m)
  | [], done, i, k, _, h0, _ => ⟨[], k, by unfold l_markIntS_l0; rw [List.append_nil], by omega, by simp, rfl, fun y hy => (by cases hy), fun j => rfl⟩
  | x :: rest, done, i, k, h, h0, h1 => by
    have hx := h x (by simp)
    rw [List.length_cons] at h1 ⊢
    have w1 : inc k = k + 1 := inc_id _ (by omega) (by omega)
    obtain ⟨new, m, g1, g2, g3, g4, g5, g6⟩ := mk_l_markIntS rest (done ++ [k]) (i + 1) (k + 1) (fun y hy => h y (by simp [hy])) (by omega) (by omega)
    refine ⟨k :: new, m, ?_, by omega, by omega, by simp [g4], ?_, fun j => ?_⟩
    · unfold l_markIntS_l0
      simp only [w1, if_true, g1, List.append_assoc, List.singleton_append]
    · intro y hy
      rcases List.mem_cons.1 hy with rfl | hy
      · exact trivial
      · exact g5 y hy
    · unfold l_heldIntS_l0
      simp only [w1, if_true, bne_self_eq_false, BEq.rfl, Bool.not_true, cond_false, cond_true, g6]
theorem ok_l_markIntS (l : List Int) (k : Int) (h : Small.sm l) (h0 : 0 ≤ k) (h1 : k + 1050000 ≤ 4611686018427387904) : l_markIntS_F l k = some (p_l_markIntS l k) ∧ l_heldIntS_F (p_l_markIntS l k).1 k = some (p_l_heldIntS (p_l_markIntS l k).1 k) ∧ p_l_heldIntS (p_l_markIntS l k).1 k = (p_l_markIntS l k).2 ∧ k ≤ (p_l_markIntS l k).2 ∧ (p_l_markIntS l k).2 ≤ k + 1050000 ∧ Small.sm (p_l_markIntS l k).1 := by
  have hl := h.1
  obtain ⟨new, m, g1, g2, g3, g4, g5, g6⟩ := mk_l_markIntS l [] 0 k h.2 h0 (by omega)
  have e : l_markIntS_F l k = some (new, m) := by unfold l_markIntS_F; rw [if_pos (sm_wf_len h), g1]; rfl
  have p : p_l_markIntS l k = (new, m) := by unfold p_l_markIntS; rw [e]; rfl
  have e2 : l_heldIntS_F new k = some m := by unfold l_heldIntS_F; rw [if_pos (by omega), g6]; rfl
  have p2 : p_l_heldIntS new k = m := by unfold p_l_heldIntS; rw [e2]; rfl
  rw [p, p2]
  exact ⟨e, e2, rfl, g2, by omega, ⟨by show new.length ≤ 1050000; omega, g5⟩⟩
inductive l_markText_X0 where
  | x0 (v3 : ByteArray)
def l_markText_Q0 (v0 : Int) (v3 : ByteArray) : l_markText_X0 → Prop
  | .x0 zv3 => Loops E 176 (lpAt Try.f176 0) (stL 20 [(0, .one (tI v0)), (3, .one (tS v3))]) (.exit 0) (stL 20 [(3, .one (tS zv3))])
theorem l_markText_R0_0 (v0 : Int) (v3 : ByteArray) (h0 : (decide (v0 > (0 : Int))) = true) (h1 : (strOfNums ([IntKind.wrap .u8 (IntKind.wrap .i64 ((48 : Int) + (Int.tmod v0 (10 : Int))))])).size + v3.size ≤ maxStr) : Round E 176 (lpAt Try.f176 0) (stL 20 [(0, .one (tI v0)), (3, .one (tS v3))]) .normal (stL 20 [(0, .one (tI (IntKind.wrap .i64 (Int.tdiv v0 (10 : Int))))), (3, .one (tS ((strOfNums ([IntKind.wrap .u8 (IntKind.wrap .i64 ((48 : Int) + (Int.tmod v0 (10 : Int))))])) ++ v3)))]) :=
  Round.path [.b true, .no, .no, .val (.string (strOfNums ([IntKind.wrap .u8 (IntKind.wrap .i64 ((48 : Int) + (Int.tmod v0 (10 : Int))))]))), .val (.string ((strOfNums ([IntKind.wrap .u8 (IntKind.wrap .i64 ((48 : Int) + (Int.tmod v0 (10 : Int))))])) ++ v3))] _ (fun k => by kernel_rfl) (AC h0 <| AV (ψ := fun _ => (numsOf (((([IntKind.wrap .u8 (IntKind.wrap .i64 ((48 : Int) + (Int.tmod v0 (10 : Int))))]).map etY).drop 0).take (([IntKind.wrap .u8 (IntKind.wrap .i64 ((48 : Int) + (Int.tmod v0 (10 : Int))))]).map etY).length)).map strOfNums = some (strOfNums ([IntKind.wrap .u8 (IntKind.wrap .i64 ((48 : Int) + (Int.tmod v0 (10 : Int))))]))) (Ev.c (by simp only [List.take_length, List.drop_zero]; exact strMap)) <| AV (ψ := fun _ => binV E.tab .add 9 (.string (strOfNums ([IntKind.wrap .u8 (IntKind.wrap .i64 ((48 : Int) + (Int.tmod v0 (10 : Int))))]))) (.string v3) = some (.string ((strOfNums ([IntKind.wrap .u8 (IntKind.wrap .i64 ((48 : Int) + (Int.tmod v0 (10 : Int))))])) ++ v3))) (Ev.c (strAdd h1)) <| AN)
theorem l_markText_R0_1 (v0 : Int) (v3 : ByteArray) (h0 : (decide (v0 > (0 : Int))) = false) : Round E 176 (lpAt Try.f176 0) (stL 20 [(0, .one (tI v0)), (3, .one (tS v3))]) (.exit 0) (stL 20 [(3, .one (tS v3))]) :=
  Round.path [.b false] _ (fun k => by kernel_rfl) (AC h0 <| AN)
noncomputable def l_markText_l0  : Nat → Int → ByteArray → Option l_markText_X0
  | 0, _, _ => none
  | n + 1, v0, v3 => cond (decide (v0 > (0 : Int)))
    (if (strOfNums ([IntKind.wrap .u8 (IntKind.wrap .i64 ((48 : Int) + (Int.tmod v0 (10 : Int))))])).size + v3.size ≤ maxStr then l_markText_l0 n (IntKind.wrap .i64 (Int.tdiv v0 (10 : Int))) ((strOfNums ([IntKind.wrap .u8 (IntKind.wrap .i64 ((48 : Int) + (Int.tmod v0 (10 : Int))))])) ++ v3) else none)
    (some (.x0 v3))
theorem l_markText_L0  (n : Nat) : ∀ (v0 : Int) (v3 : ByteArray), Ans (l_markText_l0 n v0 v3) (l_markText_Q0 v0 v3) := by
  induction n with
  | zero => intros; exact Ans.none
  | succ n ih =>
    intro v0 v3
    unfold l_markText_l0
    refine Ans.ite (fun h0 => ?_) (fun h0 => ?_)
    · refine Ans.pre (fun h1 => ?_)
      exact (ih (IntKind.wrap .i64 (Int.tdiv v0 (10 : Int))) ((strOfNums ([IntKind.wrap .u8 (IntKind.wrap .i64 ((48 : Int) + (Int.tmod v0 (10 : Int))))])) ++ v3)).mono fun y hy => by cases y <;> exact Loops.next (l_markText_R0_0 v0 v3 h0 h1) hy
    · exact Ans.some (Loops.stop (l_markText_R0_1 v0 v3 h0) (by intro h; cases h))
theorem l_markText_P0 (x0 : Int) (h0 : (decide (x0 ≤ (0 : Int))) = true) : Does E 176 [.one (tI x0)] [(false, [tS (⟨#[109, 48]⟩ : ByteArray)])] :=
  Does.path (fn := Try.f176) [.b true] _ rfl (fun _ => rfl) (fun k => by kernel_rfl) (AC h0 <| AN)
theorem l_markText_P1 (x0 : Int) (w0_3 : ByteArray) (h0 : (decide (x0 ≤ (0 : Int))) = false) (h1 : Loops E 176 (lpAt Try.f176 0) (stL 20 [(0, .one (tI x0)), (3, .one (tS ByteArray.empty))]) (.exit 0) (stL 20 [(3, .one (tS w0_3))])) (h2 : (⟨#[109]⟩ : ByteArray).size + w0_3.size ≤ maxStr) : Does E 176 [.one (tI x0)] [(false, [tS ((⟨#[109]⟩ : ByteArray) ++ w0_3)])] :=
  Does.path (fn := Try.f176) [.b false, .lp (.exit 0) (stL 20 [(3, .one (tS w0_3))]), .val (.string ((⟨#[109]⟩ : ByteArray) ++ w0_3))] _ rfl (fun _ => rfl) (fun k => by kernel_rfl) (AC h0 <| AV (ψ := fun k => LoopK E 176 (lpAt Try.f176 0) (stL 20 [(0, .one (tI x0)), (3, .one (tS ByteArray.empty))]) (.exit 0) (stL 20 [(3, .one (tS w0_3))]) k k) (Loops.ev h1) <| AV (ψ := fun _ => binV E.tab .add 9 (.string (⟨#[109]⟩ : ByteArray)) (.string w0_3) = some (.string ((⟨#[109]⟩ : ByteArray) ++ w0_3))) (Ev.c (strAdd h2)) <| AN)
noncomputable def l_markText_F (x0 : Int) : Option (ByteArray) :=
    cond (decide (x0 ≤ (0 : Int)))
      (some ((⟨#[109, 48]⟩ : ByteArray)))
      ((l_markText_l0 9223372036854775808 x0 ByteArray.empty).bind fun y => match y with
        | .x0 w0_3 => (if (⟨#[109]⟩ : ByteArray).size + w0_3.size ≤ maxStr then some ((⟨#[109]⟩ : ByteArray) ++ w0_3) else none))
theorem l_markText_D (x0 : Int) : Ans (l_markText_F x0) (fun r => Does E 176 [.one (tI x0)] [(false, [tS r])]) := by
  unfold l_markText_F
  refine Ans.ite (fun h0 => ?_) (fun h0 => ?_)
  · exact Ans.some (l_markText_P0 x0 h0)
  · refine Ans.bind (fun y hy => ?_)
    replace hy := l_markText_L0 9223372036854775808 x0 ByteArray.empty y hy
    cases y with
    | x0 w0_3 =>
      have h1 := hy
      refine Ans.pre (fun h2 => ?_)
      exact Ans.some (l_markText_P1 x0 w0_3 h0 h1 h2)
noncomputable def p_l_markText (k : Int) : ByteArray := (l_markText_F k).getD ByteArray.empty
theorem mt_l : ∀ (d : Nat) (n : Nat) (v : Int) (s : ByteArray), v < 10 ^ d → v ≤ 9223372036854775807 → d < n → s.size + d ≤ 100 → ∃ r, l_markText_l0 n v s = some (.x0 r) ∧ r.size ≤ s.size + d
  | d, 0, v, s, h, _, hn, _ => by omega
  | 0, n + 1, v, s, h, _, hn, _ => by
    unfold l_markText_l0
    rw [decide_eq_false (by simp at h; omega)]
    exact ⟨s, rfl, by omega⟩
  | d + 1, n + 1, v, s, h, hv, hn, hs => by
    unfold l_markText_l0
    by_cases q : v > 0
    · rw [decide_eq_true q, cond_true]
      have e : Int.tdiv v 10 = v / 10 := Int.tdiv_eq_ediv_of_nonneg (by omega)
      rw [Int.pow_succ] at h
      have z : (strOfNums [IntKind.wrap .u8 (IntKind.wrap .i64 ((48 : Int) + (Int.tmod v (10 : Int))))] ++ s).size = s.size + 1 := by rw [ByteArray.size_append]; show 1 + s.size = _; omega
      have z2 : (strOfNums [IntKind.wrap .u8 (IntKind.wrap .i64 ((48 : Int) + (Int.tmod v (10 : Int))))]).size + s.size ≤ maxStr := by show 1 + s.size ≤ 4611686018427387904; omega
      rw [if_pos z2, e, wrap_id _ (by omega) (by omega)]
      obtain ⟨r, h1, h2⟩ := mt_l d n (v / 10) (strOfNums [IntKind.wrap .u8 (IntKind.wrap .i64 ((48 : Int) + (Int.tmod v (10 : Int))))] ++ s) (by omega) (by omega) (by omega) (by omega)
      exact ⟨r, h1, by omega⟩
    · rw [decide_eq_false q]
      exact ⟨s, rfl, by omega⟩
theorem ok_l_markText (k : Int) (h1 : k ≤ 4611686018427387904) : l_markText_F k = some (p_l_markText k) ∧ Small.sm (p_l_markText k) := by
  have e : ∃ r, l_markText_F k = some r ∧ r.size ≤ 100 := by
    unfold l_markText_F
    by_cases q : k ≤ 0
    · rw [decide_eq_true q]
      exact ⟨_, rfl, by decide⟩
    · rw [decide_eq_false q, cond_false]
      obtain ⟨r, g1, g2⟩ := mt_l 19 9223372036854775808 k ByteArray.empty (by omega) (by omega) (by omega) (by decide)
      have z : ByteArray.empty.size = 0 := rfl
      have z2 : (⟨#[109]⟩ : ByteArray).size = 1 := rfl
      rw [g1, Option.bind_some]
      simp only
      rw [if_pos (by rw [z2]; unfold maxStr; omega)]
      exact ⟨_, rfl, by rw [ByteArray.size_append, z2]; omega⟩
  obtain ⟨r, g1, g2⟩ := e
  have p : p_l_markText k = r := by unfold p_l_markText; rw [g1]; rfl
  rw [p]
  exact ⟨g1, show r.size ≤ 1050000 by omega⟩
theorem T_l_markText (x0 : Int) (h : l_markText_F x0 = some (p_l_markText x0)) : Does E 176 [.one (tI x0)] [(false, [tS (p_l_markText x0)])] := by
  exact l_markText_D x0 _ h
inductive l_markEntryS_X0 where
  | x0 (v0 : List GEntry) (v1 : Int)
def l_markEntryS_Q0 (v0 : List GEntry) (v1 : Int) (v5 : Int) : l_markEntryS_X0 → Prop
  | .x0 zv0 zv1 => Loops E 144 (lpAt Try.f144 0) (stL 35 [(0, .one (.s .own () 3 (v0.map GEntry.t))), (1, .one (tI v1)), (5, .one (tI v5))]) (.exit 0) (stL 35 [(0, .one (.s .own () 3 (zv0.map GEntry.t))), (1, .one (tI zv1))])
theorem l_markEntryS_R0_0 (v0 : List GEntry) (v1 : Int) (v5 : Int) (g0 : GEntry) (h0 : (decide (v5 < (v0.length : Int))) = true) (h1 : getI v0 v5 = some g0) (h2 : l_markText_F (inc (inc v1)) = some (p_l_markText (inc (inc v1)))) : Round E 144 (lpAt Try.f144 0) (stL 35 [(0, .one (.s .own () 3 (v0.map GEntry.t))), (1, .one (tI v1)), (5, .one (tI v5))]) .normal (stL 35 [(0, .one (.s .own () 3 ((v0.set v5.toNat (GEntry.mk v1 (inc v1) (p_l_markText (inc (inc v1))))).map GEntry.t))), (1, .one (tI (inc (inc (inc v1))))), (5, .one (tI (inc v5)))]) :=
  Round.path [.val (.int .i64 (v0.length : Int)), .b true, .row (GEntry.t g0), .rows ((v0.set v5.toNat (GEntry.mk v1 g0.f1 g0.f2)).map GEntry.t), .row (GEntry.t (GEntry.mk v1 g0.f1 g0.f2)), .rows ((v0.set v5.toNat (GEntry.mk v1 (inc v1) g0.f2)).map GEntry.t), .ret [(false, [tS (p_l_markText (inc (inc v1)))])], .row (GEntry.t (GEntry.mk v1 (inc v1) g0.f2)), .rows ((v0.set v5.toNat (GEntry.mk v1 (inc v1) (p_l_markText (inc (inc v1))))).map GEntry.t)] _ (fun k => by kernel_rfl) (AV (ψ := fun _ => ((v0.map GEntry.t).length : Int) = (v0.length : Int)) (Ev.c lenMap) <| AC h0 <| AV (ψ := fun _ => 0 ≤ v5 ∧ v5 < ((v0.map GEntry.t).length : Int)) (Ev.c (getLt h1)) <| AV (ψ := fun _ => (v0.map GEntry.t)[0 + v5.toNat]? = some (GEntry.t g0)) (Ev.c (getRow0 h1)) <| AV (ψ := fun _ => (v0.map GEntry.t).set (0 + v5.toNat) (spliceAt (GEntry.t g0) 0 [tI v1]) = (v0.set v5.toNat (GEntry.mk v1 g0.f1 g0.f2)).map GEntry.t) (Ev.c (setMap (by rfl))) <| AV (ψ := fun _ => 0 ≤ v5 ∧ v5 < (((v0.set v5.toNat (GEntry.mk v1 g0.f1 g0.f2)).map GEntry.t).length : Int)) (Ev.c (getLt (getI_set h1))) <| AV (ψ := fun _ => ((v0.set v5.toNat (GEntry.mk v1 g0.f1 g0.f2)).map GEntry.t)[0 + v5.toNat]? = some (GEntry.t (GEntry.mk v1 g0.f1 g0.f2))) (Ev.c (getRow0 (getI_set h1))) <| AV (ψ := fun _ => ((v0.set v5.toNat (GEntry.mk v1 g0.f1 g0.f2)).map GEntry.t).set (0 + v5.toNat) (spliceAt (GEntry.t (GEntry.mk v1 g0.f1 g0.f2)) 1 [tI (inc v1)]) = (v0.set v5.toNat (GEntry.mk v1 (inc v1) g0.f2)).map GEntry.t) (Ev.c (setMap2 (by rfl))) <| AD (T_l_markText (inc (inc v1)) h2) <| AV (ψ := fun _ => 0 ≤ v5 ∧ v5 < (((v0.set v5.toNat (GEntry.mk v1 (inc v1) g0.f2)).map GEntry.t).length : Int)) (Ev.c (getLt (getI_set h1))) <| AV (ψ := fun _ => ((v0.set v5.toNat (GEntry.mk v1 (inc v1) g0.f2)).map GEntry.t)[0 + v5.toNat]? = some (GEntry.t (GEntry.mk v1 (inc v1) g0.f2))) (Ev.c (getRow0 (getI_set h1))) <| AV (ψ := fun _ => ((v0.set v5.toNat (GEntry.mk v1 (inc v1) g0.f2)).map GEntry.t).set (0 + v5.toNat) (spliceAt (GEntry.t (GEntry.mk v1 (inc v1) g0.f2)) 2 [tS (p_l_markText (inc (inc v1)))]) = (v0.set v5.toNat (GEntry.mk v1 (inc v1) (p_l_markText (inc (inc v1))))).map GEntry.t) (Ev.c (setMap2 (by rfl))) <| AN)
theorem l_markEntryS_R0_1 (v0 : List GEntry) (v1 : Int) (v5 : Int) (h0 : (decide (v5 < (v0.length : Int))) = false) : Round E 144 (lpAt Try.f144 0) (stL 35 [(0, .one (.s .own () 3 (v0.map GEntry.t))), (1, .one (tI v1)), (5, .one (tI v5))]) (.exit 0) (stL 35 [(0, .one (.s .own () 3 (v0.map GEntry.t))), (1, .one (tI v1))]) :=
  Round.path [.val (.int .i64 (v0.length : Int)), .b false] _ (fun k => by kernel_rfl) (AV (ψ := fun _ => ((v0.map GEntry.t).length : Int) = (v0.length : Int)) (Ev.c lenMap) <| AC h0 <| AN)
noncomputable def l_markEntryS_l0  : List GEntry → List GEntry → Nat → Int → Option l_markEntryS_X0
  | [], done, i, v1 => some (.x0 done v1)
  | hd :: rest, done, i, v1 => if l_markText_F (inc (inc v1)) = some (p_l_markText (inc (inc v1))) then l_markEntryS_l0 rest (done ++ [(GEntry.mk v1 (inc v1) (p_l_markText (inc (inc v1))))]) (i + 1) (inc (inc (inc v1))) else none
theorem l_markEntryS_L0  (rest : List GEntry) : ∀ (done : List GEntry) (i : Nat) (v1 : Int), i = done.length → (done ++ rest).length ≤ 9223372036854775807 → Ans (l_markEntryS_l0 rest done i v1) (l_markEntryS_Q0 (done ++ rest) v1 (i : Int)) := by
  induction rest with
  | nil =>
    intro done i v1 hi hl
    rw [List.append_nil]
    have hb := mapEnd hi
    unfold l_markEntryS_l0
    exact Ans.some (Loops.stop (l_markEntryS_R0_1 done v1 (i : Int) hb) (by intro h; cases h))
  | cons hd rest ih =>
    intro done i v1 hi hl
    have hb := mapMore (hd := hd) (rest := rest) hi
    have hw := mapNext (hd := hd) (rest := rest) hi hl
    have hg := mapGet (hd := hd) (rest := rest) hi
    unfold l_markEntryS_l0
    refine Ans.pre (fun h2 => ?_)
    exact (ih (done ++ [(GEntry.mk v1 (inc v1) (p_l_markText (inc (inc v1))))]) (i + 1) (inc (inc (inc v1))) (by simp [hi]) (by simpa using hl)).mono fun y hy => by have r := l_markEntryS_R0_0 (done ++ hd :: rest) v1 (i : Int) hd hb hg h2; rw [hw, setSplit hi] at r; cases y <;> exact Loops.next r hy
theorem l_markEntryS_P0 (x0 : List GEntry) (x1 : Int) (w0_0 : List GEntry) (w0_1 : Int) (h0 : Loops E 144 (lpAt Try.f144 0) (stL 35 [(0, .one (.s .own () 3 (x0.map GEntry.t))), (1, .one (tI x1)), (5, .one (tI (0 : Int)))]) (.exit 0) (stL 35 [(0, .one (.s .own () 3 (w0_0.map GEntry.t))), (1, .one (tI w0_1))])) : Does E 144 [.one (.s .own () 3 (x0.map GEntry.t)), .one (tI x1)] [(false, [.s .own () 3 (w0_0.map GEntry.t)]), (false, [tI w0_1])] :=
  Does.path (fn := Try.f144) [.lp (.exit 0) (stL 35 [(0, .one (.s .own () 3 (w0_0.map GEntry.t))), (1, .one (tI w0_1))])] _ rfl (fun _ => rfl) (fun k => by kernel_rfl) (AV (ψ := fun k => LoopK E 144 (lpAt Try.f144 0) (stL 35 [(0, .one (.s .own () 3 (x0.map GEntry.t))), (1, .one (tI x1)), (5, .one (tI (0 : Int)))]) (.exit 0) (stL 35 [(0, .one (.s .own () 3 (w0_0.map GEntry.t))), (1, .one (tI w0_1))]) k k) (Loops.ev h0) <| AN)
noncomputable def l_markEntryS_F (x0 : List GEntry) (x1 : Int) : Option ((List GEntry) × Int) :=
    if x0.length ≤ 9223372036854775807 then (l_markEntryS_l0 x0 [] 0 x1).bind fun y => match y with
      | .x0 w0_0 w0_1 => (some (w0_0, w0_1)) else none
theorem l_markEntryS_D (x0 : List GEntry) (x1 : Int) : Ans (l_markEntryS_F x0 x1) (fun r => Does E 144 [.one (.s .own () 3 (x0.map GEntry.t)), .one (tI x1)] [(false, [.s .own () 3 (r.1.map GEntry.t)]), (false, [tI r.2])]) := by
  unfold l_markEntryS_F
  refine Ans.pre (fun hl1 => ?_)
  refine Ans.bind (fun y hy => ?_)
  replace hy := l_markEntryS_L0 x0 [] 0 x1 rfl hl1 y hy
  cases y with
  | x0 w0_0 w0_1 =>
    have h0 := hy
    exact Ans.some (l_markEntryS_P0 x0 x1 w0_0 w0_1 h0)
inductive l_heldEntryS_X0 where
  | ret (v4 : Int)
  | x0 (v1 : Int)
def l_heldEntryS_Q0 (v0 : List GEntry) (v1 : Int) (v5 : Int) : l_heldEntryS_X0 → Prop
  | .ret zv4 => Loops E 147 (lpAt Try.f147 0) (stL 41 [(0, .one (.s .far () 3 (v0.map GEntry.t))), (1, .one (tI v1)), (5, .one (tI v5))]) .ret (stL 41 [(4, .one (tI zv4))])
  | .x0 zv1 => Loops E 147 (lpAt Try.f147 0) (stL 41 [(0, .one (.s .far () 3 (v0.map GEntry.t))), (1, .one (tI v1)), (5, .one (tI v5))]) (.exit 0) (stL 41 [(1, .one (tI zv1))])
theorem l_heldEntryS_R0_0 (v0 : List GEntry) (v1 : Int) (v5 : Int) (g0 : GEntry) (h0 : (decide (v5 < (v0.length : Int))) = true) (h1 : getI v0 v5 = some g0) (h2 : (g0.f0 != v1) = true) : Round E 147 (lpAt Try.f147 0) (stL 41 [(0, .one (.s .far () 3 (v0.map GEntry.t))), (1, .one (tI v1)), (5, .one (tI v5))]) .ret (stL 41 [(4, .one (tI (-1 : Int)))]) :=
  Round.path [.val (.int .i64 (v0.length : Int)), .b true, .row (GEntry.t g0), .b true] _ (fun k => by kernel_rfl) (AV (ψ := fun _ => ((v0.map GEntry.t).length : Int) = (v0.length : Int)) (Ev.c lenMap) <| AC h0 <| AV (ψ := fun _ => 0 ≤ v5 ∧ (v0.map GEntry.t)[v5.toNat]? = some (GEntry.t g0)) (Ev.c (getRow h1)) <| AC h2 <| AN)
theorem l_heldEntryS_R0_1 (v0 : List GEntry) (v1 : Int) (v5 : Int) (g0 : GEntry) (h0 : (decide (v5 < (v0.length : Int))) = true) (h1 : getI v0 v5 = some g0) (h2 : (g0.f0 != v1) = false) (h3 : (g0.f1 != (inc v1)) = true) : Round E 147 (lpAt Try.f147 0) (stL 41 [(0, .one (.s .far () 3 (v0.map GEntry.t))), (1, .one (tI v1)), (5, .one (tI v5))]) .ret (stL 41 [(4, .one (tI (-1 : Int)))]) :=
  Round.path [.val (.int .i64 (v0.length : Int)), .b true, .row (GEntry.t g0), .b false, .row (GEntry.t g0), .b true] _ (fun k => by kernel_rfl) (AV (ψ := fun _ => ((v0.map GEntry.t).length : Int) = (v0.length : Int)) (Ev.c lenMap) <| AC h0 <| AV (ψ := fun _ => 0 ≤ v5 ∧ (v0.map GEntry.t)[v5.toNat]? = some (GEntry.t g0)) (Ev.c (getRow h1)) <| AC h2 <| AV (ψ := fun _ => 0 ≤ v5 ∧ (v0.map GEntry.t)[v5.toNat]? = some (GEntry.t g0)) (Ev.c (getRow h1)) <| AC h3 <| AN)
theorem l_heldEntryS_R0_2 (v0 : List GEntry) (v1 : Int) (v5 : Int) (g0 : GEntry) (h0 : (decide (v5 < (v0.length : Int))) = true) (h1 : getI v0 v5 = some g0) (h2 : (g0.f0 != v1) = false) (h3 : (g0.f1 != (inc v1)) = false) (h4 : l_markText_F (inc (inc v1)) = some (p_l_markText (inc (inc v1)))) (h5 : (!(g0.f2.toList == (p_l_markText (inc (inc v1))).toList)) = true) : Round E 147 (lpAt Try.f147 0) (stL 41 [(0, .one (.s .far () 3 (v0.map GEntry.t))), (1, .one (tI v1)), (5, .one (tI v5))]) .ret (stL 41 [(4, .one (tI (-1 : Int)))]) :=
  Round.path [.val (.int .i64 (v0.length : Int)), .b true, .row (GEntry.t g0), .b false, .row (GEntry.t g0), .b false, .row (GEntry.t g0), .ret [(false, [tS (p_l_markText (inc (inc v1)))])], .b true] _ (fun k => by kernel_rfl) (AV (ψ := fun _ => ((v0.map GEntry.t).length : Int) = (v0.length : Int)) (Ev.c lenMap) <| AC h0 <| AV (ψ := fun _ => 0 ≤ v5 ∧ (v0.map GEntry.t)[v5.toNat]? = some (GEntry.t g0)) (Ev.c (getRow h1)) <| AC h2 <| AV (ψ := fun _ => 0 ≤ v5 ∧ (v0.map GEntry.t)[v5.toNat]? = some (GEntry.t g0)) (Ev.c (getRow h1)) <| AC h3 <| AV (ψ := fun _ => 0 ≤ v5 ∧ (v0.map GEntry.t)[v5.toNat]? = some (GEntry.t g0)) (Ev.c (getRow h1)) <| AD (T_l_markText (inc (inc v1)) h4) <| AC h5 <| AN)
theorem l_heldEntryS_R0_3 (v0 : List GEntry) (v1 : Int) (v5 : Int) (g0 : GEntry) (h0 : (decide (v5 < (v0.length : Int))) = true) (h1 : getI v0 v5 = some g0) (h2 : (g0.f0 != v1) = false) (h3 : (g0.f1 != (inc v1)) = false) (h4 : l_markText_F (inc (inc v1)) = some (p_l_markText (inc (inc v1)))) (h5 : (!(g0.f2.toList == (p_l_markText (inc (inc v1))).toList)) = false) : Round E 147 (lpAt Try.f147 0) (stL 41 [(0, .one (.s .far () 3 (v0.map GEntry.t))), (1, .one (tI v1)), (5, .one (tI v5))]) .normal (stL 41 [(0, .one (.s .far () 3 (v0.map GEntry.t))), (1, .one (tI (inc (inc (inc v1))))), (5, .one (tI (inc v5)))]) :=
  Round.path [.val (.int .i64 (v0.length : Int)), .b true, .row (GEntry.t g0), .b false, .row (GEntry.t g0), .b false, .row (GEntry.t g0), .ret [(false, [tS (p_l_markText (inc (inc v1)))])], .b false] _ (fun k => by kernel_rfl) (AV (ψ := fun _ => ((v0.map GEntry.t).length : Int) = (v0.length : Int)) (Ev.c lenMap) <| AC h0 <| AV (ψ := fun _ => 0 ≤ v5 ∧ (v0.map GEntry.t)[v5.toNat]? = some (GEntry.t g0)) (Ev.c (getRow h1)) <| AC h2 <| AV (ψ := fun _ => 0 ≤ v5 ∧ (v0.map GEntry.t)[v5.toNat]? = some (GEntry.t g0)) (Ev.c (getRow h1)) <| AC h3 <| AV (ψ := fun _ => 0 ≤ v5 ∧ (v0.map GEntry.t)[v5.toNat]? = some (GEntry.t g0)) (Ev.c (getRow h1)) <| AD (T_l_markText (inc (inc v1)) h4) <| AC h5 <| AN)
theorem l_heldEntryS_R0_4 (v0 : List GEntry) (v1 : Int) (v5 : Int) (h0 : (decide (v5 < (v0.length : Int))) = false) : Round E 147 (lpAt Try.f147 0) (stL 41 [(0, .one (.s .far () 3 (v0.map GEntry.t))), (1, .one (tI v1)), (5, .one (tI v5))]) (.exit 0) (stL 41 [(1, .one (tI v1))]) :=
  Round.path [.val (.int .i64 (v0.length : Int)), .b false] _ (fun k => by kernel_rfl) (AV (ψ := fun _ => ((v0.map GEntry.t).length : Int) = (v0.length : Int)) (Ev.c lenMap) <| AC h0 <| AN)
noncomputable def l_heldEntryS_l0  : List GEntry → Nat → Int → Option l_heldEntryS_X0
  | [], i, v1 => some (.x0 v1)
  | hd :: rest, i, v1 => cond (hd.f0 != v1)
    (some (.ret (-1 : Int)))
    (cond (hd.f1 != (inc v1))
      (some (.ret (-1 : Int)))
      (if l_markText_F (inc (inc v1)) = some (p_l_markText (inc (inc v1))) then cond (!(hd.f2.toList == (p_l_markText (inc (inc v1))).toList))
        (some (.ret (-1 : Int)))
        (l_heldEntryS_l0 rest (i + 1) (inc (inc (inc v1)))) else none))
theorem l_heldEntryS_L0 (v0 : List GEntry) (rest : List GEntry) : ∀ (i : Nat) (v1 : Int), (v0).drop i = rest → v0.length ≤ 9223372036854775807 → Ans (l_heldEntryS_l0 rest i v1) (l_heldEntryS_Q0 v0 v1 (i : Int)) := by
  induction rest with
  | nil =>
    intro i v1 hE hl
    have hb := foldEnd hE
    unfold l_heldEntryS_l0
    exact Ans.some (Loops.stop (l_heldEntryS_R0_4 v0 v1 (i : Int) hb) (by intro h; cases h))
  | cons hd rest ih =>
    intro i v1 hE hl
    have hb := foldMore hE
    have hw := foldNext hE hl
    have hE2 := foldRest hE
    have hg := foldGet hE
    unfold l_heldEntryS_l0
    refine Ans.ite (fun h2 => ?_) (fun h2 => ?_)
    · exact Ans.some (Loops.stop (l_heldEntryS_R0_0 v0 v1 (i : Int) hd hb hg h2) (by intro h; cases h))
    · refine Ans.ite (fun h3 => ?_) (fun h3 => ?_)
      · exact Ans.some (Loops.stop (l_heldEntryS_R0_1 v0 v1 (i : Int) hd hb hg h2 h3) (by intro h; cases h))
      · refine Ans.pre (fun h4 => ?_)
        refine Ans.ite (fun h5 => ?_) (fun h5 => ?_)
        · exact Ans.some (Loops.stop (l_heldEntryS_R0_2 v0 v1 (i : Int) hd hb hg h2 h3 h4 h5) (by intro h; cases h))
        · exact (ih (i + 1) (inc (inc (inc v1))) hE2 hl).mono fun y hy => by have r := l_heldEntryS_R0_3 v0 v1 (i : Int) hd hb hg h2 h3 h4 h5; rw [hw] at r; cases y <;> exact Loops.next r hy
theorem l_heldEntryS_P0 (x0 : List GEntry) (x1 : Int) (w0_4 : Int) (h0 : Loops E 147 (lpAt Try.f147 0) (stL 41 [(0, .one (.s .far () 3 (x0.map GEntry.t))), (1, .one (tI x1)), (5, .one (tI (0 : Int)))]) .ret (stL 41 [(4, .one (tI w0_4))])) : Does E 147 [.one (.s .far () 3 (x0.map GEntry.t)), .one (tI x1)] [(false, [tI w0_4])] :=
  Does.path (fn := Try.f147) [.lp .ret (stL 41 [(4, .one (tI w0_4))])] _ rfl (fun _ => rfl) (fun k => by kernel_rfl) (AV (ψ := fun k => LoopK E 147 (lpAt Try.f147 0) (stL 41 [(0, .one (.s .far () 3 (x0.map GEntry.t))), (1, .one (tI x1)), (5, .one (tI (0 : Int)))]) .ret (stL 41 [(4, .one (tI w0_4))]) k k) (Loops.ev h0) <| AN)
theorem l_heldEntryS_P1 (x0 : List GEntry) (x1 : Int) (w0_1 : Int) (h0 : Loops E 147 (lpAt Try.f147 0) (stL 41 [(0, .one (.s .far () 3 (x0.map GEntry.t))), (1, .one (tI x1)), (5, .one (tI (0 : Int)))]) (.exit 0) (stL 41 [(1, .one (tI w0_1))])) : Does E 147 [.one (.s .far () 3 (x0.map GEntry.t)), .one (tI x1)] [(false, [tI w0_1])] :=
  Does.path (fn := Try.f147) [.lp (.exit 0) (stL 41 [(1, .one (tI w0_1))])] _ rfl (fun _ => rfl) (fun k => by kernel_rfl) (AV (ψ := fun k => LoopK E 147 (lpAt Try.f147 0) (stL 41 [(0, .one (.s .far () 3 (x0.map GEntry.t))), (1, .one (tI x1)), (5, .one (tI (0 : Int)))]) (.exit 0) (stL 41 [(1, .one (tI w0_1))]) k k) (Loops.ev h0) <| AN)
noncomputable def l_heldEntryS_F (x0 : List GEntry) (x1 : Int) : Option (Int) :=
    if x0.length ≤ 9223372036854775807 then (l_heldEntryS_l0 x0 0 x1).bind fun y => match y with
      | .ret w0_4 => (some (w0_4))
      | .x0 w0_1 => (some (w0_1)) else none
theorem l_heldEntryS_D (x0 : List GEntry) (x1 : Int) : Ans (l_heldEntryS_F x0 x1) (fun r => Does E 147 [.one (.s .far () 3 (x0.map GEntry.t)), .one (tI x1)] [(false, [tI r])]) := by
  unfold l_heldEntryS_F
  refine Ans.pre (fun hl1 => ?_)
  refine Ans.bind (fun y hy => ?_)
  replace hy := l_heldEntryS_L0 x0 x0 0 x1 rfl hl1 y hy
  cases y with
  | ret w0_4 =>
    have h0 := hy
    exact Ans.some (l_heldEntryS_P0 x0 x1 w0_4 h0)
  | x0 w0_1 =>
    have h0 := hy
    exact Ans.some (l_heldEntryS_P1 x0 x1 w0_1 h0)
noncomputable def p_l_markEntryS (x : List GEntry) (k : Int) : (List GEntry) × Int := (l_markEntryS_F x k).getD ([], 0)
noncomputable def p_l_heldEntryS (x : List GEntry) (k : Int) : Int := (l_heldEntryS_F x k).getD (-1)
theorem T_l_markEntryS (x0 : List GEntry) (x1 : Int) (h : l_markEntryS_F x0 x1 = some (p_l_markEntryS x0 x1)) : Does E 144 [.one (.s .own () 3 (x0.map GEntry.t)), .one (tI x1)] [(false, [.s .own () 3 (((p_l_markEntryS x0 x1).1).map GEntry.t)]), (false, [tI ((p_l_markEntryS x0 x1).2)])] := by
  exact l_markEntryS_D x0 x1 _ h
theorem T_l_heldEntryS (x0 : List GEntry) (x1 : Int) (h : l_heldEntryS_F x0 x1 = some (p_l_heldEntryS x0 x1)) : Does E 147 [.one (.s .far () 3 (x0.map GEntry.t)), .one (tI x1)] [(false, [tI (p_l_heldEntryS x0 x1)])] := by
  exact l_heldEntryS_D x0 x1 _ h
theorem mk_l_markEntryS : ∀ (rest done : List GEntry) (i : Nat) (k : Int), (∀ y ∈ rest, Small.sm y) → 0 ≤ k → k + 3 * (rest.length : Int) ≤ 4611686018427387904 →
    ∃ new m, l_markEntryS_l0 rest done i k = some (.x0 (done ++ new) m) ∧ k ≤ m ∧ m ≤ k + 3 * (rest.length : Int) ∧ new.length = rest.length ∧ (∀ y ∈ new, Small.sm y) ∧ ∀ j, l_heldEntryS_l0 new j k = some (.x0 m)
  | [], done, i, k, _, h0, _ => ⟨[], k, by unfold l_markEntryS_l0; rw [List.append_nil], by omega, by simp, rfl, fun y hy => (by cases hy), fun j => rfl⟩
  | x :: rest, done, i, k, h, h0, h1 => by
    have hx := h x (by simp)
    rw [List.length_cons] at h1 ⊢
    have w1 : inc k = k + 1 := inc_id _ (by omega) (by omega)
    have w2 : inc (k + 1) = (k + 1) + 1 := inc_id _ (by omega) (by omega)
    have t3 := ok_l_markText ((k + 1) + 1) (by omega)
    have w3 : inc ((k + 1) + 1) = ((k + 1) + 1) + 1 := inc_id _ (by omega) (by omega)
    obtain ⟨new, m, g1, g2, g3, g4, g5, g6⟩ := mk_l_markEntryS rest (done ++ [(GEntry.mk k (k + 1) (p_l_markText ((k + 1) + 1)))]) (i + 1) (((k + 1) + 1) + 1) (fun y hy => h y (by simp [hy])) (by omega) (by omega)
    refine ⟨(GEntry.mk k (k + 1) (p_l_markText ((k + 1) + 1))) :: new, m, ?_, by omega, by omega, by simp [g4], ?_, fun j => ?_⟩
    · unfold l_markEntryS_l0
      simp only [w1, w2, t3.1, w3, if_true, g1, List.append_assoc, List.singleton_append]
    · intro y hy
      rcases List.mem_cons.1 hy with rfl | hy
      · exact t3.2
      · exact g5 y hy
    · unfold l_heldEntryS_l0
      simp only [w1, w2, t3.1, w3, if_true, bne_self_eq_false, BEq.rfl, Bool.not_true, cond_false, cond_true, g6]
theorem ok_l_markEntryS (l : List GEntry) (k : Int) (h : Small.sm l) (h0 : 0 ≤ k) (h1 : k + 3150000 ≤ 4611686018427387904) : l_markEntryS_F l k = some (p_l_markEntryS l k) ∧ l_heldEntryS_F (p_l_markEntryS l k).1 k = some (p_l_heldEntryS (p_l_markEntryS l k).1 k) ∧ p_l_heldEntryS (p_l_markEntryS l k).1 k = (p_l_markEntryS l k).2 ∧ k ≤ (p_l_markEntryS l k).2 ∧ (p_l_markEntryS l k).2 ≤ k + 3150000 ∧ Small.sm (p_l_markEntryS l k).1 := by
  have hl := h.1
  obtain ⟨new, m, g1, g2, g3, g4, g5, g6⟩ := mk_l_markEntryS l [] 0 k h.2 h0 (by omega)
  have e : l_markEntryS_F l k = some (new, m) := by unfold l_markEntryS_F; rw [if_pos (sm_wf_len h), g1]; rfl
  have p : p_l_markEntryS l k = (new, m) := by unfold p_l_markEntryS; rw [e]; rfl
  have e2 : l_heldEntryS_F new k = some m := by unfold l_heldEntryS_F; rw [if_pos (by omega), g6]; rfl
  have p2 : p_l_heldEntryS new k = m := by unfold p_l_heldEntryS; rw [e2]; rfl
  rw [p, p2]
  exact ⟨e, e2, rfl, g2, by omega, ⟨by show new.length ≤ 1050000; omega, g5⟩⟩
theorem l_markLog_P0 (x0 : GLog) (x1 : Int) (h0 : l_markEntryS_F x0.f2 x1 = some (p_l_markEntryS x0.f2 x1)) : Does E 75 [.agg (GLog.t .own x0), .one (tI x1)] [(true, GLog.t .own (GLog.mk x0.f0 x0.f1 ((p_l_markEntryS x0.f2 x1).1))), (false, [tI ((p_l_markEntryS x0.f2 x1).2)])] :=
  Does.path (fn := Try.f75) [.ret [(false, [.s .own () 3 (((p_l_markEntryS x0.f2 x1).1).map GEntry.t)]), (false, [tI ((p_l_markEntryS x0.f2 x1).2)])]] _ rfl (fun _ => rfl) (fun k => by kernel_rfl) (AV (ψ := fun k => E.C k 144 [.one (.s .own () 3 (x0.f2.map GEntry.t)), .one (tI x1)] = some [(false, [.s .own () 3 (((p_l_markEntryS x0.f2 x1).1).map GEntry.t)]), (false, [tI ((p_l_markEntryS x0.f2 x1).2)])]) (T_l_markEntryS x0.f2 x1 h0) <| AN)
noncomputable def l_markLog_F (x0 : GLog) (x1 : Int) : Option (GLog × Int) :=
    if l_markEntryS_F x0.f2 x1 = some (p_l_markEntryS x0.f2 x1) then some ((GLog.mk x0.f0 x0.f1 ((p_l_markEntryS x0.f2 x1).1)), (p_l_markEntryS x0.f2 x1).2) else none
theorem l_markLog_D (x0 : GLog) (x1 : Int) : Ans (l_markLog_F x0 x1) (fun r => Does E 75 [.agg (GLog.t .own x0), .one (tI x1)] [(true, GLog.t .own r.1), (false, [tI r.2])]) := by
  unfold l_markLog_F
  refine Ans.pre (fun h0 => ?_)
  exact Ans.some (l_markLog_P0 x0 x1 h0)
theorem l_heldLog_P0 (x0 : GLog) (x1 : Int) (h0 : l_heldEntryS_F x0.f2 x1 = some (p_l_heldEntryS x0.f2 x1)) (h1 : (decide ((p_l_heldEntryS x0.f2 x1) < (0 : Int))) = true) : Does E 89 [.agg (GLog.t .far x0), .one (tI x1)] [(false, [tI (-1 : Int)])] :=
  Does.path (fn := Try.f89) [.ret [(false, [tI (p_l_heldEntryS x0.f2 x1)])], .b true] _ rfl (fun _ => rfl) (fun k => by kernel_rfl) (AD (T_l_heldEntryS x0.f2 x1 h0) <| AC h1 <| AN)
theorem l_heldLog_P1 (x0 : GLog) (x1 : Int) (h0 : l_heldEntryS_F x0.f2 x1 = some (p_l_heldEntryS x0.f2 x1)) (h1 : (decide ((p_l_heldEntryS x0.f2 x1) < (0 : Int))) = false) : Does E 89 [.agg (GLog.t .far x0), .one (tI x1)] [(false, [tI (p_l_heldEntryS x0.f2 x1)])] :=
  Does.path (fn := Try.f89) [.ret [(false, [tI (p_l_heldEntryS x0.f2 x1)])], .b false] _ rfl (fun _ => rfl) (fun k => by kernel_rfl) (AD (T_l_heldEntryS x0.f2 x1 h0) <| AC h1 <| AN)
noncomputable def l_heldLog_F (x0 : GLog) (x1 : Int) : Option (Int) :=
    if l_heldEntryS_F x0.f2 x1 = some (p_l_heldEntryS x0.f2 x1) then cond (decide ((p_l_heldEntryS x0.f2 x1) < (0 : Int)))
      (some ((-1 : Int)))
      (some (p_l_heldEntryS x0.f2 x1)) else none
theorem l_heldLog_D (x0 : GLog) (x1 : Int) : Ans (l_heldLog_F x0 x1) (fun r => Does E 89 [.agg (GLog.t .far x0), .one (tI x1)] [(false, [tI r])]) := by
  unfold l_heldLog_F
  refine Ans.pre (fun h0 => ?_)
  refine Ans.ite (fun h1 => ?_) (fun h1 => ?_)
  · exact Ans.some (l_heldLog_P0 x0 x1 h0 h1)
  · exact Ans.some (l_heldLog_P1 x0 x1 h0 h1)
noncomputable def p_l_markLog (x : GLog) (k : Int) : GLog × Int := (l_markLog_F x k).getD (x, 0)
noncomputable def p_l_heldLog (x : GLog) (k : Int) : Int := (l_heldLog_F x k).getD (-1)
theorem T_l_markLog (x0 : GLog) (x1 : Int) (h : l_markLog_F x0 x1 = some (p_l_markLog x0 x1)) : Does E 75 [.agg (GLog.t .own x0), .one (tI x1)] [(true, GLog.t .own ((p_l_markLog x0 x1).1)), (false, [tI ((p_l_markLog x0 x1).2)])] := by
  exact l_markLog_D x0 x1 _ h
theorem T_l_heldLog (x0 : GLog) (x1 : Int) (h : l_heldLog_F x0 x1 = some (p_l_heldLog x0 x1)) : Does E 89 [.agg (GLog.t .far x0), .one (tI x1)] [(false, [tI (p_l_heldLog x0 x1)])] := by
  exact l_heldLog_D x0 x1 _ h
theorem ok_l_markLog (x : GLog) (k : Int) (h : Small.sm x) (h0 : 0 ≤ k) (h1 : k + 3150000 ≤ 4611686018427387904) : l_markLog_F x k = some (p_l_markLog x k) ∧ l_heldLog_F (p_l_markLog x k).1 k = some (p_l_heldLog (p_l_markLog x k).1 k) ∧ p_l_heldLog (p_l_markLog x k).1 k = (p_l_markLog x k).2 ∧ k ≤ (p_l_markLog x k).2 ∧ (p_l_markLog x k).2 ≤ k + 3150000 ∧ Small.sm (p_l_markLog x k).1 ∧ (GLog.mk x.f0 x.f1 (((p_l_markLog x k).1).f2)) = (p_l_markLog x k).1 := by
  have hx2 : Small.sm x.f2 := h
  have a1 := ok_l_markEntryS x.f2 k hx2 (by omega) (by omega)
  have d1 : decide ((p_l_markEntryS x.f2 k).2 < (0 : Int)) = false := decide_eq_false (by omega)
  have e : l_markLog_F x k = some ((GLog.mk x.f0 x.f1 (p_l_markEntryS x.f2 k).1), ((p_l_markEntryS x.f2 k).2)) := by unfold l_markLog_F; simp only [a1.1, a1.2.1, a1.2.2.1, d1, if_true]
  have p : p_l_markLog x k = ((GLog.mk x.f0 x.f1 (p_l_markEntryS x.f2 k).1), ((p_l_markEntryS x.f2 k).2)) := by unfold p_l_markLog; rw [e]; rfl
  have e2 : l_heldLog_F (GLog.mk x.f0 x.f1 (p_l_markEntryS x.f2 k).1) k = some ((p_l_markEntryS x.f2 k).2) := by unfold l_heldLog_F; simp only [a1.1, a1.2.1, a1.2.2.1, d1, if_true, cond_false]
  have p2 : p_l_heldLog (GLog.mk x.f0 x.f1 (p_l_markEntryS x.f2 k).1) k = ((p_l_markEntryS x.f2 k).2) := by unfold p_l_heldLog; rw [e2]; rfl
  rw [p, p2]
  exact ⟨e, e2, rfl, by omega, by omega, a1.2.2.2.2.2, by first | rfl | simp only [a1.1, a1.2.1, a1.2.2.1, d1, if_true]⟩
inductive l_markPeerS_X0 where
  | x0 (v0 : List GPeer) (v1 : Int)
def l_markPeerS_Q0 (v0 : List GPeer) (v1 : Int) (v5 : Int) : l_markPeerS_X0 → Prop
  | .x0 zv0 zv1 => Loops E 76 (lpAt Try.f76 0) (stL 41 [(0, .one (.s .own () 4 (v0.map GPeer.t))), (1, .one (tI v1)), (5, .one (tI v5))]) (.exit 0) (stL 41 [(0, .one (.s .own () 4 (zv0.map GPeer.t))), (1, .one (tI zv1))])
theorem l_markPeerS_R0_0 (v0 : List GPeer) (v1 : Int) (v5 : Int) (g0 : GPeer) (h0 : (decide (v5 < (v0.length : Int))) = true) (h1 : getI v0 v5 = some g0) : Round E 76 (lpAt Try.f76 0) (stL 41 [(0, .one (.s .own () 4 (v0.map GPeer.t))), (1, .one (tI v1)), (5, .one (tI v5))]) .normal (stL 41 [(0, .one (.s .own () 4 ((v0.set v5.toNat (GPeer.mk v1 (inc v1) (inc (inc v1)) (inc (inc (inc v1))))).map GPeer.t))), (1, .one (tI (inc (inc (inc (inc v1)))))), (5, .one (tI (inc v5)))]) :=
  Round.path [.val (.int .i64 (v0.length : Int)), .b true, .row (GPeer.t g0), .rows ((v0.set v5.toNat (GPeer.mk v1 g0.f1 g0.f2 g0.f3)).map GPeer.t), .row (GPeer.t (GPeer.mk v1 g0.f1 g0.f2 g0.f3)), .rows ((v0.set v5.toNat (GPeer.mk v1 (inc v1) g0.f2 g0.f3)).map GPeer.t), .row (GPeer.t (GPeer.mk v1 (inc v1) g0.f2 g0.f3)), .rows ((v0.set v5.toNat (GPeer.mk v1 (inc v1) (inc (inc v1)) g0.f3)).map GPeer.t), .row (GPeer.t (GPeer.mk v1 (inc v1) (inc (inc v1)) g0.f3)), .rows ((v0.set v5.toNat (GPeer.mk v1 (inc v1) (inc (inc v1)) (inc (inc (inc v1))))).map GPeer.t)] _ (fun k => by kernel_rfl) (AV (ψ := fun _ => ((v0.map GPeer.t).length : Int) = (v0.length : Int)) (Ev.c lenMap) <| AC h0 <| AV (ψ := fun _ => 0 ≤ v5 ∧ v5 < ((v0.map GPeer.t).length : Int)) (Ev.c (getLt h1)) <| AV (ψ := fun _ => (v0.map GPeer.t)[0 + v5.toNat]? = some (GPeer.t g0)) (Ev.c (getRow0 h1)) <| AV (ψ := fun _ => (v0.map GPeer.t).set (0 + v5.toNat) (spliceAt (GPeer.t g0) 0 [tI v1]) = (v0.set v5.toNat (GPeer.mk v1 g0.f1 g0.f2 g0.f3)).map GPeer.t) (Ev.c (setMap (by rfl))) <| AV (ψ := fun _ => 0 ≤ v5 ∧ v5 < (((v0.set v5.toNat (GPeer.mk v1 g0.f1 g0.f2 g0.f3)).map GPeer.t).length : Int)) (Ev.c (getLt (getI_set h1))) <| AV (ψ := fun _ => ((v0.set v5.toNat (GPeer.mk v1 g0.f1 g0.f2 g0.f3)).map GPeer.t)[0 + v5.toNat]? = some (GPeer.t (GPeer.mk v1 g0.f1 g0.f2 g0.f3))) (Ev.c (getRow0 (getI_set h1))) <| AV (ψ := fun _ => ((v0.set v5.toNat (GPeer.mk v1 g0.f1 g0.f2 g0.f3)).map GPeer.t).set (0 + v5.toNat) (spliceAt (GPeer.t (GPeer.mk v1 g0.f1 g0.f2 g0.f3)) 1 [tI (inc v1)]) = (v0.set v5.toNat (GPeer.mk v1 (inc v1) g0.f2 g0.f3)).map GPeer.t) (Ev.c (setMap2 (by rfl))) <| AV (ψ := fun _ => 0 ≤ v5 ∧ v5 < (((v0.set v5.toNat (GPeer.mk v1 (inc v1) g0.f2 g0.f3)).map GPeer.t).length : Int)) (Ev.c (getLt (getI_set h1))) <| AV (ψ := fun _ => ((v0.set v5.toNat (GPeer.mk v1 (inc v1) g0.f2 g0.f3)).map GPeer.t)[0 + v5.toNat]? = some (GPeer.t (GPeer.mk v1 (inc v1) g0.f2 g0.f3))) (Ev.c (getRow0 (getI_set h1))) <| AV (ψ := fun _ => ((v0.set v5.toNat (GPeer.mk v1 (inc v1) g0.f2 g0.f3)).map GPeer.t).set (0 + v5.toNat) (spliceAt (GPeer.t (GPeer.mk v1 (inc v1) g0.f2 g0.f3)) 2 [tI (inc (inc v1))]) = (v0.set v5.toNat (GPeer.mk v1 (inc v1) (inc (inc v1)) g0.f3)).map GPeer.t) (Ev.c (setMap2 (by rfl))) <| AV (ψ := fun _ => 0 ≤ v5 ∧ v5 < (((v0.set v5.toNat (GPeer.mk v1 (inc v1) (inc (inc v1)) g0.f3)).map GPeer.t).length : Int)) (Ev.c (getLt (getI_set h1))) <| AV (ψ := fun _ => ((v0.set v5.toNat (GPeer.mk v1 (inc v1) (inc (inc v1)) g0.f3)).map GPeer.t)[0 + v5.toNat]? = some (GPeer.t (GPeer.mk v1 (inc v1) (inc (inc v1)) g0.f3))) (Ev.c (getRow0 (getI_set h1))) <| AV (ψ := fun _ => ((v0.set v5.toNat (GPeer.mk v1 (inc v1) (inc (inc v1)) g0.f3)).map GPeer.t).set (0 + v5.toNat) (spliceAt (GPeer.t (GPeer.mk v1 (inc v1) (inc (inc v1)) g0.f3)) 3 [tI (inc (inc (inc v1)))]) = (v0.set v5.toNat (GPeer.mk v1 (inc v1) (inc (inc v1)) (inc (inc (inc v1))))).map GPeer.t) (Ev.c (setMap2 (by rfl))) <| AN)
theorem l_markPeerS_R0_1 (v0 : List GPeer) (v1 : Int) (v5 : Int) (h0 : (decide (v5 < (v0.length : Int))) = false) : Round E 76 (lpAt Try.f76 0) (stL 41 [(0, .one (.s .own () 4 (v0.map GPeer.t))), (1, .one (tI v1)), (5, .one (tI v5))]) (.exit 0) (stL 41 [(0, .one (.s .own () 4 (v0.map GPeer.t))), (1, .one (tI v1))]) :=
  Round.path [.val (.int .i64 (v0.length : Int)), .b false] _ (fun k => by kernel_rfl) (AV (ψ := fun _ => ((v0.map GPeer.t).length : Int) = (v0.length : Int)) (Ev.c lenMap) <| AC h0 <| AN)
noncomputable def l_markPeerS_l0  : List GPeer → List GPeer → Nat → Int → Option l_markPeerS_X0
  | [], done, i, v1 => some (.x0 done v1)
  | hd :: rest, done, i, v1 => l_markPeerS_l0 rest (done ++ [(GPeer.mk v1 (inc v1) (inc (inc v1)) (inc (inc (inc v1))))]) (i + 1) (inc (inc (inc (inc v1))))
theorem l_markPeerS_L0  (rest : List GPeer) : ∀ (done : List GPeer) (i : Nat) (v1 : Int), i = done.length → (done ++ rest).length ≤ 9223372036854775807 → Ans (l_markPeerS_l0 rest done i v1) (l_markPeerS_Q0 (done ++ rest) v1 (i : Int)) := by
  induction rest with
  | nil =>
    intro done i v1 hi hl
    rw [List.append_nil]
    have hb := mapEnd hi
    unfold l_markPeerS_l0
    exact Ans.some (Loops.stop (l_markPeerS_R0_1 done v1 (i : Int) hb) (by intro h; cases h))
  | cons hd rest ih =>
    intro done i v1 hi hl
    have hb := mapMore (hd := hd) (rest := rest) hi
    have hw := mapNext (hd := hd) (rest := rest) hi hl
    have hg := mapGet (hd := hd) (rest := rest) hi
    unfold l_markPeerS_l0
    exact (ih (done ++ [(GPeer.mk v1 (inc v1) (inc (inc v1)) (inc (inc (inc v1))))]) (i + 1) (inc (inc (inc (inc v1)))) (by simp [hi]) (by simpa using hl)).mono fun y hy => by have r := l_markPeerS_R0_0 (done ++ hd :: rest) v1 (i : Int) hd hb hg; rw [hw, setSplit hi] at r; cases y <;> exact Loops.next r hy
theorem l_markPeerS_P0 (x0 : List GPeer) (x1 : Int) (w0_0 : List GPeer) (w0_1 : Int) (h0 : Loops E 76 (lpAt Try.f76 0) (stL 41 [(0, .one (.s .own () 4 (x0.map GPeer.t))), (1, .one (tI x1)), (5, .one (tI (0 : Int)))]) (.exit 0) (stL 41 [(0, .one (.s .own () 4 (w0_0.map GPeer.t))), (1, .one (tI w0_1))])) : Does E 76 [.one (.s .own () 4 (x0.map GPeer.t)), .one (tI x1)] [(false, [.s .own () 4 (w0_0.map GPeer.t)]), (false, [tI w0_1])] :=
  Does.path (fn := Try.f76) [.lp (.exit 0) (stL 41 [(0, .one (.s .own () 4 (w0_0.map GPeer.t))), (1, .one (tI w0_1))])] _ rfl (fun _ => rfl) (fun k => by kernel_rfl) (AV (ψ := fun k => LoopK E 76 (lpAt Try.f76 0) (stL 41 [(0, .one (.s .own () 4 (x0.map GPeer.t))), (1, .one (tI x1)), (5, .one (tI (0 : Int)))]) (.exit 0) (stL 41 [(0, .one (.s .own () 4 (w0_0.map GPeer.t))), (1, .one (tI w0_1))]) k k) (Loops.ev h0) <| AN)
noncomputable def l_markPeerS_F (x0 : List GPeer) (x1 : Int) : Option ((List GPeer) × Int) :=
    if x0.length ≤ 9223372036854775807 then (l_markPeerS_l0 x0 [] 0 x1).bind fun y => match y with
      | .x0 w0_0 w0_1 => (some (w0_0, w0_1)) else none
theorem l_markPeerS_D (x0 : List GPeer) (x1 : Int) : Ans (l_markPeerS_F x0 x1) (fun r => Does E 76 [.one (.s .own () 4 (x0.map GPeer.t)), .one (tI x1)] [(false, [.s .own () 4 (r.1.map GPeer.t)]), (false, [tI r.2])]) := by
  unfold l_markPeerS_F
  refine Ans.pre (fun hl1 => ?_)
  refine Ans.bind (fun y hy => ?_)
  replace hy := l_markPeerS_L0 x0 [] 0 x1 rfl hl1 y hy
  cases y with
  | x0 w0_0 w0_1 =>
    have h0 := hy
    exact Ans.some (l_markPeerS_P0 x0 x1 w0_0 w0_1 h0)
inductive l_heldPeerS_X0 where
  | ret (v4 : Int)
  | x0 (v1 : Int)
def l_heldPeerS_Q0 (v0 : List GPeer) (v1 : Int) (v5 : Int) : l_heldPeerS_X0 → Prop
  | .ret zv4 => Loops E 90 (lpAt Try.f90 0) (stL 49 [(0, .one (.s .far () 4 (v0.map GPeer.t))), (1, .one (tI v1)), (5, .one (tI v5))]) .ret (stL 49 [(4, .one (tI zv4))])
  | .x0 zv1 => Loops E 90 (lpAt Try.f90 0) (stL 49 [(0, .one (.s .far () 4 (v0.map GPeer.t))), (1, .one (tI v1)), (5, .one (tI v5))]) (.exit 0) (stL 49 [(1, .one (tI zv1))])
theorem l_heldPeerS_R0_0 (v0 : List GPeer) (v1 : Int) (v5 : Int) (g0 : GPeer) (h0 : (decide (v5 < (v0.length : Int))) = true) (h1 : getI v0 v5 = some g0) (h2 : (g0.f0 != v1) = true) : Round E 90 (lpAt Try.f90 0) (stL 49 [(0, .one (.s .far () 4 (v0.map GPeer.t))), (1, .one (tI v1)), (5, .one (tI v5))]) .ret (stL 49 [(4, .one (tI (-1 : Int)))]) :=
  Round.path [.val (.int .i64 (v0.length : Int)), .b true, .row (GPeer.t g0), .b true] _ (fun k => by kernel_rfl) (AV (ψ := fun _ => ((v0.map GPeer.t).length : Int) = (v0.length : Int)) (Ev.c lenMap) <| AC h0 <| AV (ψ := fun _ => 0 ≤ v5 ∧ (v0.map GPeer.t)[v5.toNat]? = some (GPeer.t g0)) (Ev.c (getRow h1)) <| AC h2 <| AN)
theorem l_heldPeerS_R0_1 (v0 : List GPeer) (v1 : Int) (v5 : Int) (g0 : GPeer) (h0 : (decide (v5 < (v0.length : Int))) = true) (h1 : getI v0 v5 = some g0) (h2 : (g0.f0 != v1) = false) (h3 : (g0.f1 != (inc v1)) = true) : Round E 90 (lpAt Try.f90 0) (stL 49 [(0, .one (.s .far () 4 (v0.map GPeer.t))), (1, .one (tI v1)), (5, .one (tI v5))]) .ret (stL 49 [(4, .one (tI (-1 : Int)))]) :=
  Round.path [.val (.int .i64 (v0.length : Int)), .b true, .row (GPeer.t g0), .b false, .row (GPeer.t g0), .b true] _ (fun k => by kernel_rfl) (AV (ψ := fun _ => ((v0.map GPeer.t).length : Int) = (v0.length : Int)) (Ev.c lenMap) <| AC h0 <| AV (ψ := fun _ => 0 ≤ v5 ∧ (v0.map GPeer.t)[v5.toNat]? = some (GPeer.t g0)) (Ev.c (getRow h1)) <| AC h2 <| AV (ψ := fun _ => 0 ≤ v5 ∧ (v0.map GPeer.t)[v5.toNat]? = some (GPeer.t g0)) (Ev.c (getRow h1)) <| AC h3 <| AN)
theorem l_heldPeerS_R0_2 (v0 : List GPeer) (v1 : Int) (v5 : Int) (g0 : GPeer) (h0 : (decide (v5 < (v0.length : Int))) = true) (h1 : getI v0 v5 = some g0) (h2 : (g0.f0 != v1) = false) (h3 : (g0.f1 != (inc v1)) = false) (h4 : (g0.f2 != (inc (inc v1))) = true) : Round E 90 (lpAt Try.f90 0) (stL 49 [(0, .one (.s .far () 4 (v0.map GPeer.t))), (1, .one (tI v1)), (5, .one (tI v5))]) .ret (stL 49 [(4, .one (tI (-1 : Int)))]) :=
  Round.path [.val (.int .i64 (v0.length : Int)), .b true, .row (GPeer.t g0), .b false, .row (GPeer.t g0), .b false, .row (GPeer.t g0), .b true] _ (fun k => by kernel_rfl) (AV (ψ := fun _ => ((v0.map GPeer.t).length : Int) = (v0.length : Int)) (Ev.c lenMap) <| AC h0 <| AV (ψ := fun _ => 0 ≤ v5 ∧ (v0.map GPeer.t)[v5.toNat]? = some (GPeer.t g0)) (Ev.c (getRow h1)) <| AC h2 <| AV (ψ := fun _ => 0 ≤ v5 ∧ (v0.map GPeer.t)[v5.toNat]? = some (GPeer.t g0)) (Ev.c (getRow h1)) <| AC h3 <| AV (ψ := fun _ => 0 ≤ v5 ∧ (v0.map GPeer.t)[v5.toNat]? = some (GPeer.t g0)) (Ev.c (getRow h1)) <| AC h4 <| AN)
theorem l_heldPeerS_R0_3 (v0 : List GPeer) (v1 : Int) (v5 : Int) (g0 : GPeer) (h0 : (decide (v5 < (v0.length : Int))) = true) (h1 : getI v0 v5 = some g0) (h2 : (g0.f0 != v1) = false) (h3 : (g0.f1 != (inc v1)) = false) (h4 : (g0.f2 != (inc (inc v1))) = false) (h5 : (g0.f3 != (inc (inc (inc v1)))) = true) : Round E 90 (lpAt Try.f90 0) (stL 49 [(0, .one (.s .far () 4 (v0.map GPeer.t))), (1, .one (tI v1)), (5, .one (tI v5))]) .ret (stL 49 [(4, .one (tI (-1 : Int)))]) :=
  Round.path [.val (.int .i64 (v0.length : Int)), .b true, .row (GPeer.t g0), .b false, .row (GPeer.t g0), .b false, .row (GPeer.t g0), .b false, .row (GPeer.t g0), .b true] _ (fun k => by kernel_rfl) (AV (ψ := fun _ => ((v0.map GPeer.t).length : Int) = (v0.length : Int)) (Ev.c lenMap) <| AC h0 <| AV (ψ := fun _ => 0 ≤ v5 ∧ (v0.map GPeer.t)[v5.toNat]? = some (GPeer.t g0)) (Ev.c (getRow h1)) <| AC h2 <| AV (ψ := fun _ => 0 ≤ v5 ∧ (v0.map GPeer.t)[v5.toNat]? = some (GPeer.t g0)) (Ev.c (getRow h1)) <| AC h3 <| AV (ψ := fun _ => 0 ≤ v5 ∧ (v0.map GPeer.t)[v5.toNat]? = some (GPeer.t g0)) (Ev.c (getRow h1)) <| AC h4 <| AV (ψ := fun _ => 0 ≤ v5 ∧ (v0.map GPeer.t)[v5.toNat]? = some (GPeer.t g0)) (Ev.c (getRow h1)) <| AC h5 <| AN)
theorem l_heldPeerS_R0_4 (v0 : List GPeer) (v1 : Int) (v5 : Int) (g0 : GPeer) (h0 : (decide (v5 < (v0.length : Int))) = true) (h1 : getI v0 v5 = some g0) (h2 : (g0.f0 != v1) = false) (h3 : (g0.f1 != (inc v1)) = false) (h4 : (g0.f2 != (inc (inc v1))) = false) (h5 : (g0.f3 != (inc (inc (inc v1)))) = false) : Round E 90 (lpAt Try.f90 0) (stL 49 [(0, .one (.s .far () 4 (v0.map GPeer.t))), (1, .one (tI v1)), (5, .one (tI v5))]) .normal (stL 49 [(0, .one (.s .far () 4 (v0.map GPeer.t))), (1, .one (tI (inc (inc (inc (inc v1)))))), (5, .one (tI (inc v5)))]) :=
  Round.path [.val (.int .i64 (v0.length : Int)), .b true, .row (GPeer.t g0), .b false, .row (GPeer.t g0), .b false, .row (GPeer.t g0), .b false, .row (GPeer.t g0), .b false] _ (fun k => by kernel_rfl) (AV (ψ := fun _ => ((v0.map GPeer.t).length : Int) = (v0.length : Int)) (Ev.c lenMap) <| AC h0 <| AV (ψ := fun _ => 0 ≤ v5 ∧ (v0.map GPeer.t)[v5.toNat]? = some (GPeer.t g0)) (Ev.c (getRow h1)) <| AC h2 <| AV (ψ := fun _ => 0 ≤ v5 ∧ (v0.map GPeer.t)[v5.toNat]? = some (GPeer.t g0)) (Ev.c (getRow h1)) <| AC h3 <| AV (ψ := fun _ => 0 ≤ v5 ∧ (v0.map GPeer.t)[v5.toNat]? = some (GPeer.t g0)) (Ev.c (getRow h1)) <| AC h4 <| AV (ψ := fun _ => 0 ≤ v5 ∧ (v0.map GPeer.t)[v5.toNat]? = some (GPeer.t g0)) (Ev.c (getRow h1)) <| AC h5 <| AN)
theorem l_heldPeerS_R0_5 (v0 : List GPeer) (v1 : Int) (v5 : Int) (h0 : (decide (v5 < (v0.length : Int))) = false) : Round E 90 (lpAt Try.f90 0) (stL 49 [(0, .one (.s .far () 4 (v0.map GPeer.t))), (1, .one (tI v1)), (5, .one (tI v5))]) (.exit 0) (stL 49 [(1, .one (tI v1))]) :=
  Round.path [.val (.int .i64 (v0.length : Int)), .b false] _ (fun k => by kernel_rfl) (AV (ψ := fun _ => ((v0.map GPeer.t).length : Int) = (v0.length : Int)) (Ev.c lenMap) <| AC h0 <| AN)
noncomputable def l_heldPeerS_l0  : List GPeer → Nat → Int → Option l_heldPeerS_X0
  | [], i, v1 => some (.x0 v1)
  | hd :: rest, i, v1 => cond (hd.f0 != v1)
    (some (.ret (-1 : Int)))
    (cond (hd.f1 != (inc v1))
      (some (.ret (-1 : Int)))
      (cond (hd.f2 != (inc (inc v1)))
        (some (.ret (-1 : Int)))
        (cond (hd.f3 != (inc (inc (inc v1))))
          (some (.ret (-1 : Int)))
          (l_heldPeerS_l0 rest (i + 1) (inc (inc (inc (inc v1))))))))
theorem l_heldPeerS_L0 (v0 : List GPeer) (rest : List GPeer) : ∀ (i : Nat) (v1 : Int), (v0).drop i = rest → v0.length ≤ 9223372036854775807 → Ans (l_heldPeerS_l0 rest i v1) (l_heldPeerS_Q0 v0 v1 (i : Int)) := by
  induction rest with
  | nil =>
    intro i v1 hE hl
    have hb := foldEnd hE
    unfold l_heldPeerS_l0
    exact Ans.some (Loops.stop (l_heldPeerS_R0_5 v0 v1 (i : Int) hb) (by intro h; cases h))
  | cons hd rest ih =>
    intro i v1 hE hl
    have hb := foldMore hE
    have hw := foldNext hE hl
    have hE2 := foldRest hE
    have hg := foldGet hE
    unfold l_heldPeerS_l0
    refine Ans.ite (fun h2 => ?_) (fun h2 => ?_)
    · exact Ans.some (Loops.stop (l_heldPeerS_R0_0 v0 v1 (i : Int) hd hb hg h2) (by intro h; cases h))
    · refine Ans.ite (fun h3 => ?_) (fun h3 => ?_)
      · exact Ans.some (Loops.stop (l_heldPeerS_R0_1 v0 v1 (i : Int) hd hb hg h2 h3) (by intro h; cases h))
      · refine Ans.ite (fun h4 => ?_) (fun h4 => ?_)
        · exact Ans.some (Loops.stop (l_heldPeerS_R0_2 v0 v1 (i : Int) hd hb hg h2 h3 h4) (by intro h; cases h))
        · refine Ans.ite (fun h5 => ?_) (fun h5 => ?_)
          · exact Ans.some (Loops.stop (l_heldPeerS_R0_3 v0 v1 (i : Int) hd hb hg h2 h3 h4 h5) (by intro h; cases h))
          · exact (ih (i + 1) (inc (inc (inc (inc v1)))) hE2 hl).mono fun y hy => by have r := l_heldPeerS_R0_4 v0 v1 (i : Int) hd hb hg h2 h3 h4 h5; rw [hw] at r; cases y <;> exact Loops.next r hy
theorem l_heldPeerS_P0 (x0 : List GPeer) (x1 : Int) (w0_4 : Int) (h0 : Loops E 90 (lpAt Try.f90 0) (stL 49 [(0, .one (.s .far () 4 (x0.map GPeer.t))), (1, .one (tI x1)), (5, .one (tI (0 : Int)))]) .ret (stL 49 [(4, .one (tI w0_4))])) : Does E 90 [.one (.s .far () 4 (x0.map GPeer.t)), .one (tI x1)] [(false, [tI w0_4])] :=
  Does.path (fn := Try.f90) [.lp .ret (stL 49 [(4, .one (tI w0_4))])] _ rfl (fun _ => rfl) (fun k => by kernel_rfl) (AV (ψ := fun k => LoopK E 90 (lpAt Try.f90 0) (stL 49 [(0, .one (.s .far () 4 (x0.map GPeer.t))), (1, .one (tI x1)), (5, .one (tI (0 : Int)))]) .ret (stL 49 [(4, .one (tI w0_4))]) k k) (Loops.ev h0) <| AN)
theorem l_heldPeerS_P1 (x0 : List GPeer) (x1 : Int) (w0_1 : Int) (h0 : Loops E 90 (lpAt Try.f90 0) (stL 49 [(0, .one (.s .far () 4 (x0.map GPeer.t))), (1, .one (tI x1)), (5, .one (tI (0 : Int)))]) (.exit 0) (stL 49 [(1, .one (tI w0_1))])) : Does E 90 [.one (.s .far () 4 (x0.map GPeer.t)), .one (tI x1)] [(false, [tI w0_1])] :=
  Does.path (fn := Try.f90) [.lp (.exit 0) (stL 49 [(1, .one (tI w0_1))])] _ rfl (fun _ => rfl) (fun k => by kernel_rfl) (AV (ψ := fun k => LoopK E 90 (lpAt Try.f90 0) (stL 49 [(0, .one (.s .far () 4 (x0.map GPeer.t))), (1, .one (tI x1)), (5, .one (tI (0 : Int)))]) (.exit 0) (stL 49 [(1, .one (tI w0_1))]) k k) (Loops.ev h0) <| AN)
noncomputable def l_heldPeerS_F (x0 : List GPeer) (x1 : Int) : Option (Int) :=
    if x0.length ≤ 9223372036854775807 then (l_heldPeerS_l0 x0 0 x1).bind fun y => match y with
      | .ret w0_4 => (some (w0_4))
      | .x0 w0_1 => (some (w0_1)) else none
theorem l_heldPeerS_D (x0 : List GPeer) (x1 : Int) : Ans (l_heldPeerS_F x0 x1) (fun r => Does E 90 [.one (.s .far () 4 (x0.map GPeer.t)), .one (tI x1)] [(false, [tI r])]) := by
  unfold l_heldPeerS_F
  refine Ans.pre (fun hl1 => ?_)
  refine Ans.bind (fun y hy => ?_)
  replace hy := l_heldPeerS_L0 x0 x0 0 x1 rfl hl1 y hy
  cases y with
  | ret w0_4 =>
    have h0 := hy
    exact Ans.some (l_heldPeerS_P0 x0 x1 w0_4 h0)
  | x0 w0_1 =>
    have h0 := hy
    exact Ans.some (l_heldPeerS_P1 x0 x1 w0_1 h0)
noncomputable def p_l_markPeerS (x : List GPeer) (k : Int) : (List GPeer) × Int := (l_markPeerS_F x k).getD ([], 0)
noncomputable def p_l_heldPeerS (x : List GPeer) (k : Int) : Int := (l_heldPeerS_F x k).getD (-1)
theorem T_l_markPeerS (x0 : List GPeer) (x1 : Int) (h : l_markPeerS_F x0 x1 = some (p_l_markPeerS x0 x1)) : Does E 76 [.one (.s .own () 4 (x0.map GPeer.t)), .one (tI x1)] [(false, [.s .own () 4 (((p_l_markPeerS x0 x1).1).map GPeer.t)]), (false, [tI ((p_l_markPeerS x0 x1).2)])] := by
  exact l_markPeerS_D x0 x1 _ h
theorem T_l_heldPeerS (x0 : List GPeer) (x1 : Int) (h : l_heldPeerS_F x0 x1 = some (p_l_heldPeerS x0 x1)) : Does E 90 [.one (.s .far () 4 (x0.map GPeer.t)), .one (tI x1)] [(false, [tI (p_l_heldPeerS x0 x1)])] := by
  exact l_heldPeerS_D x0 x1 _ h
theorem mk_l_markPeerS : ∀ (rest done : List GPeer) (i : Nat) (k : Int), (∀ y ∈ rest, Small.sm y) → 0 ≤ k → k + 4 * (rest.length : Int) ≤ 4611686018427387904 →
    ∃ new m, l_markPeerS_l0 rest done i k = some (.x0 (done ++ new) m) ∧ k ≤ m ∧ m ≤ k + 4 * (rest.length : Int) ∧ new.length = rest.length ∧ (∀ y ∈ new, Small.sm y) ∧ ∀ j, l_heldPeerS_l0 new j k = some (.x0 m)
  | [], done, i, k, _, h0, _ => ⟨[], k, by unfold l_markPeerS_l0; rw [List.append_nil], by omega, by simp, rfl, fun y hy => (by cases hy), fun j => rfl⟩
  | x :: rest, done, i, k, h, h0, h1 => by
    have hx := h x (by simp)
    rw [List.length_cons] at h1 ⊢
    have w1 : inc k = k + 1 := inc_id _ (by omega) (by omega)
    have w2 : inc (k + 1) = (k + 1) + 1 := inc_id _ (by omega) (by omega)
    have w3 : inc ((k + 1) + 1) = ((k + 1) + 1) + 1 := inc_id _ (by omega) (by omega)
    have w4 : inc (((k + 1) + 1) + 1) = (((k + 1) + 1) + 1) + 1 := inc_id _ (by omega) (by omega)
    obtain ⟨new, m, g1, g2, g3, g4, g5, g6⟩ := mk_l_markPeerS rest (done ++ [(GPeer.mk k (k + 1) ((k + 1) + 1) (((k + 1) + 1) + 1))]) (i + 1) ((((k + 1) + 1) + 1) + 1) (fun y hy => h y (by simp [hy])) (by omega) (by omega)
    refine ⟨(GPeer.mk k (k + 1) ((k + 1) + 1) (((k + 1) + 1) + 1)) :: new, m, ?_, by omega, by omega, by simp [g4], ?_, fun j => ?_⟩
    · unfold l_markPeerS_l0
      simp only [w1, w2, w3, w4, if_true, g1, List.append_assoc, List.singleton_append]
    · intro y hy
      rcases List.mem_cons.1 hy with rfl | hy
      · exact trivial
      · exact g5 y hy
    · unfold l_heldPeerS_l0
      simp only [w1, w2, w3, w4, if_true, bne_self_eq_false, BEq.rfl, Bool.not_true, cond_false, cond_true, g6]
theorem ok_l_markPeerS (l : List GPeer) (k : Int) (h : Small.sm l) (h0 : 0 ≤ k) (h1 : k + 4200000 ≤ 4611686018427387904) : l_markPeerS_F l k = some (p_l_markPeerS l k) ∧ l_heldPeerS_F (p_l_markPeerS l k).1 k = some (p_l_heldPeerS (p_l_markPeerS l k).1 k) ∧ p_l_heldPeerS (p_l_markPeerS l k).1 k = (p_l_markPeerS l k).2 ∧ k ≤ (p_l_markPeerS l k).2 ∧ (p_l_markPeerS l k).2 ≤ k + 4200000 ∧ Small.sm (p_l_markPeerS l k).1 := by
  have hl := h.1
  obtain ⟨new, m, g1, g2, g3, g4, g5, g6⟩ := mk_l_markPeerS l [] 0 k h.2 h0 (by omega)
  have e : l_markPeerS_F l k = some (new, m) := by unfold l_markPeerS_F; rw [if_pos (sm_wf_len h), g1]; rfl
  have p : p_l_markPeerS l k = (new, m) := by unfold p_l_markPeerS; rw [e]; rfl
  have e2 : l_heldPeerS_F new k = some m := by unfold l_heldPeerS_F; rw [if_pos (by omega), g6]; rfl
  have p2 : p_l_heldPeerS new k = m := by unfold p_l_heldPeerS; rw [e2]; rfl
  rw [p, p2]
  exact ⟨e, e2, rfl, g2, by omega, ⟨by show new.length ≤ 1050000; omega, g5⟩⟩
theorem l_markNode_P0 (x0 : GNode) (x1 : Int) (h0 : l_markIntS_F x0.f5 x1 = some (p_l_markIntS x0.f5 x1)) (h1 : l_markLog_F x0.f6 ((p_l_markIntS x0.f5 x1).2) = some (p_l_markLog x0.f6 ((p_l_markIntS x0.f5 x1).2))) (h2 : l_markIntS_F x0.f10 ((p_l_markLog x0.f6 ((p_l_markIntS x0.f5 x1).2)).2) = some (p_l_markIntS x0.f10 ((p_l_markLog x0.f6 ((p_l_markIntS x0.f5 x1).2)).2))) (h3 : l_markPeerS_F x0.f11 ((p_l_markIntS x0.f10 ((p_l_markLog x0.f6 ((p_l_markIntS x0.f5 x1).2)).2)).2) = some (p_l_markPeerS x0.f11 ((p_l_markIntS x0.f10 ((p_l_markLog x0.f6 ((p_l_markIntS x0.f5 x1).2)).2)).2))) : Does E 19 [.agg (GNode.t .own x0), .one (tI x1)] [(true, GNode.t .own (GNode.mk x0.f0 x0.f1 x0.f2 x0.f3 x0.f4 ((p_l_markIntS x0.f5 x1).1) (GLog.mk x0.f6.f0 x0.f6.f1 (((p_l_markLog x0.f6 ((p_l_markIntS x0.f5 x1).2)).1).f2)) x0.f7 x0.f8 x0.f9 ((p_l_markIntS x0.f10 ((p_l_markLog x0.f6 ((p_l_markIntS x0.f5 x1).2)).2)).1) ((p_l_markPeerS x0.f11 ((p_l_markIntS x0.f10 ((p_l_markLog x0.f6 ((p_l_markIntS x0.f5 x1).2)).2)).2)).1))), (false, [tI ((p_l_markPeerS x0.f11 ((p_l_markIntS x0.f10 ((p_l_markLog x0.f6 ((p_l_markIntS x0.f5 x1).2)).2)).2)).2)])] :=
  Does.path (fn := Try.f19) [.ret [(false, [.s .own () 1 (((p_l_markIntS x0.f5 x1).1).map etI)]), (false, [tI ((p_l_markIntS x0.f5 x1).2)])], .ret [(true, GLog.t .own ((p_l_markLog x0.f6 ((p_l_markIntS x0.f5 x1).2)).1)), (false, [tI ((p_l_markLog x0.f6 ((p_l_markIntS x0.f5 x1).2)).2)])], .ret [(false, [.s .own () 1 (((p_l_markIntS x0.f10 ((p_l_markLog x0.f6 ((p_l_markIntS x0.f5 x1).2)).2)).1).map etI)]), (false, [tI ((p_l_markIntS x0.f10 ((p_l_markLog x0.f6 ((p_l_markIntS x0.f5 x1).2)).2)).2)])], .ret [(false, [.s .own () 4 (((p_l_markPeerS x0.f11 ((p_l_markIntS x0.f10 ((p_l_markLog x0.f6 ((p_l_markIntS x0.f5 x1).2)).2)).2)).1).map GPeer.t)]), (false, [tI ((p_l_markPeerS x0.f11 ((p_l_markIntS x0.f10 ((p_l_markLog x0.f6 ((p_l_markIntS x0.f5 x1).2)).2)).2)).2)])]] _ rfl (fun _ => rfl) (fun k => by kernel_rfl) (AV (ψ := fun k => E.C k 20 [.one (.s .own () 1 (x0.f5.map etI)), .one (tI x1)] = some [(false, [.s .own () 1 (((p_l_markIntS x0.f5 x1).1).map etI)]), (false, [tI ((p_l_markIntS x0.f5 x1).2)])]) (T_l_markIntS x0.f5 x1 h0) <| AV (ψ := fun k => E.C k 75 [.agg (GLog.t .own x0.f6), .one (tI ((p_l_markIntS x0.f5 x1).2))] = some [(true, GLog.t .own ((p_l_markLog x0.f6 ((p_l_markIntS x0.f5 x1).2)).1)), (false, [tI ((p_l_markLog x0.f6 ((p_l_markIntS x0.f5 x1).2)).2)])]) (T_l_markLog x0.f6 ((p_l_markIntS x0.f5 x1).2) h1) <| AV (ψ := fun k => E.C k 20 [.one (.s .own () 1 (x0.f10.map etI)), .one (tI ((p_l_markLog x0.f6 ((p_l_markIntS x0.f5 x1).2)).2))] = some [(false, [.s .own () 1 (((p_l_markIntS x0.f10 ((p_l_markLog x0.f6 ((p_l_markIntS x0.f5 x1).2)).2)).1).map etI)]), (false, [tI ((p_l_markIntS x0.f10 ((p_l_markLog x0.f6 ((p_l_markIntS x0.f5 x1).2)).2)).2)])]) (T_l_markIntS x0.f10 ((p_l_markLog x0.f6 ((p_l_markIntS x0.f5 x1).2)).2) h2) <| AV (ψ := fun k => E.C k 76 [.one (.s .own () 4 (x0.f11.map GPeer.t)), .one (tI ((p_l_markIntS x0.f10 ((p_l_markLog x0.f6 ((p_l_markIntS x0.f5 x1).2)).2)).2))] = some [(false, [.s .own () 4 (((p_l_markPeerS x0.f11 ((p_l_markIntS x0.f10 ((p_l_markLog x0.f6 ((p_l_markIntS x0.f5 x1).2)).2)).2)).1).map GPeer.t)]), (false, [tI ((p_l_markPeerS x0.f11 ((p_l_markIntS x0.f10 ((p_l_markLog x0.f6 ((p_l_markIntS x0.f5 x1).2)).2)).2)).2)])]) (T_l_markPeerS x0.f11 ((p_l_markIntS x0.f10 ((p_l_markLog x0.f6 ((p_l_markIntS x0.f5 x1).2)).2)).2) h3) <| AN)
noncomputable def l_markNode_F (x0 : GNode) (x1 : Int) : Option (GNode × Int) :=
    if l_markIntS_F x0.f5 x1 = some (p_l_markIntS x0.f5 x1) then if l_markLog_F x0.f6 ((p_l_markIntS x0.f5 x1).2) = some (p_l_markLog x0.f6 ((p_l_markIntS x0.f5 x1).2)) then if l_markIntS_F x0.f10 ((p_l_markLog x0.f6 ((p_l_markIntS x0.f5 x1).2)).2) = some (p_l_markIntS x0.f10 ((p_l_markLog x0.f6 ((p_l_markIntS x0.f5 x1).2)).2)) then if l_markPeerS_F x0.f11 ((p_l_markIntS x0.f10 ((p_l_markLog x0.f6 ((p_l_markIntS x0.f5 x1).2)).2)).2) = some (p_l_markPeerS x0.f11 ((p_l_markIntS x0.f10 ((p_l_markLog x0.f6 ((p_l_markIntS x0.f5 x1).2)).2)).2)) then some ((GNode.mk x0.f0 x0.f1 x0.f2 x0.f3 x0.f4 ((p_l_markIntS x0.f5 x1).1) (GLog.mk x0.f6.f0 x0.f6.f1 (((p_l_markLog x0.f6 ((p_l_markIntS x0.f5 x1).2)).1).f2)) x0.f7 x0.f8 x0.f9 ((p_l_markIntS x0.f10 ((p_l_markLog x0.f6 ((p_l_markIntS x0.f5 x1).2)).2)).1) ((p_l_markPeerS x0.f11 ((p_l_markIntS x0.f10 ((p_l_markLog x0.f6 ((p_l_markIntS x0.f5 x1).2)).2)).2)).1)), (p_l_markPeerS x0.f11 ((p_l_markIntS x0.f10 ((p_l_markLog x0.f6 ((p_l_markIntS x0.f5 x1).2)).2)).2)).2) else none else none else none else none
theorem l_markNode_D (x0 : GNode) (x1 : Int) : Ans (l_markNode_F x0 x1) (fun r => Does E 19 [.agg (GNode.t .own x0), .one (tI x1)] [(true, GNode.t .own r.1), (false, [tI r.2])]) := by
  unfold l_markNode_F
  refine Ans.pre (fun h0 => ?_)
  refine Ans.pre (fun h1 => ?_)
  refine Ans.pre (fun h2 => ?_)
  refine Ans.pre (fun h3 => ?_)
  exact Ans.some (l_markNode_P0 x0 x1 h0 h1 h2 h3)
theorem l_heldNode_P0 (x0 : GNode) (x1 : Int) (h0 : l_heldIntS_F x0.f5 x1 = some (p_l_heldIntS x0.f5 x1)) (h1 : (decide ((p_l_heldIntS x0.f5 x1) < (0 : Int))) = true) : Does E 27 [.agg (GNode.t .far x0), .one (tI x1)] [(false, [tI (-1 : Int)])] :=
  Does.path (fn := Try.f27) [.ret [(false, [tI (p_l_heldIntS x0.f5 x1)])], .b true] _ rfl (fun _ => rfl) (fun k => by kernel_rfl) (AD (T_l_heldIntS x0.f5 x1 h0) <| AC h1 <| AN)
theorem l_heldNode_P1 (x0 : GNode) (x1 : Int) (h0 : l_heldIntS_F x0.f5 x1 = some (p_l_heldIntS x0.f5 x1)) (h1 : (decide ((p_l_heldIntS x0.f5 x1) < (0 : Int))) = false) (h2 : l_heldLog_F x0.f6 (p_l_heldIntS x0.f5 x1) = some (p_l_heldLog x0.f6 (p_l_heldIntS x0.f5 x1))) (h3 : (decide ((p_l_heldLog x0.f6 (p_l_heldIntS x0.f5 x1)) < (0 : Int))) = true) : Does E 27 [.agg (GNode.t .far x0), .one (tI x1)] [(false, [tI (-1 : Int)])] :=
  Does.path (fn := Try.f27) [.ret [(false, [tI (p_l_heldIntS x0.f5 x1)])], .b false, .ret [(false, [tI (p_l_heldLog x0.f6 (p_l_heldIntS x0.f5 x1))])], .b true] _ rfl (fun _ => rfl) (fun k => by kernel_rfl) (AD (T_l_heldIntS x0.f5 x1 h0) <| AC h1 <| AD (T_l_heldLog x0.f6 (p_l_heldIntS x0.f5 x1) h2) <| AC h3 <| AN)
theorem l_heldNode_P2 (x0 : GNode) (x1 : Int) (h0 : l_heldIntS_F x0.f5 x1 = some (p_l_heldIntS x0.f5 x1)) (h1 : (decide ((p_l_heldIntS x0.f5 x1) < (0 : Int))) = false) (h2 : l_heldLog_F x0.f6 (p_l_heldIntS x0.f5 x1) = some (p_l_heldLog x0.f6 (p_l_heldIntS x0.f5 x1))) (h3 : (decide ((p_l_heldLog x0.f6 (p_l_heldIntS x0.f5 x1)) < (0 : Int))) = false) (h4 : l_heldIntS_F x0.f10 (p_l_heldLog x0.f6 (p_l_heldIntS x0.f5 x1)) = some (p_l_heldIntS x0.f10 (p_l_heldLog x0.f6 (p_l_heldIntS x0.f5 x1)))) (h5 : (decide ((p_l_heldIntS x0.f10 (p_l_heldLog x0.f6 (p_l_heldIntS x0.f5 x1))) < (0 : Int))) = true) : Does E 27 [.agg (GNode.t .far x0), .one (tI x1)] [(false, [tI (-1 : Int)])] :=
  Does.path (fn := Try.f27) [.ret [(false, [tI (p_l_heldIntS x0.f5 x1)])], .b false, .ret [(false, [tI (p_l_heldLog x0.f6 (p_l_heldIntS x0.f5 x1))])], .b false, .ret [(false, [tI (p_l_heldIntS x0.f10 (p_l_heldLog x0.f6 (p_l_heldIntS x0.f5 x1)))])], .b true] _ rfl (fun _ => rfl) (fun k => by kernel_rfl) (AD (T_l_heldIntS x0.f5 x1 h0) <| AC h1 <| AD (T_l_heldLog x0.f6 (p_l_heldIntS x0.f5 x1) h2) <| AC h3 <| AD (T_l_heldIntS x0.f10 (p_l_heldLog x0.f6 (p_l_heldIntS x0.f5 x1)) h4) <| AC h5 <| AN)
theorem l_heldNode_P3 (x0 : GNode) (x1 : Int) (h0 : l_heldIntS_F x0.f5 x1 = some (p_l_heldIntS x0.f5 x1)) (h1 : (decide ((p_l_heldIntS x0.f5 x1) < (0 : Int))) = false) (h2 : l_heldLog_F x0.f6 (p_l_heldIntS x0.f5 x1) = some (p_l_heldLog x0.f6 (p_l_heldIntS x0.f5 x1))) (h3 : (decide ((p_l_heldLog x0.f6 (p_l_heldIntS x0.f5 x1)) < (0 : Int))) = false) (h4 : l_heldIntS_F x0.f10 (p_l_heldLog x0.f6 (p_l_heldIntS x0.f5 x1)) = some (p_l_heldIntS x0.f10 (p_l_heldLog x0.f6 (p_l_heldIntS x0.f5 x1)))) (h5 : (decide ((p_l_heldIntS x0.f10 (p_l_heldLog x0.f6 (p_l_heldIntS x0.f5 x1))) < (0 : Int))) = false) (h6 : l_heldPeerS_F x0.f11 (p_l_heldIntS x0.f10 (p_l_heldLog x0.f6 (p_l_heldIntS x0.f5 x1))) = some (p_l_heldPeerS x0.f11 (p_l_heldIntS x0.f10 (p_l_heldLog x0.f6 (p_l_heldIntS x0.f5 x1))))) (h7 : (decide ((p_l_heldPeerS x0.f11 (p_l_heldIntS x0.f10 (p_l_heldLog x0.f6 (p_l_heldIntS x0.f5 x1)))) < (0 : Int))) = true) : Does E 27 [.agg (GNode.t .far x0), .one (tI x1)] [(false, [tI (-1 : Int)])] :=
  Does.path (fn := Try.f27) [.ret [(false, [tI (p_l_heldIntS x0.f5 x1)])], .b false, .ret [(false, [tI (p_l_heldLog x0.f6 (p_l_heldIntS x0.f5 x1))])], .b false, .ret [(false, [tI (p_l_heldIntS x0.f10 (p_l_heldLog x0.f6 (p_l_heldIntS x0.f5 x1)))])], .b false, .ret [(false, [tI (p_l_heldPeerS x0.f11 (p_l_heldIntS x0.f10 (p_l_heldLog x0.f6 (p_l_heldIntS x0.f5 x1))))])], .b true] _ rfl (fun _ => rfl) (fun k => by kernel_rfl) (AD (T_l_heldIntS x0.f5 x1 h0) <| AC h1 <| AD (T_l_heldLog x0.f6 (p_l_heldIntS x0.f5 x1) h2) <| AC h3 <| AD (T_l_heldIntS x0.f10 (p_l_heldLog x0.f6 (p_l_heldIntS x0.f5 x1)) h4) <| AC h5 <| AD (T_l_heldPeerS x0.f11 (p_l_heldIntS x0.f10 (p_l_heldLog x0.f6 (p_l_heldIntS x0.f5 x1))) h6) <| AC h7 <| AN)
theorem l_heldNode_P4 (x0 : GNode) (x1 : Int) (h0 : l_heldIntS_F x0.f5 x1 = some (p_l_heldIntS x0.f5 x1)) (h1 : (decide ((p_l_heldIntS x0.f5 x1) < (0 : Int))) = false) (h2 : l_heldLog_F x0.f6 (p_l_heldIntS x0.f5 x1) = some (p_l_heldLog x0.f6 (p_l_heldIntS x0.f5 x1))) (h3 : (decide ((p_l_heldLog x0.f6 (p_l_heldIntS x0.f5 x1)) < (0 : Int))) = false) (h4 : l_heldIntS_F x0.f10 (p_l_heldLog x0.f6 (p_l_heldIntS x0.f5 x1)) = some (p_l_heldIntS x0.f10 (p_l_heldLog x0.f6 (p_l_heldIntS x0.f5 x1)))) (h5 : (decide ((p_l_heldIntS x0.f10 (p_l_heldLog x0.f6 (p_l_heldIntS x0.f5 x1))) < (0 : Int))) = false) (h6 : l_heldPeerS_F x0.f11 (p_l_heldIntS x0.f10 (p_l_heldLog x0.f6 (p_l_heldIntS x0.f5 x1))) = some (p_l_heldPeerS x0.f11 (p_l_heldIntS x0.f10 (p_l_heldLog x0.f6 (p_l_heldIntS x0.f5 x1))))) (h7 : (decide ((p_l_heldPeerS x0.f11 (p_l_heldIntS x0.f10 (p_l_heldLog x0.f6 (p_l_heldIntS x0.f5 x1)))) < (0 : Int))) = false) : Does E 27 [.agg (GNode.t .far x0), .one (tI x1)] [(false, [tI (p_l_heldPeerS x0.f11 (p_l_heldIntS x0.f10 (p_l_heldLog x0.f6 (p_l_heldIntS x0.f5 x1))))])] :=
  Does.path (fn := Try.f27) [.ret [(false, [tI (p_l_heldIntS x0.f5 x1)])], .b false, .ret [(false, [tI (p_l_heldLog x0.f6 (p_l_heldIntS x0.f5 x1))])], .b false, .ret [(false, [tI (p_l_heldIntS x0.f10 (p_l_heldLog x0.f6 (p_l_heldIntS x0.f5 x1)))])], .b false, .ret [(false, [tI (p_l_heldPeerS x0.f11 (p_l_heldIntS x0.f10 (p_l_heldLog x0.f6 (p_l_heldIntS x0.f5 x1))))])], .b false] _ rfl (fun _ => rfl) (fun k => by kernel_rfl) (AD (T_l_heldIntS x0.f5 x1 h0) <| AC h1 <| AD (T_l_heldLog x0.f6 (p_l_heldIntS x0.f5 x1) h2) <| AC h3 <| AD (T_l_heldIntS x0.f10 (p_l_heldLog x0.f6 (p_l_heldIntS x0.f5 x1)) h4) <| AC h5 <| AD (T_l_heldPeerS x0.f11 (p_l_heldIntS x0.f10 (p_l_heldLog x0.f6 (p_l_heldIntS x0.f5 x1))) h6) <| AC h7 <| AN)
noncomputable def l_heldNode_F (x0 : GNode) (x1 : Int) : Option (Int) :=
    if l_heldIntS_F x0.f5 x1 = some (p_l_heldIntS x0.f5 x1) then cond (decide ((p_l_heldIntS x0.f5 x1) < (0 : Int)))
      (some ((-1 : Int)))
      (if l_heldLog_F x0.f6 (p_l_heldIntS x0.f5 x1) = some (p_l_heldLog x0.f6 (p_l_heldIntS x0.f5 x1)) then cond (decide ((p_l_heldLog x0.f6 (p_l_heldIntS x0.f5 x1)) < (0 : Int)))
        (some ((-1 : Int)))
        (if l_heldIntS_F x0.f10 (p_l_heldLog x0.f6 (p_l_heldIntS x0.f5 x1)) = some (p_l_heldIntS x0.f10 (p_l_heldLog x0.f6 (p_l_heldIntS x0.f5 x1))) then cond (decide ((p_l_heldIntS x0.f10 (p_l_heldLog x0.f6 (p_l_heldIntS x0.f5 x1))) < (0 : Int)))
          (some ((-1 : Int)))
          (if l_heldPeerS_F x0.f11 (p_l_heldIntS x0.f10 (p_l_heldLog x0.f6 (p_l_heldIntS x0.f5 x1))) = some (p_l_heldPeerS x0.f11 (p_l_heldIntS x0.f10 (p_l_heldLog x0.f6 (p_l_heldIntS x0.f5 x1)))) then cond (decide ((p_l_heldPeerS x0.f11 (p_l_heldIntS x0.f10 (p_l_heldLog x0.f6 (p_l_heldIntS x0.f5 x1)))) < (0 : Int)))
            (some ((-1 : Int)))
            (some (p_l_heldPeerS x0.f11 (p_l_heldIntS x0.f10 (p_l_heldLog x0.f6 (p_l_heldIntS x0.f5 x1))))) else none) else none) else none) else none
theorem l_heldNode_D (x0 : GNode) (x1 : Int) : Ans (l_heldNode_F x0 x1) (fun r => Does E 27 [.agg (GNode.t .far x0), .one (tI x1)] [(false, [tI r])]) := by
  unfold l_heldNode_F
  refine Ans.pre (fun h0 => ?_)
  refine Ans.ite (fun h1 => ?_) (fun h1 => ?_)
  · exact Ans.some (l_heldNode_P0 x0 x1 h0 h1)
  · refine Ans.pre (fun h2 => ?_)
    refine Ans.ite (fun h3 => ?_) (fun h3 => ?_)
    · exact Ans.some (l_heldNode_P1 x0 x1 h0 h1 h2 h3)
    · refine Ans.pre (fun h4 => ?_)
      refine Ans.ite (fun h5 => ?_) (fun h5 => ?_)
      · exact Ans.some (l_heldNode_P2 x0 x1 h0 h1 h2 h3 h4 h5)
      · refine Ans.pre (fun h6 => ?_)
        refine Ans.ite (fun h7 => ?_) (fun h7 => ?_)
        · exact Ans.some (l_heldNode_P3 x0 x1 h0 h1 h2 h3 h4 h5 h6 h7)
        · exact Ans.some (l_heldNode_P4 x0 x1 h0 h1 h2 h3 h4 h5 h6 h7)
noncomputable def p_l_markNode (x : GNode) (k : Int) : GNode × Int := (l_markNode_F x k).getD (x, 0)
noncomputable def p_l_heldNode (x : GNode) (k : Int) : Int := (l_heldNode_F x k).getD (-1)
theorem T_l_markNode (x0 : GNode) (x1 : Int) (h : l_markNode_F x0 x1 = some (p_l_markNode x0 x1)) : Does E 19 [.agg (GNode.t .own x0), .one (tI x1)] [(true, GNode.t .own ((p_l_markNode x0 x1).1)), (false, [tI ((p_l_markNode x0 x1).2)])] := by
  exact l_markNode_D x0 x1 _ h
theorem T_l_heldNode (x0 : GNode) (x1 : Int) (h : l_heldNode_F x0 x1 = some (p_l_heldNode x0 x1)) : Does E 27 [.agg (GNode.t .far x0), .one (tI x1)] [(false, [tI (p_l_heldNode x0 x1)])] := by
  exact l_heldNode_D x0 x1 _ h
theorem ok_l_markNode (x : GNode) (k : Int) (h : Small.sm x) (h0 : 0 ≤ k) (h1 : k + 9450000 ≤ 4611686018427387904) : l_markNode_F x k = some (p_l_markNode x k) ∧ l_heldNode_F (p_l_markNode x k).1 k = some (p_l_heldNode (p_l_markNode x k).1 k) ∧ p_l_heldNode (p_l_markNode x k).1 k = (p_l_markNode x k).2 ∧ k ≤ (p_l_markNode x k).2 ∧ (p_l_markNode x k).2 ≤ k + 9450000 ∧ Small.sm (p_l_markNode x k).1 ∧ (GNode.mk x.f0 x.f1 x.f2 x.f3 x.f4 (((p_l_markNode x k).1).f5) (GLog.mk x.f6.f0 x.f6.f1 ((((p_l_markNode x k).1).f6).f2)) x.f7 x.f8 x.f9 (((p_l_markNode x k).1).f10) (((p_l_markNode x k).1).f11)) = (p_l_markNode x k).1 := by
  obtain ⟨hx5, hx6, hx10, hx11⟩ := h
  have a1 := ok_l_markIntS x.f5 k hx5 (by omega) (by omega)
  have d1 : decide ((p_l_markIntS x.f5 k).2 < (0 : Int)) = false := decide_eq_false (by omega)
  have a2 := ok_l_markLog x.f6 ((p_l_markIntS x.f5 k).2) hx6 (by omega) (by omega)
  have d2 : decide ((p_l_markLog x.f6 ((p_l_markIntS x.f5 k).2)).2 < (0 : Int)) = false := decide_eq_false (by omega)
  have a3 := ok_l_markIntS x.f10 ((p_l_markLog x.f6 ((p_l_markIntS x.f5 k).2)).2) hx10 (by omega) (by omega)
  have d3 : decide ((p_l_markIntS x.f10 ((p_l_markLog x.f6 ((p_l_markIntS x.f5 k).2)).2)).2 < (0 : Int)) = false := decide_eq_false (by omega)
  have a4 := ok_l_markPeerS x.f11 ((p_l_markIntS x.f10 ((p_l_markLog x.f6 ((p_l_markIntS x.f5 k).2)).2)).2) hx11 (by omega) (by omega)
  have d4 : decide ((p_l_markPeerS x.f11 ((p_l_markIntS x.f10 ((p_l_markLog x.f6 ((p_l_markIntS x.f5 k).2)).2)).2)).2 < (0 : Int)) = false := decide_eq_false (by omega)
  have e : l_markNode_F x k = some ((GNode.mk x.f0 x.f1 x.f2 x.f3 x.f4 (p_l_markIntS x.f5 k).1 (p_l_markLog x.f6 ((p_l_markIntS x.f5 k).2)).1 x.f7 x.f8 x.f9 (p_l_markIntS x.f10 ((p_l_markLog x.f6 ((p_l_markIntS x.f5 k).2)).2)).1 (p_l_markPeerS x.f11 ((p_l_markIntS x.f10 ((p_l_markLog x.f6 ((p_l_markIntS x.f5 k).2)).2)).2)).1), ((p_l_markPeerS x.f11 ((p_l_markIntS x.f10 ((p_l_markLog x.f6 ((p_l_markIntS x.f5 k).2)).2)).2)).2)) := by unfold l_markNode_F; simp only [a1.1, a1.2.1, a1.2.2.1, d1, a2.1, a2.2.1, a2.2.2.1, d2, a2.2.2.2.2.2.2, a3.1, a3.2.1, a3.2.2.1, d3, a4.1, a4.2.1, a4.2.2.1, d4, if_true]
  have p : p_l_markNode x k = ((GNode.mk x.f0 x.f1 x.f2 x.f3 x.f4 (p_l_markIntS x.f5 k).1 (p_l_markLog x.f6 ((p_l_markIntS x.f5 k).2)).1 x.f7 x.f8 x.f9 (p_l_markIntS x.f10 ((p_l_markLog x.f6 ((p_l_markIntS x.f5 k).2)).2)).1 (p_l_markPeerS x.f11 ((p_l_markIntS x.f10 ((p_l_markLog x.f6 ((p_l_markIntS x.f5 k).2)).2)).2)).1), ((p_l_markPeerS x.f11 ((p_l_markIntS x.f10 ((p_l_markLog x.f6 ((p_l_markIntS x.f5 k).2)).2)).2)).2)) := by unfold p_l_markNode; rw [e]; rfl
  have e2 : l_heldNode_F (GNode.mk x.f0 x.f1 x.f2 x.f3 x.f4 (p_l_markIntS x.f5 k).1 (p_l_markLog x.f6 ((p_l_markIntS x.f5 k).2)).1 x.f7 x.f8 x.f9 (p_l_markIntS x.f10 ((p_l_markLog x.f6 ((p_l_markIntS x.f5 k).2)).2)).1 (p_l_markPeerS x.f11 ((p_l_markIntS x.f10 ((p_l_markLog x.f6 ((p_l_markIntS x.f5 k).2)).2)).2)).1) k = some ((p_l_markPeerS x.f11 ((p_l_markIntS x.f10 ((p_l_markLog x.f6 ((p_l_markIntS x.f5 k).2)).2)).2)).2) := by unfold l_heldNode_F; simp only [a1.1, a1.2.1, a1.2.2.1, d1, a2.1, a2.2.1, a2.2.2.1, d2, a2.2.2.2.2.2.2, a3.1, a3.2.1, a3.2.2.1, d3, a4.1, a4.2.1, a4.2.2.1, d4, if_true, cond_false]
  have p2 : p_l_heldNode (GNode.mk x.f0 x.f1 x.f2 x.f3 x.f4 (p_l_markIntS x.f5 k).1 (p_l_markLog x.f6 ((p_l_markIntS x.f5 k).2)).1 x.f7 x.f8 x.f9 (p_l_markIntS x.f10 ((p_l_markLog x.f6 ((p_l_markIntS x.f5 k).2)).2)).1 (p_l_markPeerS x.f11 ((p_l_markIntS x.f10 ((p_l_markLog x.f6 ((p_l_markIntS x.f5 k).2)).2)).2)).1) k = ((p_l_markPeerS x.f11 ((p_l_markIntS x.f10 ((p_l_markLog x.f6 ((p_l_markIntS x.f5 k).2)).2)).2)).2) := by unfold p_l_heldNode; rw [e2]; rfl
  rw [p, p2]
  exact ⟨e, e2, rfl, by omega, by omega, ⟨a1.2.2.2.2.2, a2.2.2.2.2.2.1, a3.2.2.2.2.2, a4.2.2.2.2.2⟩, by first | rfl | simp only [a1.1, a1.2.1, a1.2.2.1, d1, a2.1, a2.2.1, a2.2.2.1, d2, a2.2.2.2.2.2.2, a3.1, a3.2.1, a3.2.2.1, d3, a4.1, a4.2.1, a4.2.2.1, d4, if_true]⟩
end Go.Proofs.Ytgpllfmogdpapaa.Am
