/- What the functions that mark boards do. Conditions: none. -/
import Derived.Test.YtohlonlaadmikaaBoards
namespace Go.Proofs.Ytohlonlaadmikaa.Am
set_option linter.unusedVariables false
set_option linter.unusedSimpArgs false
open Go Go.Proofs Classical
set_option maxRecDepth 100000
set_option linter.unusedVariables false
set_option linter.unusedSimpArgs false
inductive l_markText_X0 where
  | x0 (v3 : ByteArray)
def l_markText_Q0 (v0 : Int) (v3 : ByteArray) : l_markText_X0 → Prop
  | .x0 zv3 => Loops E 81 (lpAt Try.f81 0) (stL 20 [(0, .one (tI v0)), (3, .one (tS v3))]) (.exit 0) (stL 20 [(3, .one (tS zv3))])
theorem l_markText_R0_0 (v0 : Int) (v3 : ByteArray) (h0 : (decide (v0 > (0 : Int))) = true) (h1 : (strOfNums ([IntKind.wrap .u8 (IntKind.wrap .i64 ((48 : Int) + (Int.tmod v0 (10 : Int))))])).size + v3.size ≤ maxStr) : Round E 81 (lpAt Try.f81 0) (stL 20 [(0, .one (tI v0)), (3, .one (tS v3))]) .normal (stL 20 [(0, .one (tI (IntKind.wrap .i64 (Int.tdiv v0 (10 : Int))))), (3, .one (tS ((strOfNums ([IntKind.wrap .u8 (IntKind.wrap .i64 ((48 : Int) + (Int.tmod v0 (10 : Int))))])) ++ v3)))]) :=
  Round.path [.b true, .no, .no, .val (.string (strOfNums ([IntKind.wrap .u8 (IntKind.wrap .i64 ((48 : Int) + (Int.tmod v0 (10 : Int))))]))), .val (.string ((strOfNums ([IntKind.wrap .u8 (IntKind.wrap .i64 ((48 : Int) + (Int.tmod v0 (10 : Int))))])) ++ v3))] [fun _ => (decide (v0 > (0 : Int))) = true, fun _ => (numsOf (((([IntKind.wrap .u8 (IntKind.wrap .i64 ((48 : Int) + (Int.tmod v0 (10 : Int))))]).map etY).drop 0).take (([IntKind.wrap .u8 (IntKind.wrap .i64 ((48 : Int) + (Int.tmod v0 (10 : Int))))]).map etY).length)).map strOfNums = some (strOfNums ([IntKind.wrap .u8 (IntKind.wrap .i64 ((48 : Int) + (Int.tmod v0 (10 : Int))))])), fun _ => binV E.tab .add 9 (.string (strOfNums ([IntKind.wrap .u8 (IntKind.wrap .i64 ((48 : Int) + (Int.tmod v0 (10 : Int))))]))) (.string v3) = some (.string ((strOfNums ([IntKind.wrap .u8 (IntKind.wrap .i64 ((48 : Int) + (Int.tmod v0 (10 : Int))))])) ++ v3))] (fun k => by kernel_rfl) ⟨Ev.c h0, Ev.c (by simp only [List.take_length, List.drop_zero]; exact strMap), Ev.c (strAdd h1), trivial⟩
theorem l_markText_R0_1 (v0 : Int) (v3 : ByteArray) (h0 : (decide (v0 > (0 : Int))) = false) : Round E 81 (lpAt Try.f81 0) (stL 20 [(0, .one (tI v0)), (3, .one (tS v3))]) (.exit 0) (stL 20 [(3, .one (tS v3))]) :=
  Round.path [.b false] [fun _ => (decide (v0 > (0 : Int))) = false] (fun k => by kernel_rfl) ⟨Ev.c h0, trivial⟩
noncomputable def l_markText_l0  : Nat → Int → ByteArray → Option l_markText_X0
  | 0, _, _ => none
  | n + 1, v0, v3 => cond (decide (v0 > (0 : Int)))
    (if (strOfNums ([IntKind.wrap .u8 (IntKind.wrap .i64 ((48 : Int) + (Int.tmod v0 (10 : Int))))])).size + v3.size ≤ maxStr then l_markText_l0 n (IntKind.wrap .i64 (Int.tdiv v0 (10 : Int))) ((strOfNums ([IntKind.wrap .u8 (IntKind.wrap .i64 ((48 : Int) + (Int.tmod v0 (10 : Int))))])) ++ v3) else none)
    (some (.x0 v3))
theorem l_markText_L0  (n : Nat) : ∀ (v0 : Int) (v3 : ByteArray), Ans (l_markText_l0 n v0 v3) (l_markText_Q0 v0 v3) := by
  induction n with
  | zero => intros; exact Ans.none
  | succ n ih =>
    intro v0 v3
    unfold l_markText_l0
    refine Ans.ite (fun h0 => ?_) (fun h0 => ?_)
    · refine Ans.pre (fun h1 => ?_)
      exact (ih (IntKind.wrap .i64 (Int.tdiv v0 (10 : Int))) ((strOfNums ([IntKind.wrap .u8 (IntKind.wrap .i64 ((48 : Int) + (Int.tmod v0 (10 : Int))))])) ++ v3)).mono fun y hy => by cases y <;> exact Loops.next (l_markText_R0_0 v0 v3 h0 h1) hy
    · exact Ans.some (Loops.stop (l_markText_R0_1 v0 v3 h0) (by intro h; cases h))
theorem l_markText_P0 (x0 : Int) (h0 : (decide (x0 ≤ (0 : Int))) = true) : Does E 81 [.one (tI x0)] [(false, [tS (⟨#[109, 48]⟩ : ByteArray)])] :=
  Does.path (fn := Try.f81) [.b true] [fun _ => (decide (x0 ≤ (0 : Int))) = true] rfl rfl (fun k => by kernel_rfl) ⟨Ev.c h0, trivial⟩
theorem l_markText_P1 (x0 : Int) (w0_3 : ByteArray) (h0 : (decide (x0 ≤ (0 : Int))) = false) (h1 : Loops E 81 (lpAt Try.f81 0) (stL 20 [(0, .one (tI x0)), (3, .one (tS ByteArray.empty))]) (.exit 0) (stL 20 [(3, .one (tS w0_3))])) (h2 : (⟨#[109]⟩ : ByteArray).size + w0_3.size ≤ maxStr) : Does E 81 [.one (tI x0)] [(false, [tS ((⟨#[109]⟩ : ByteArray) ++ w0_3)])] :=
  Does.path (fn := Try.f81) [.b false, .lp (.exit 0) (stL 20 [(3, .one (tS w0_3))]), .val (.string ((⟨#[109]⟩ : ByteArray) ++ w0_3))] [fun _ => (decide (x0 ≤ (0 : Int))) = false, fun k => LoopK E 81 (lpAt Try.f81 0) (stL 20 [(0, .one (tI x0)), (3, .one (tS ByteArray.empty))]) (.exit 0) (stL 20 [(3, .one (tS w0_3))]) k k, fun _ => binV E.tab .add 9 (.string (⟨#[109]⟩ : ByteArray)) (.string w0_3) = some (.string ((⟨#[109]⟩ : ByteArray) ++ w0_3))] rfl rfl (fun k => by kernel_rfl) ⟨Ev.c h0, Loops.ev h1, Ev.c (strAdd h2), trivial⟩
noncomputable def l_markText_F (x0 : Int) : Option (ByteArray) :=
    cond (decide (x0 ≤ (0 : Int)))
      (some ((⟨#[109, 48]⟩ : ByteArray)))
      ((l_markText_l0 9223372036854775808 x0 ByteArray.empty).bind fun y => match y with
        | .x0 w0_3 => (if (⟨#[109]⟩ : ByteArray).size + w0_3.size ≤ maxStr then some ((⟨#[109]⟩ : ByteArray) ++ w0_3) else none))
theorem l_markText_D (x0 : Int) : Ans (l_markText_F x0) (fun r => Does E 81 [.one (tI x0)] [(false, [tS r])]) := by
  unfold l_markText_F
  refine Ans.ite (fun h0 => ?_) (fun h0 => ?_)
  · exact Ans.some (l_markText_P0 x0 h0)
  · refine Ans.bind (fun y hy => ?_)
    replace hy := l_markText_L0 9223372036854775808 x0 ByteArray.empty y hy
    cases y with
    | x0 w0_3 =>
      have h1 := hy
      refine Ans.pre (fun h2 => ?_)
      exact Ans.some (l_markText_P1 x0 w0_3 h0 h1 h2)
noncomputable def p_l_markText (k : Int) : ByteArray := (l_markText_F k).getD ByteArray.empty
theorem mt_l : ∀ (d : Nat) (n : Nat) (v : Int) (s : ByteArray), v < 10 ^ d → v ≤ 9223372036854775807 → d < n → s.size + d ≤ 100 → ∃ r, l_markText_l0 n v s = some (.x0 r) ∧ r.size ≤ s.size + d
  | d, 0, v, s, h, _, hn, _ => by omega
  | 0, n + 1, v, s, h, _, hn, _ => by
    unfold l_markText_l0
    rw [decide_eq_false (by simp at h; omega)]
    exact ⟨s, rfl, by omega⟩
  | d + 1, n + 1, v, s, h, hv, hn, hs => by
    unfold l_markText_l0
    by_cases q : v > 0
    · rw [decide_eq_true q, cond_true]
      have e : Int.tdiv v 10 = v / 10 := Int.tdiv_eq_ediv_of_nonneg (by omega)
      rw [Int.pow_succ] at h
      have z : (strOfNums [IntKind.wrap .u8 (IntKind.wrap .i64 ((48 : Int) + (Int.tmod v (10 : Int))))] ++ s).size = s.size + 1 := by rw [ByteArray.size_append]; show 1 + s.size = _; omega
      have z2 : (strOfNums [IntKind.wrap .u8 (IntKind.wrap .i64 ((48 : Int) + (Int.tmod v (10 : Int))))]).size + s.size ≤ maxStr := by show 1 + s.size ≤ 4611686018427387904; omega
      rw [if_pos z2, e, wrap_id _ (by omega) (by omega)]
      obtain ⟨r, h1, h2⟩ := mt_l d n (v / 10) (strOfNums [IntKind.wrap .u8 (IntKind.wrap .i64 ((48 : Int) + (Int.tmod v (10 : Int))))] ++ s) (by omega) (by omega) (by omega) (by omega)
      exact ⟨r, h1, by omega⟩
    · rw [decide_eq_false q]
      exact ⟨s, rfl, by omega⟩
theorem ok_l_markText (k : Int) (h1 : k ≤ 4611686018427387904) : l_markText_F k = some (p_l_markText k) ∧ Small.sm (p_l_markText k) := by
  have e : ∃ r, l_markText_F k = some r ∧ r.size ≤ 100 := by
    unfold l_markText_F
    by_cases q : k ≤ 0
    · rw [decide_eq_true q]
      exact ⟨_, rfl, by decide⟩
    · rw [decide_eq_false q, cond_false]
      obtain ⟨r, g1, g2⟩ := mt_l 19 9223372036854775808 k ByteArray.empty (by omega) (by omega) (by omega) (by decide)
      have z : ByteArray.empty.size = 0 := rfl
      have z2 : (⟨#[109]⟩ : ByteArray).size = 1 := rfl
      rw [g1, Option.bind_some]
      simp only
      rw [if_pos (by rw [z2]; unfold maxStr; omega)]
      exact ⟨_, rfl, by rw [ByteArray.size_append, z2]; omega⟩
  obtain ⟨r, g1, g2⟩ := e
  have p : p_l_markText k = r := by unfold p_l_markText; rw [g1]; rfl
  rw [p]
  exact ⟨g1, show r.size ≤ 1050000 by omega⟩
theorem T_l_markText (x0 : Int) (h : l_markText_F x0 = some (p_l_markText x0)) : Does E 81 [.one (tI x0)] [(false, [tS (p_l_markText x0)])] := by
  exact l_markText_D x0 _ h
inductive l_markSessionS_X0 where
  | x0 (v0 : List GSession) (v1 : Int)
def l_markSessionS_Q0 (v0 : List GSession) (v1 : Int) (v5 : Int) : l_markSessionS_X0 → Prop
  | .x0 zv0 zv1 => Loops E 57 (lpAt Try.f57 0) (stL 35 [(0, .one (.s .own () 3 (v0.map GSession.t))), (1, .one (tI v1)), (5, .one (tI v5))]) (.exit 0) (stL 35 [(0, .one (.s .own () 3 (zv0.map GSession.t))), (1, .one (tI zv1))])
theorem l_markSessionS_R0_0 (v0 : List GSession) (v1 : Int) (v5 : Int) (g0 : GSession) (h0 : (decide (v5 < (v0.length : Int))) = true) (h1 : getI v0 v5 = some g0) (h2 : l_markText_F (inc (inc v1)) = some (p_l_markText (inc (inc v1)))) : Round E 57 (lpAt Try.f57 0) (stL 35 [(0, .one (.s .own () 3 (v0.map GSession.t))), (1, .one (tI v1)), (5, .one (tI v5))]) .normal (stL 35 [(0, .one (.s .own () 3 ((v0.set v5.toNat (GSession.mk v1 (inc v1) (p_l_markText (inc (inc v1))))).map GSession.t))), (1, .one (tI (inc (inc (inc v1))))), (5, .one (tI (inc v5)))]) :=
  Round.path [.val (.int .i64 (v0.length : Int)), .b true, .row (GSession.t g0), .rows ((v0.set v5.toNat (GSession.mk v1 g0.f1 g0.f2)).map GSession.t), .row (GSession.t (GSession.mk v1 g0.f1 g0.f2)), .rows ((v0.set v5.toNat (GSession.mk v1 (inc v1) g0.f2)).map GSession.t), .ret [(false, [tS (p_l_markText (inc (inc v1)))])], .row (GSession.t (GSession.mk v1 (inc v1) g0.f2)), .rows ((v0.set v5.toNat (GSession.mk v1 (inc v1) (p_l_markText (inc (inc v1))))).map GSession.t)] [fun _ => ((v0.map GSession.t).length : Int) = (v0.length : Int), fun _ => (decide (v5 < (v0.length : Int))) = true, fun _ => 0 ≤ v5 ∧ v5 < ((v0.map GSession.t).length : Int), fun _ => (v0.map GSession.t)[0 + v5.toNat]? = some (GSession.t g0), fun _ => (v0.map GSession.t).set (0 + v5.toNat) (spliceAt (GSession.t g0) 0 [tI v1]) = (v0.set v5.toNat (GSession.mk v1 g0.f1 g0.f2)).map GSession.t, fun _ => 0 ≤ v5 ∧ v5 < (((v0.set v5.toNat (GSession.mk v1 g0.f1 g0.f2)).map GSession.t).length : Int), fun _ => ((v0.set v5.toNat (GSession.mk v1 g0.f1 g0.f2)).map GSession.t)[0 + v5.toNat]? = some (GSession.t (GSession.mk v1 g0.f1 g0.f2)), fun _ => ((v0.set v5.toNat (GSession.mk v1 g0.f1 g0.f2)).map GSession.t).set (0 + v5.toNat) (spliceAt (GSession.t (GSession.mk v1 g0.f1 g0.f2)) 1 [tI (inc v1)]) = (v0.set v5.toNat (GSession.mk v1 (inc v1) g0.f2)).map GSession.t, fun k => E.C k 81 [.one (tI (inc (inc v1)))] = some [(false, [tS (p_l_markText (inc (inc v1)))])], fun _ => 0 ≤ v5 ∧ v5 < (((v0.set v5.toNat (GSession.mk v1 (inc v1) g0.f2)).map GSession.t).length : Int), fun _ => ((v0.set v5.toNat (GSession.mk v1 (inc v1) g0.f2)).map GSession.t)[0 + v5.toNat]? = some (GSession.t (GSession.mk v1 (inc v1) g0.f2)), fun _ => ((v0.set v5.toNat (GSession.mk v1 (inc v1) g0.f2)).map GSession.t).set (0 + v5.toNat) (spliceAt (GSession.t (GSession.mk v1 (inc v1) g0.f2)) 2 [tS (p_l_markText (inc (inc v1)))]) = (v0.set v5.toNat (GSession.mk v1 (inc v1) (p_l_markText (inc (inc v1))))).map GSession.t] (fun k => by kernel_rfl) ⟨Ev.c lenMap, Ev.c h0, Ev.c (getLt h1), Ev.c (getRow0 h1), Ev.c (setMap (by rfl)), Ev.c (getLt (getI_set h1)), Ev.c (getRow0 (getI_set h1)), Ev.c (setMap2 (by rfl)), T_l_markText (inc (inc v1)) h2, Ev.c (getLt (getI_set h1)), Ev.c (getRow0 (getI_set h1)), Ev.c (setMap2 (by rfl)), trivial⟩
theorem l_markSessionS_R0_1 (v0 : List GSession) (v1 : Int) (v5 : Int) (h0 : (decide (v5 < (v0.length : Int))) = false) : Round E 57 (lpAt Try.f57 0) (stL 35 [(0, .one (.s .own () 3 (v0.map GSession.t))), (1, .one (tI v1)), (5, .one (tI v5))]) (.exit 0) (stL 35 [(0, .one (.s .own () 3 (v0.map GSession.t))), (1, .one (tI v1))]) :=
  Round.path [.val (.int .i64 (v0.length : Int)), .b false] [fun _ => ((v0.map GSession.t).length : Int) = (v0.length : Int), fun _ => (decide (v5 < (v0.length : Int))) = false] (fun k => by kernel_rfl) ⟨Ev.c lenMap, Ev.c h0, trivial⟩
noncomputable def l_markSessionS_l0  : List GSession → List GSession → Nat → Int → Option l_markSessionS_X0
  | [], done, i, v1 => some (.x0 done v1)
  | hd :: rest, done, i, v1 => if l_markText_F (inc (inc v1)) = some (p_l_markText (inc (inc v1))) then l_markSessionS_l0 rest (done ++ [(GSession.mk v1 (inc v1) (p_l_markText (inc (inc v1))))]) (i + 1) (inc (inc (inc v1))) else none
theorem l_markSessionS_L0  (rest : List GSession) : ∀ (done : List GSession) (i : Nat) (v1 : Int), i = done.length → (done ++ rest).length ≤ 9223372036854775807 → Ans (l_markSessionS_l0 rest done i v1) (l_markSessionS_Q0 (done ++ rest) v1 (i : Int)) := by
  induction rest with
  | nil =>
    intro done i v1 hi hl
    rw [List.append_nil]
    have hb := mapEnd hi
    unfold l_markSessionS_l0
    exact Ans.some (Loops.stop (l_markSessionS_R0_1 done v1 (i : Int) hb) (by intro h; cases h))
  | cons hd rest ih =>
    intro done i v1 hi hl
    have hb := mapMore (hd := hd) (rest := rest) hi
    have hw := mapNext (hd := hd) (rest := rest) hi hl
    have hg := mapGet (hd := hd) (rest := rest) hi
    unfold l_markSessionS_l0
    refine Ans.pre (fun h2 => ?_)
    exact (ih (done ++ [(GSession.mk v1 (inc v1) (p_l_markText (inc (inc v1))))]) (i + 1) (inc (inc (inc v1))) (by simp [hi]) (by simpa using hl)).mono fun y hy => by have r := l_markSessionS_R0_0 (done ++ hd :: rest) v1 (i : Int) hd hb hg h2; rw [hw, setSplit hi] at r; cases y <;> exact Loops.next r hy
theorem l_markSessionS_P0 (x0 : List GSession) (x1 : Int) (w0_0 : List GSession) (w0_1 : Int) (h0 : Loops E 57 (lpAt Try.f57 0) (stL 35 [(0, .one (.s .own () 3 (x0.map GSession.t))), (1, .one (tI x1)), (5, .one (tI (0 : Int)))]) (.exit 0) (stL 35 [(0, .one (.s .own () 3 (w0_0.map GSession.t))), (1, .one (tI w0_1))])) : Does E 57 [.one (.s .own () 3 (x0.map GSession.t)), .one (tI x1)] [(false, [.s .own () 3 (w0_0.map GSession.t)]), (false, [tI w0_1])] :=
  Does.path (fn := Try.f57) [.lp (.exit 0) (stL 35 [(0, .one (.s .own () 3 (w0_0.map GSession.t))), (1, .one (tI w0_1))])] [fun k => LoopK E 57 (lpAt Try.f57 0) (stL 35 [(0, .one (.s .own () 3 (x0.map GSession.t))), (1, .one (tI x1)), (5, .one (tI (0 : Int)))]) (.exit 0) (stL 35 [(0, .one (.s .own () 3 (w0_0.map GSession.t))), (1, .one (tI w0_1))]) k k] rfl rfl (fun k => by kernel_rfl) ⟨Loops.ev h0, trivial⟩
noncomputable def l_markSessionS_F (x0 : List GSession) (x1 : Int) : Option ((List GSession) × Int) :=
    if x0.length ≤ 9223372036854775807 then (l_markSessionS_l0 x0 [] 0 x1).bind fun y => match y with
      | .x0 w0_0 w0_1 => (some (w0_0, w0_1)) else none
theorem l_markSessionS_D (x0 : List GSession) (x1 : Int) : Ans (l_markSessionS_F x0 x1) (fun r => Does E 57 [.one (.s .own () 3 (x0.map GSession.t)), .one (tI x1)] [(false, [.s .own () 3 (r.1.map GSession.t)]), (false, [tI r.2])]) := by
  unfold l_markSessionS_F
  refine Ans.pre (fun hl1 => ?_)
  refine Ans.bind (fun y hy => ?_)
  replace hy := l_markSessionS_L0 x0 [] 0 x1 rfl hl1 y hy
  cases y with
  | x0 w0_0 w0_1 =>
    have h0 := hy
    exact Ans.some (l_markSessionS_P0 x0 x1 w0_0 w0_1 h0)
inductive l_heldSessionS_X0 where
  | ret (v4 : Int)
  | x0 (v1 : Int)
def l_heldSessionS_Q0 (v0 : List GSession) (v1 : Int) (v5 : Int) : l_heldSessionS_X0 → Prop
  | .ret zv4 => Loops E 60 (lpAt Try.f60 0) (stL 41 [(0, .one (.s .far () 3 (v0.map GSession.t))), (1, .one (tI v1)), (5, .one (tI v5))]) .ret (stL 41 [(4, .one (tI zv4))])
  | .x0 zv1 => Loops E 60 (lpAt Try.f60 0) (stL 41 [(0, .one (.s .far () 3 (v0.map GSession.t))), (1, .one (tI v1)), (5, .one (tI v5))]) (.exit 0) (stL 41 [(1, .one (tI zv1))])
theorem l_heldSessionS_R0_0 (v0 : List GSession) (v1 : Int) (v5 : Int) (g0 : GSession) (h0 : (decide (v5 < (v0.length : Int))) = true) (h1 : getI v0 v5 = some g0) (h2 : (g0.f0 != v1) = true) : Round E 60 (lpAt Try.f60 0) (stL 41 [(0, .one (.s .far () 3 (v0.map GSession.t))), (1, .one (tI v1)), (5, .one (tI v5))]) .ret (stL 41 [(4, .one (tI (-1 : Int)))]) :=
  Round.path [.val (.int .i64 (v0.length : Int)), .b true, .row (GSession.t g0), .b true] [fun _ => ((v0.map GSession.t).length : Int) = (v0.length : Int), fun _ => (decide (v5 < (v0.length : Int))) = true, fun _ => 0 ≤ v5 ∧ (v0.map GSession.t)[v5.toNat]? = some (GSession.t g0), fun _ => (g0.f0 != v1) = true] (fun k => by kernel_rfl) ⟨Ev.c lenMap, Ev.c h0, Ev.c (getRow h1), Ev.c h2, trivial⟩
theorem l_heldSessionS_R0_1 (v0 : List GSession) (v1 : Int) (v5 : Int) (g0 : GSession) (h0 : (decide (v5 < (v0.length : Int))) = true) (h1 : getI v0 v5 = some g0) (h2 : (g0.f0 != v1) = false) (h3 : (g0.f1 != (inc v1)) = true) : Round E 60 (lpAt Try.f60 0) (stL 41 [(0, .one (.s .far () 3 (v0.map GSession.t))), (1, .one (tI v1)), (5, .one (tI v5))]) .ret (stL 41 [(4, .one (tI (-1 : Int)))]) :=
  Round.path [.val (.int .i64 (v0.length : Int)), .b true, .row (GSession.t g0), .b false, .row (GSession.t g0), .b true] [fun _ => ((v0.map GSession.t).length : Int) = (v0.length : Int), fun _ => (decide (v5 < (v0.length : Int))) = true, fun _ => 0 ≤ v5 ∧ (v0.map GSession.t)[v5.toNat]? = some (GSession.t g0), fun _ => (g0.f0 != v1) = false, fun _ => 0 ≤ v5 ∧ (v0.map GSession.t)[v5.toNat]? = some (GSession.t g0), fun _ => (g0.f1 != (inc v1)) = true] (fun k => by kernel_rfl) ⟨Ev.c lenMap, Ev.c h0, Ev.c (getRow h1), Ev.c h2, Ev.c (getRow h1), Ev.c h3, trivial⟩
theorem l_heldSessionS_R0_2 (v0 : List GSession) (v1 : Int) (v5 : Int) (g0 : GSession) (h0 : (decide (v5 < (v0.length : Int))) = true) (h1 : getI v0 v5 = some g0) (h2 : (g0.f0 != v1) = false) (h3 : (g0.f1 != (inc v1)) = false) (h4 : l_markText_F (inc (inc v1)) = some (p_l_markText (inc (inc v1)))) (h5 : (!(g0.f2.toList == (p_l_markText (inc (inc v1))).toList)) = true) : Round E 60 (lpAt Try.f60 0) (stL 41 [(0, .one (.s .far () 3 (v0.map GSession.t))), (1, .one (tI v1)), (5, .one (tI v5))]) .ret (stL 41 [(4, .one (tI (-1 : Int)))]) :=
  Round.path [.val (.int .i64 (v0.length : Int)), .b true, .row (GSession.t g0), .b false, .row (GSession.t g0), .b false, .row (GSession.t g0), .ret [(false, [tS (p_l_markText (inc (inc v1)))])], .b true] [fun _ => ((v0.map GSession.t).length : Int) = (v0.length : Int), fun _ => (decide (v5 < (v0.length : Int))) = true, fun _ => 0 ≤ v5 ∧ (v0.map GSession.t)[v5.toNat]? = some (GSession.t g0), fun _ => (g0.f0 != v1) = false, fun _ => 0 ≤ v5 ∧ (v0.map GSession.t)[v5.toNat]? = some (GSession.t g0), fun _ => (g0.f1 != (inc v1)) = false, fun _ => 0 ≤ v5 ∧ (v0.map GSession.t)[v5.toNat]? = some (GSession.t g0), fun k => E.C k 81 [.one (tI (inc (inc v1)))] = some [(false, [tS (p_l_markText (inc (inc v1)))])], fun _ => (!(g0.f2.toList == (p_l_markText (inc (inc v1))).toList)) = true] (fun k => by kernel_rfl) ⟨Ev.c lenMap, Ev.c h0, Ev.c (getRow h1), Ev.c h2, Ev.c (getRow h1), Ev.c h3, Ev.c (getRow h1), T_l_markText (inc (inc v1)) h4, Ev.c h5, trivial⟩
theorem l_heldSessionS_R0_3 (v0 : List GSession) (v1 : Int) (v5 : Int) (g0 : GSession) (h0 : (decide (v5 < (v0.length : Int))) = true) (h1 : getI v0 v5 = some g0) (h2 : (g0.f0 != v1) = false) (h3 : (g0.f1 != (inc v1)) = false) (h4 : l_markText_F (inc (inc v1)) = some (p_l_markText (inc (inc v1)))) (h5 : (!(g0.f2.toList == (p_l_markText (inc (inc v1))).toList)) = false) : Round E 60 (lpAt Try.f60 0) (stL 41 [(0, .one (.s .far () 3 (v0.map GSession.t))), (1, .one (tI v1)), (5, .one (tI v5))]) .normal (stL 41 [(0, .one (.s .far () 3 (v0.map GSession.t))), (1, .one (tI (inc (inc (inc v1))))), (5, .one (tI (inc v5)))]) :=
  Round.path [.val (.int .i64 (v0.length : Int)), .b true, .row (GSession.t g0), .b false, .row (GSession.t g0), .b false, .row (GSession.t g0), .ret [(false, [tS (p_l_markText (inc (inc v1)))])], .b false] [fun _ => ((v0.map GSession.t).length : Int) = (v0.length : Int), fun _ => (decide (v5 < (v0.length : Int))) = true, fun _ => 0 ≤ v5 ∧ (v0.map GSession.t)[v5.toNat]? = some (GSession.t g0), fun _ => (g0.f0 != v1) = false, fun _ => 0 ≤ v5 ∧ (v0.map GSession.t)[v5.toNat]? = some (GSession.t g0), fun _ => (g0.f1 != (inc v1)) = false, fun _ => 0 ≤ v5 ∧ (v0.map GSession.t)[v5.toNat]? = some (GSession.t g0), fun k => E.C k 81 [.one (tI (inc (inc v1)))] = some [(false, [tS (p_l_markText (inc (inc v1)))])], fun _ => (!(g0.f2.toList == (p_l_markText (inc (inc v1))).toList)) = false] (fun k => by kernel_rfl) ⟨Ev.c lenMap, Ev.c h0, Ev.c (getRow h1), Ev.c h2, Ev.c (getRow h1), Ev.c h3, Ev.c (getRow h1), T_l_markText (inc (inc v1)) h4, Ev.c h5, trivial⟩
theorem l_heldSessionS_R0_4 (v0 : List GSession) (v1 : Int) (v5 : Int) (h0 : (decide (v5 < (v0.length : Int))) = false) : Round E 60 (lpAt Try.f60 0) (stL 41 [(0, .one (.s .far () 3 (v0.map GSession.t))), (1, .one (tI v1)), (5, .one (tI v5))]) (.exit 0) (stL 41 [(1, .one (tI v1))]) :=
  Round.path [.val (.int .i64 (v0.length : Int)), .b false] [fun _ => ((v0.map GSession.t).length : Int) = (v0.length : Int), fun _ => (decide (v5 < (v0.length : Int))) = false] (fun k => by kernel_rfl) ⟨Ev.c lenMap, Ev.c h0, trivial⟩
noncomputable def l_heldSessionS_l0  : List GSession → Nat → Int → Option l_heldSessionS_X0
  | [], i, v1 => some (.x0 v1)
  | hd :: rest, i, v1 => cond (hd.f0 != v1)
    (some (.ret (-1 : Int)))
    (cond (hd.f1 != (inc v1))
      (some (.ret (-1 : Int)))
      (if l_markText_F (inc (inc v1)) = some (p_l_markText (inc (inc v1))) then cond (!(hd.f2.toList == (p_l_markText (inc (inc v1))).toList))
        (some (.ret (-1 : Int)))
        (l_heldSessionS_l0 rest (i + 1) (inc (inc (inc v1)))) else none))
theorem l_heldSessionS_L0 (v0 : List GSession) (rest : List GSession) : ∀ (i : Nat) (v1 : Int), (v0).drop i = rest → v0.length ≤ 9223372036854775807 → Ans (l_heldSessionS_l0 rest i v1) (l_heldSessionS_Q0 v0 v1 (i : Int)) := by
  induction rest with
  | nil =>
    intro i v1 hE hl
    have hb := foldEnd hE
    unfold l_heldSessionS_l0
    exact Ans.some (Loops.stop (l_heldSessionS_R0_4 v0 v1 (i : Int) hb) (by intro h; cases h))
  | cons hd rest ih =>
    intro i v1 hE hl
    have hb := foldMore hE
    have hw := foldNext hE hl
    have hE2 := foldRest hE
    have hg := foldGet hE
    unfold l_heldSessionS_l0
    refine Ans.ite (fun h2 => ?_) (fun h2 => ?_)
    · exact Ans.some (Loops.stop (l_heldSessionS_R0_0 v0 v1 (i : Int) hd hb hg h2) (by intro h; cases h))
    · refine Ans.ite (fun h3 => ?_) (fun h3 => ?_)
      · exact Ans.some (Loops.stop (l_heldSessionS_R0_1 v0 v1 (i : Int) hd hb hg h2 h3) (by intro h; cases h))
      · refine Ans.pre (fun h4 => ?_)
        refine Ans.ite (fun h5 => ?_) (fun h5 => ?_)
        · exact Ans.some (Loops.stop (l_heldSessionS_R0_2 v0 v1 (i : Int) hd hb hg h2 h3 h4 h5) (by intro h; cases h))
        · exact (ih (i + 1) (inc (inc (inc v1))) hE2 hl).mono fun y hy => by have r := l_heldSessionS_R0_3 v0 v1 (i : Int) hd hb hg h2 h3 h4 h5; rw [hw] at r; cases y <;> exact Loops.next r hy
theorem l_heldSessionS_P0 (x0 : List GSession) (x1 : Int) (w0_4 : Int) (h0 : Loops E 60 (lpAt Try.f60 0) (stL 41 [(0, .one (.s .far () 3 (x0.map GSession.t))), (1, .one (tI x1)), (5, .one (tI (0 : Int)))]) .ret (stL 41 [(4, .one (tI w0_4))])) : Does E 60 [.one (.s .far () 3 (x0.map GSession.t)), .one (tI x1)] [(false, [tI w0_4])] :=
  Does.path (fn := Try.f60) [.lp .ret (stL 41 [(4, .one (tI w0_4))])] [fun k => LoopK E 60 (lpAt Try.f60 0) (stL 41 [(0, .one (.s .far () 3 (x0.map GSession.t))), (1, .one (tI x1)), (5, .one (tI (0 : Int)))]) .ret (stL 41 [(4, .one (tI w0_4))]) k k] rfl rfl (fun k => by kernel_rfl) ⟨Loops.ev h0, trivial⟩
theorem l_heldSessionS_P1 (x0 : List GSession) (x1 : Int) (w0_1 : Int) (h0 : Loops E 60 (lpAt Try.f60 0) (stL 41 [(0, .one (.s .far () 3 (x0.map GSession.t))), (1, .one (tI x1)), (5, .one (tI (0 : Int)))]) (.exit 0) (stL 41 [(1, .one (tI w0_1))])) : Does E 60 [.one (.s .far () 3 (x0.map GSession.t)), .one (tI x1)] [(false, [tI w0_1])] :=
  Does.path (fn := Try.f60) [.lp (.exit 0) (stL 41 [(1, .one (tI w0_1))])] [fun k => LoopK E 60 (lpAt Try.f60 0) (stL 41 [(0, .one (.s .far () 3 (x0.map GSession.t))), (1, .one (tI x1)), (5, .one (tI (0 : Int)))]) (.exit 0) (stL 41 [(1, .one (tI w0_1))]) k k] rfl rfl (fun k => by kernel_rfl) ⟨Loops.ev h0, trivial⟩
noncomputable def l_heldSessionS_F (x0 : List GSession) (x1 : Int) : Option (Int) :=
    if x0.length ≤ 9223372036854775807 then (l_heldSessionS_l0 x0 0 x1).bind fun y => match y with
      | .ret w0_4 => (some (w0_4))
      | .x0 w0_1 => (some (w0_1)) else none
theorem l_heldSessionS_D (x0 : List GSession) (x1 : Int) : Ans (l_heldSessionS_F x0 x1) (fun r => Does E 60 [.one (.s .far () 3 (x0.map GSession.t)), .one (tI x1)] [(false, [tI r])]) := by
  unfold l_heldSessionS_F
  refine Ans.pre (fun hl1 => ?_)
  refine Ans.bind (fun y hy => ?_)
  replace hy := l_heldSessionS_L0 x0 x0 0 x1 rfl hl1 y hy
  cases y with
  | ret w0_4 =>
    have h0 := hy
    exact Ans.some (l_heldSessionS_P0 x0 x1 w0_4 h0)
  | x0 w0_1 =>
    have h0 := hy
    exact Ans.some (l_heldSessionS_P1 x0 x1 w0_1 h0)
noncomputable def p_l_markSessionS (x : List GSession) (k : Int) : (List GSession) × Int := (l_markSessionS_F x k).getD ([], 0)
noncomputable def p_l_heldSessionS (x : List GSession) (k : Int) : Int := (l_heldSessionS_F x k).getD (-1)
theorem T_l_markSessionS (x0 : List GSession) (x1 : Int) (h : l_markSessionS_F x0 x1 = some (p_l_markSessionS x0 x1)) : Does E 57 [.one (.s .own () 3 (x0.map GSession.t)), .one (tI x1)] [(false, [.s .own () 3 (((p_l_markSessionS x0 x1).1).map GSession.t)]), (false, [tI ((p_l_markSessionS x0 x1).2)])] := by
  exact l_markSessionS_D x0 x1 _ h
theorem T_l_heldSessionS (x0 : List GSession) (x1 : Int) (h : l_heldSessionS_F x0 x1 = some (p_l_heldSessionS x0 x1)) : Does E 60 [.one (.s .far () 3 (x0.map GSession.t)), .one (tI x1)] [(false, [tI (p_l_heldSessionS x0 x1)])] := by
  exact l_heldSessionS_D x0 x1 _ h
theorem mk_l_markSessionS : ∀ (rest done : List GSession) (i : Nat) (k : Int), (∀ y ∈ rest, Small.sm y) → 0 ≤ k → k + 3 * (rest.length : Int) ≤ 4611686018427387904 →
    ∃ new m, l_markSessionS_l0 rest done i k = some (.x0 (done ++ new) m) ∧ k ≤ m ∧ m ≤ k + 3 * (rest.length : Int) ∧ new.length = rest.length ∧ (∀ y ∈ new, Small.sm y) ∧ ∀ j, l_heldSessionS_l0 new j k = some (.x0 m)
  | [], done, i, k, _, h0, _ => ⟨[], k, by unfold l_markSessionS_l0; rw [List.append_nil], by omega, by simp, rfl, fun y hy => (by cases hy), fun j => rfl⟩
  | x :: rest, done, i, k, h, h0, h1 => by
    have hx := h x (by simp)
    rw [List.length_cons] at h1 ⊢
    have w1 : inc k = k + 1 := inc_id _ (by omega) (by omega)
    have w2 : inc (k + 1) = (k + 1) + 1 := inc_id _ (by omega) (by omega)
    have t3 := ok_l_markText ((k + 1) + 1) (by omega)
    have w3 : inc ((k + 1) + 1) = ((k + 1) + 1) + 1 := inc_id _ (by omega) (by omega)
    obtain ⟨new, m, g1, g2, g3, g4, g5, g6⟩ := mk_l_markSessionS rest (done ++ [(GSession.mk k (k + 1) (p_l_markText ((k + 1) + 1)))]) (i + 1) (((k + 1) + 1) + 1) (fun y hy => h y (by simp [hy])) (by omega) (by omega)
    refine ⟨(GSession.mk k (k + 1) (p_l_markText ((k + 1) + 1))) :: new, m, ?_, by omega, by omega, by simp [g4], ?_, fun j => ?_⟩
    · unfold l_markSessionS_l0
      simp only [w1, w2, t3.1, w3, if_true, g1, List.append_assoc, List.singleton_append]
    · intro y hy
      rcases List.mem_cons.1 hy with rfl | hy
      · exact t3.2
      · exact g5 y hy
    · unfold l_heldSessionS_l0
      simp only [w1, w2, t3.1, w3, if_true, bne_self_eq_false, BEq.rfl, Bool.not_true, cond_false, cond_true, g6]
theorem ok_l_markSessionS (l : List GSession) (k : Int) (h : Small.sm l) (h0 : 0 ≤ k) (h1 : k + 3150000 ≤ 4611686018427387904) : l_markSessionS_F l k = some (p_l_markSessionS l k) ∧ l_heldSessionS_F (p_l_markSessionS l k).1 k = some (p_l_heldSessionS (p_l_markSessionS l k).1 k) ∧ p_l_heldSessionS (p_l_markSessionS l k).1 k = (p_l_markSessionS l k).2 ∧ k ≤ (p_l_markSessionS l k).2 ∧ (p_l_markSessionS l k).2 ≤ k + 3150000 ∧ Small.sm (p_l_markSessionS l k).1 := by
  have hl := h.1
  obtain ⟨new, m, g1, g2, g3, g4, g5, g6⟩ := mk_l_markSessionS l [] 0 k h.2 h0 (by omega)
  have e : l_markSessionS_F l k = some (new, m) := by unfold l_markSessionS_F; rw [if_pos (sm_wf_len h), g1]; rfl
  have p : p_l_markSessionS l k = (new, m) := by unfold p_l_markSessionS; rw [e]; rfl
  have e2 : l_heldSessionS_F new k = some m := by unfold l_heldSessionS_F; rw [if_pos (by omega), g6]; rfl
  have p2 : p_l_heldSessionS new k = m := by unfold p_l_heldSessionS; rw [e2]; rfl
  rw [p, p2]
  exact ⟨e, e2, rfl, g2, by omega, ⟨by show new.length ≤ 1050000; omega, g5⟩⟩
inductive l_markStringS_X0 where
  | x0 (v0 : List ByteArray) (v1 : Int)
def l_markStringS_Q0 (v0 : List ByteArray) (v1 : Int) (v5 : Int) : l_markStringS_X0 → Prop
  | .x0 zv0 zv1 => Loops E 104 (lpAt Try.f104 0) (stL 20 [(0, .one (.s .own () 1 (v0.map etS))), (1, .one (tI v1)), (5, .one (tI v5))]) (.exit 0) (stL 20 [(0, .one (.s .own () 1 (zv0.map etS))), (1, .one (tI zv1))])
theorem l_markStringS_R0_0 (v0 : List ByteArray) (v1 : Int) (v5 : Int) (g0 : ByteArray) (h0 : (decide (v5 < (v0.length : Int))) = true) (h1 : l_markText_F v1 = some (p_l_markText v1)) (h2 : getI v0 v5 = some g0) : Round E 104 (lpAt Try.f104 0) (stL 20 [(0, .one (.s .own () 1 (v0.map etS))), (1, .one (tI v1)), (5, .one (tI v5))]) .normal (stL 20 [(0, .one (.s .own () 1 ((v0.set v5.toNat (p_l_markText v1)).map etS))), (1, .one (tI (inc v1))), (5, .one (tI (inc v5)))]) :=
  Round.path [.val (.int .i64 (v0.length : Int)), .b true, .ret [(false, [tS (p_l_markText v1)])], .row (etS g0), .rows ((v0.set v5.toNat (p_l_markText v1)).map etS)] [fun _ => ((v0.map etS).length : Int) = (v0.length : Int), fun _ => (decide (v5 < (v0.length : Int))) = true, fun k => E.C k 81 [.one (tI v1)] = some [(false, [tS (p_l_markText v1)])], fun _ => 0 ≤ v5 ∧ v5 < ((v0.map etS).length : Int), fun _ => (v0.map etS)[0 + v5.toNat]? = some (etS g0), fun _ => (v0.map etS).set (0 + v5.toNat) (spliceAt (etS g0) 0 [tS (p_l_markText v1)]) = (v0.set v5.toNat (p_l_markText v1)).map etS] (fun k => by kernel_rfl) ⟨Ev.c lenMap, Ev.c h0, T_l_markText v1 h1, Ev.c (getLt h2), Ev.c (getRow0 h2), Ev.c (setMap (by rfl)), trivial⟩
theorem l_markStringS_R0_1 (v0 : List ByteArray) (v1 : Int) (v5 : Int) (h0 : (decide (v5 < (v0.length : Int))) = false) : Round E 104 (lpAt Try.f104 0) (stL 20 [(0, .one (.s .own () 1 (v0.map etS))), (1, .one (tI v1)), (5, .one (tI v5))]) (.exit 0) (stL 20 [(0, .one (.s .own () 1 (v0.map etS))), (1, .one (tI v1))]) :=
  Round.path [.val (.int .i64 (v0.length : Int)), .b false] [fun _ => ((v0.map etS).length : Int) = (v0.length : Int), fun _ => (decide (v5 < (v0.length : Int))) = false] (fun k => by kernel_rfl) ⟨Ev.c lenMap, Ev.c h0, trivial⟩
noncomputable def l_markStringS_l0  : List ByteArray → List ByteArray → Nat → Int → Option l_markStringS_X0
  | [], done, i, v1 => some (.x0 done v1)
  | hd :: rest, done, i, v1 => if l_markText_F v1 = some (p_l_markText v1) then l_markStringS_l0 rest (done ++ [(p_l_markText v1)]) (i + 1) (inc v1) else none
theorem l_markStringS_L0  (rest : List ByteArray) : ∀ (done : List ByteArray) (i : Nat) (v1 : Int), i = done.length → (done ++ rest).length ≤ 9223372036854775807 → Ans (l_markStringS_l0 rest done i v1) (l_markStringS_Q0 (done ++ rest) v1 (i : Int)) := by
  induction rest with
  | nil =>
    intro done i v1 hi hl
    rw [List.append_nil]
    have hb := mapEnd hi
    unfold l_markStringS_l0
    exact Ans.some (Loops.stop (l_markStringS_R0_1 done v1 (i : Int) hb) (by intro h; cases h))
  | cons hd rest ih =>
    intro done i v1 hi hl
    have hb := mapMore (hd := hd) (rest := rest) hi
    have hw := mapNext (hd := hd) (rest := rest) hi hl
    have hg := mapGet (hd := hd) (rest := rest) hi
    unfold l_markStringS_l0
    refine Ans.pre (fun h1 => ?_)
    exact (ih (done ++ [(p_l_markText v1)]) (i + 1) (inc v1) (by simp [hi]) (by simpa using hl)).mono fun y hy => by have r := l_markStringS_R0_0 (done ++ hd :: rest) v1 (i : Int) hd hb h1 hg; rw [hw, setSplit hi] at r; cases y <;> exact Loops.next r hy
theorem l_markStringS_P0 (x0 : List ByteArray) (x1 : Int) (w0_0 : List ByteArray) (w0_1 : Int) (h0 : Loops E 104 (lpAt Try.f104 0) (stL 20 [(0, .one (.s .own () 1 (x0.map etS))), (1, .one (tI x1)), (5, .one (tI (0 : Int)))]) (.exit 0) (stL 20 [(0, .one (.s .own () 1 (w0_0.map etS))), (1, .one (tI w0_1))])) : Does E 104 [.one (.s .own () 1 (x0.map etS)), .one (tI x1)] [(false, [.s .own () 1 (w0_0.map etS)]), (false, [tI w0_1])] :=
  Does.path (fn := Try.f104) [.lp (.exit 0) (stL 20 [(0, .one (.s .own () 1 (w0_0.map etS))), (1, .one (tI w0_1))])] [fun k => LoopK E 104 (lpAt Try.f104 0) (stL 20 [(0, .one (.s .own () 1 (x0.map etS))), (1, .one (tI x1)), (5, .one (tI (0 : Int)))]) (.exit 0) (stL 20 [(0, .one (.s .own () 1 (w0_0.map etS))), (1, .one (tI w0_1))]) k k] rfl rfl (fun k => by kernel_rfl) ⟨Loops.ev h0, trivial⟩
noncomputable def l_markStringS_F (x0 : List ByteArray) (x1 : Int) : Option ((List ByteArray) × Int) :=
    if x0.length ≤ 9223372036854775807 then (l_markStringS_l0 x0 [] 0 x1).bind fun y => match y with
      | .x0 w0_0 w0_1 => (some (w0_0, w0_1)) else none
theorem l_markStringS_D (x0 : List ByteArray) (x1 : Int) : Ans (l_markStringS_F x0 x1) (fun r => Does E 104 [.one (.s .own () 1 (x0.map etS)), .one (tI x1)] [(false, [.s .own () 1 (r.1.map etS)]), (false, [tI r.2])]) := by
  unfold l_markStringS_F
  refine Ans.pre (fun hl1 => ?_)
  refine Ans.bind (fun y hy => ?_)
  replace hy := l_markStringS_L0 x0 [] 0 x1 rfl hl1 y hy
  cases y with
  | x0 w0_0 w0_1 =>
    have h0 := hy
    exact Ans.some (l_markStringS_P0 x0 x1 w0_0 w0_1 h0)
inductive l_heldStringS_X0 where
  | ret (v4 : Int)
  | x0 (v1 : Int)
def l_heldStringS_Q0 (v0 : List ByteArray) (v1 : Int) (v5 : Int) : l_heldStringS_X0 → Prop
  | .ret zv4 => Loops E 105 (lpAt Try.f105 0) (stL 22 [(0, .one (.s .far () 1 (v0.map etS))), (1, .one (tI v1)), (5, .one (tI v5))]) .ret (stL 22 [(4, .one (tI zv4))])
  | .x0 zv1 => Loops E 105 (lpAt Try.f105 0) (stL 22 [(0, .one (.s .far () 1 (v0.map etS))), (1, .one (tI v1)), (5, .one (tI v5))]) (.exit 0) (stL 22 [(1, .one (tI zv1))])
theorem l_heldStringS_R0_0 (v0 : List ByteArray) (v1 : Int) (v5 : Int) (g0 : ByteArray) (h0 : (decide (v5 < (v0.length : Int))) = true) (h1 : getI v0 v5 = some g0) (h2 : l_markText_F v1 = some (p_l_markText v1)) (h3 : (!(g0.toList == (p_l_markText v1).toList)) = true) : Round E 105 (lpAt Try.f105 0) (stL 22 [(0, .one (.s .far () 1 (v0.map etS))), (1, .one (tI v1)), (5, .one (tI v5))]) .ret (stL 22 [(4, .one (tI (-1 : Int)))]) :=
  Round.path [.val (.int .i64 (v0.length : Int)), .b true, .row (etS g0), .ret [(false, [tS (p_l_markText v1)])], .b true] [fun _ => ((v0.map etS).length : Int) = (v0.length : Int), fun _ => (decide (v5 < (v0.length : Int))) = true, fun _ => 0 ≤ v5 ∧ (v0.map etS)[v5.toNat]? = some (etS g0), fun k => E.C k 81 [.one (tI v1)] = some [(false, [tS (p_l_markText v1)])], fun _ => (!(g0.toList == (p_l_markText v1).toList)) = true] (fun k => by kernel_rfl) ⟨Ev.c lenMap, Ev.c h0, Ev.c (getRow h1), T_l_markText v1 h2, Ev.c h3, trivial⟩
theorem l_heldStringS_R0_1 (v0 : List ByteArray) (v1 : Int) (v5 : Int) (g0 : ByteArray) (h0 : (decide (v5 < (v0.length : Int))) = true) (h1 : getI v0 v5 = some g0) (h2 : l_markText_F v1 = some (p_l_markText v1)) (h3 : (!(g0.toList == (p_l_markText v1).toList)) = false) : Round E 105 (lpAt Try.f105 0) (stL 22 [(0, .one (.s .far () 1 (v0.map etS))), (1, .one (tI v1)), (5, .one (tI v5))]) .normal (stL 22 [(0, .one (.s .far () 1 (v0.map etS))), (1, .one (tI (inc v1))), (5, .one (tI (inc v5)))]) :=
  Round.path [.val (.int .i64 (v0.length : Int)), .b true, .row (etS g0), .ret [(false, [tS (p_l_markText v1)])], .b false] [fun _ => ((v0.map etS).length : Int) = (v0.length : Int), fun _ => (decide (v5 < (v0.length : Int))) = true, fun _ => 0 ≤ v5 ∧ (v0.map etS)[v5.toNat]? = some (etS g0), fun k => E.C k 81 [.one (tI v1)] = some [(false, [tS (p_l_markText v1)])], fun _ => (!(g0.toList == (p_l_markText v1).toList)) = false] (fun k => by kernel_rfl) ⟨Ev.c lenMap, Ev.c h0, Ev.c (getRow h1), T_l_markText v1 h2, Ev.c h3, trivial⟩
theorem l_heldStringS_R0_2 (v0 : List ByteArray) (v1 : Int) (v5 : Int) (h0 : (decide (v5 < (v0.length : Int))) = false) : Round E 105 (lpAt Try.f105 0) (stL 22 [(0, .one (.s .far () 1 (v0.map etS))), (1, .one (tI v1)), (5, .one (tI v5))]) (.exit 0) (stL 22 [(1, .one (tI v1))]) :=
  Round.path [.val (.int .i64 (v0.length : Int)), .b false] [fun _ => ((v0.map etS).length : Int) = (v0.length : Int), fun _ => (decide (v5 < (v0.length : Int))) = false] (fun k => by kernel_rfl) ⟨Ev.c lenMap, Ev.c h0, trivial⟩
noncomputable def l_heldStringS_l0  : List ByteArray → Nat → Int → Option l_heldStringS_X0
  | [], i, v1 => some (.x0 v1)
  | hd :: rest, i, v1 => if l_markText_F v1 = some (p_l_markText v1) then cond (!(hd.toList == (p_l_markText v1).toList))
    (some (.ret (-1 : Int)))
    (l_heldStringS_l0 rest (i + 1) (inc v1)) else none
theorem l_heldStringS_L0 (v0 : List ByteArray) (rest : List ByteArray) : ∀ (i : Nat) (v1 : Int), (v0).drop i = rest → v0.length ≤ 9223372036854775807 → Ans (l_heldStringS_l0 rest i v1) (l_heldStringS_Q0 v0 v1 (i : Int)) := by
  induction rest with
  | nil =>
    intro i v1 hE hl
    have hb := foldEnd hE
    unfold l_heldStringS_l0
    exact Ans.some (Loops.stop (l_heldStringS_R0_2 v0 v1 (i : Int) hb) (by intro h; cases h))
  | cons hd rest ih =>
    intro i v1 hE hl
    have hb := foldMore hE
    have hw := foldNext hE hl
    have hE2 := foldRest hE
    have hg := foldGet hE
    unfold l_heldStringS_l0
    refine Ans.pre (fun h2 => ?_)
    refine Ans.ite (fun h3 => ?_) (fun h3 => ?_)
    · exact Ans.some (Loops.stop (l_heldStringS_R0_0 v0 v1 (i : Int) hd hb hg h2 h3) (by intro h; cases h))
    · exact (ih (i + 1) (inc v1) hE2 hl).mono fun y hy => by have r := l_heldStringS_R0_1 v0 v1 (i : Int) hd hb hg h2 h3; rw [hw] at r; cases y <;> exact Loops.next r hy
theorem l_heldStringS_P0 (x0 : List ByteArray) (x1 : Int) (w0_4 : Int) (h0 : Loops E 105 (lpAt Try.f105 0) (stL 22 [(0, .one (.s .far () 1 (x0.map etS))), (1, .one (tI x1)), (5, .one (tI (0 : Int)))]) .ret (stL 22 [(4, .one (tI w0_4))])) : Does E 105 [.one (.s .far () 1 (x0.map etS)), .one (tI x1)] [(false, [tI w0_4])] :=
  Does.path (fn := Try.f105) [.lp .ret (stL 22 [(4, .one (tI w0_4))])] [fun k => LoopK E 105 (lpAt Try.f105 0) (stL 22 [(0, .one (.s .far () 1 (x0.map etS))), (1, .one (tI x1)), (5, .one (tI (0 : Int)))]) .ret (stL 22 [(4, .one (tI w0_4))]) k k] rfl rfl (fun k => by kernel_rfl) ⟨Loops.ev h0, trivial⟩
theorem l_heldStringS_P1 (x0 : List ByteArray) (x1 : Int) (w0_1 : Int) (h0 : Loops E 105 (lpAt Try.f105 0) (stL 22 [(0, .one (.s .far () 1 (x0.map etS))), (1, .one (tI x1)), (5, .one (tI (0 : Int)))]) (.exit 0) (stL 22 [(1, .one (tI w0_1))])) : Does E 105 [.one (.s .far () 1 (x0.map etS)), .one (tI x1)] [(false, [tI w0_1])] :=
  Does.path (fn := Try.f105) [.lp (.exit 0) (stL 22 [(1, .one (tI w0_1))])] [fun k => LoopK E 105 (lpAt Try.f105 0) (stL 22 [(0, .one (.s .far () 1 (x0.map etS))), (1, .one (tI x1)), (5, .one (tI (0 : Int)))]) (.exit 0) (stL 22 [(1, .one (tI w0_1))]) k k] rfl rfl (fun k => by kernel_rfl) ⟨Loops.ev h0, trivial⟩
noncomputable def l_heldStringS_F (x0 : List ByteArray) (x1 : Int) : Option (Int) :=
    if x0.length ≤ 9223372036854775807 then (l_heldStringS_l0 x0 0 x1).bind fun y => match y with
      | .ret w0_4 => (some (w0_4))
      | .x0 w0_1 => (some (w0_1)) else none
theorem l_heldStringS_D (x0 : List ByteArray) (x1 : Int) : Ans (l_heldStringS_F x0 x1) (fun r => Does E 105 [.one (.s .far () 1 (x0.map etS)), .one (tI x1)] [(false, [tI r])]) := by
  unfold l_heldStringS_F
  refine Ans.pre (fun hl1 => ?_)
  refine Ans.bind (fun y hy => ?_)
  replace hy := l_heldStringS_L0 x0 x0 0 x1 rfl hl1 y hy
  cases y with
  | ret w0_4 =>
    have h0 := hy
    exact Ans.some (l_heldStringS_P0 x0 x1 w0_4 h0)
  | x0 w0_1 =>
    have h0 := hy
    exact Ans.some (l_heldStringS_P1 x0 x1 w0_1 h0)
noncomputable def p_l_markStringS (x : List ByteArray) (k : Int) : (List ByteArray) × Int := (l_markStringS_F x k).getD ([], 0)
noncomputable def p_l_heldStringS (x : List ByteArray) (k : Int) : Int := (l_heldStringS_F x k).getD (-1)
theorem T_l_markStringS (x0 : List ByteArray) (x1 : Int) (h : l_markStringS_F x0 x1 = some (p_l_markStringS x0 x1)) : Does E 104 [.one (.s .own () 1 (x0.map etS)), .one (tI x1)] [(false, [.s .own () 1 (((p_l_markStringS x0 x1).1).map etS)]), (false, [tI ((p_l_markStringS x0 x1).2)])] := by
  exact l_markStringS_D x0 x1 _ h
theorem T_l_heldStringS (x0 : List ByteArray) (x1 : Int) (h : l_heldStringS_F x0 x1 = some (p_l_heldStringS x0 x1)) : Does E 105 [.one (.s .far () 1 (x0.map etS)), .one (tI x1)] [(false, [tI (p_l_heldStringS x0 x1)])] := by
  exact l_heldStringS_D x0 x1 _ h
theorem mk_l_markStringS : ∀ (rest done : List ByteArray) (i : Nat) (k : Int), (∀ y ∈ rest, Small.sm y) → 0 ≤ k → k + 1 * (rest.length : Int) ≤ 4611686018427387904 →
    ∃ new m, l_markStringS_l0 rest done i k = some (.x0 (done ++ new) m) ∧ k ≤ m ∧ m ≤ k + 1 * (rest.length : Int) ∧ new.length = rest.length ∧ (∀ y ∈ new, Small.sm y) ∧ ∀ j, l_heldStringS_l0 new j k = some (.x0 m)
  | [], done, i, k, _, h0, _ => ⟨[], k, by unfold l_markStringS_l0; rw [List.append_nil], by omega, by simp, rfl, fun y hy => (by cases hy), fun j => rfl⟩
  | x :: rest, done, i, k, h, h0, h1 => by
    have hx := h x (by simp)
    rw [List.length_cons] at h1 ⊢
    have t1 := ok_l_markText k (by omega)
    have w1 : inc k = k + 1 := inc_id _ (by omega) (by omega)
    obtain ⟨new, m, g1, g2, g3, g4, g5, g6⟩ := mk_l_markStringS rest (done ++ [(p_l_markText k)]) (i + 1) (k + 1) (fun y hy => h y (by simp [hy])) (by omega) (by omega)
    refine ⟨(p_l_markText k) :: new, m, ?_, by omega, by omega, by simp [g4], ?_, fun j => ?_⟩
    · unfold l_markStringS_l0
      simp only [t1.1, w1, if_true, g1, List.append_assoc, List.singleton_append]
    · intro y hy
      rcases List.mem_cons.1 hy with rfl | hy
      · exact t1.2
      · exact g5 y hy
    · unfold l_heldStringS_l0
      simp only [t1.1, w1, if_true, bne_self_eq_false, BEq.rfl, Bool.not_true, cond_false, cond_true, g6]
theorem ok_l_markStringS (l : List ByteArray) (k : Int) (h : Small.sm l) (h0 : 0 ≤ k) (h1 : k + 1050000 ≤ 4611686018427387904) : l_markStringS_F l k = some (p_l_markStringS l k) ∧ l_heldStringS_F (p_l_markStringS l k).1 k = some (p_l_heldStringS (p_l_markStringS l k).1 k) ∧ p_l_heldStringS (p_l_markStringS l k).1 k = (p_l_markStringS l k).2 ∧ k ≤ (p_l_markStringS l k).2 ∧ (p_l_markStringS l k).2 ≤ k + 1050000 ∧ Small.sm (p_l_markStringS l k).1 := by
  have hl := h.1
  obtain ⟨new, m, g1, g2, g3, g4, g5, g6⟩ := mk_l_markStringS l [] 0 k h.2 h0 (by omega)
  have e : l_markStringS_F l k = some (new, m) := by unfold l_markStringS_F; rw [if_pos (sm_wf_len h), g1]; rfl
  have p : p_l_markStringS l k = (new, m) := by unfold p_l_markStringS; rw [e]; rfl
  have e2 : l_heldStringS_F new k = some m := by unfold l_heldStringS_F; rw [if_pos (by omega), g6]; rfl
  have p2 : p_l_heldStringS new k = m := by unfold p_l_heldStringS; rw [e2]; rfl
  rw [p, p2]
  exact ⟨e, e2, rfl, g2, by omega, ⟨by show new.length ≤ 1050000; omega, g5⟩⟩
inductive l_markTaskS_X0 where
  | x0 (v0 : List GTask) (v1 : Int)
def l_markTaskS_Q0 (v0 : List GTask) (v1 : Int) (v5 : Int) : l_markTaskS_X0 → Prop
  | .x0 zv0 zv1 => Loops E 82 (lpAt Try.f82 0) (stL 52 [(0, .one (.s .own () 5 (v0.map (GTask.t .own)))), (1, .one (tI v1)), (5, .one (tI v5))]) (.exit 0) (stL 52 [(0, .one (.s .own () 5 (zv0.map (GTask.t .own)))), (1, .one (tI zv1))])
theorem l_markTaskS_R0_0 (v0 : List GTask) (v1 : Int) (v5 : Int) (g0 : GTask) (h0 : (decide (v5 < (v0.length : Int))) = true) (h1 : l_markText_F v1 = some (p_l_markText v1)) (h2 : getI v0 v5 = some g0) (h3 : l_markText_F (inc v1) = some (p_l_markText (inc v1))) (h4 : l_markStringS_F g0.f4 (inc (inc (inc (inc v1)))) = some (p_l_markStringS g0.f4 (inc (inc (inc (inc v1)))))) : Round E 82 (lpAt Try.f82 0) (stL 52 [(0, .one (.s .own () 5 (v0.map (GTask.t .own)))), (1, .one (tI v1)), (5, .one (tI v5))]) .normal (stL 52 [(0, .one (.s .own () 5 ((v0.set v5.toNat (GTask.mk (p_l_markText v1) (p_l_markText (inc v1)) (inc (inc v1)) ((Int.tmod (inc (inc (inc v1))) (3 : Int)) == (0 : Int)) ((p_l_markStringS g0.f4 (inc (inc (inc (inc v1))))).1))).map (GTask.t .own)))), (1, .one (tI ((p_l_markStringS g0.f4 (inc (inc (inc (inc v1))))).2))), (5, .one (tI (inc v5)))]) :=
  Round.path [.val (.int .i64 (v0.length : Int)), .b true, .ret [(false, [tS (p_l_markText v1)])], .row ((GTask.t .own) g0), .rows ((v0.set v5.toNat (GTask.mk (p_l_markText v1) g0.f1 g0.f2 g0.f3 g0.f4)).map (GTask.t .own)), .ret [(false, [tS (p_l_markText (inc v1))])], .row ((GTask.t .own) (GTask.mk (p_l_markText v1) g0.f1 g0.f2 g0.f3 g0.f4)), .rows ((v0.set v5.toNat (GTask.mk (p_l_markText v1) (p_l_markText (inc v1)) g0.f2 g0.f3 g0.f4)).map (GTask.t .own)), .row ((GTask.t .own) (GTask.mk (p_l_markText v1) (p_l_markText (inc v1)) g0.f2 g0.f3 g0.f4)), .rows ((v0.set v5.toNat (GTask.mk (p_l_markText v1) (p_l_markText (inc v1)) (inc (inc v1)) g0.f3 g0.f4)).map (GTask.t .own)), .row ((GTask.t .own) (GTask.mk (p_l_markText v1) (p_l_markText (inc v1)) (inc (inc v1)) g0.f3 g0.f4)), .rows ((v0.set v5.toNat (GTask.mk (p_l_markText v1) (p_l_markText (inc v1)) (inc (inc v1)) ((Int.tmod (inc (inc (inc v1))) (3 : Int)) == (0 : Int)) g0.f4)).map (GTask.t .own)), .row ((GTask.t .own) (GTask.mk (p_l_markText v1) (p_l_markText (inc v1)) (inc (inc v1)) ((Int.tmod (inc (inc (inc v1))) (3 : Int)) == (0 : Int)) g0.f4)), .row ((GTask.t .own) (GTask.mk (p_l_markText v1) (p_l_markText (inc v1)) (inc (inc v1)) ((Int.tmod (inc (inc (inc v1))) (3 : Int)) == (0 : Int)) g0.f4)), .ret [(false, [.s .own () 1 (((p_l_markStringS g0.f4 (inc (inc (inc (inc v1))))).1).map etS)]), (false, [tI ((p_l_markStringS g0.f4 (inc (inc (inc (inc v1))))).2)])], .row ((GTask.t .own) (GTask.mk (p_l_markText v1) (p_l_markText (inc v1)) (inc (inc v1)) ((Int.tmod (inc (inc (inc v1))) (3 : Int)) == (0 : Int)) g0.f4)), .rows ((v0.set v5.toNat (GTask.mk (p_l_markText v1) (p_l_markText (inc v1)) (inc (inc v1)) ((Int.tmod (inc (inc (inc v1))) (3 : Int)) == (0 : Int)) ((p_l_markStringS g0.f4 (inc (inc (inc (inc v1))))).1))).map (GTask.t .own))] [fun _ => ((v0.map (GTask.t .own)).length : Int) = (v0.length : Int), fun _ => (decide (v5 < (v0.length : Int))) = true, fun k => E.C k 81 [.one (tI v1)] = some [(false, [tS (p_l_markText v1)])], fun _ => 0 ≤ v5 ∧ v5 < ((v0.map (GTask.t .own)).length : Int), fun _ => (v0.map (GTask.t .own))[0 + v5.toNat]? = some ((GTask.t .own) g0), fun _ => (v0.map (GTask.t .own)).set (0 + v5.toNat) (spliceAt ((GTask.t .own) g0) 0 [tS (p_l_markText v1)]) = (v0.set v5.toNat (GTask.mk (p_l_markText v1) g0.f1 g0.f2 g0.f3 g0.f4)).map (GTask.t .own), fun k => E.C k 81 [.one (tI (inc v1))] = some [(false, [tS (p_l_markText (inc v1))])], fun _ => 0 ≤ v5 ∧ v5 < (((v0.set v5.toNat (GTask.mk (p_l_markText v1) g0.f1 g0.f2 g0.f3 g0.f4)).map (GTask.t .own)).length : Int), fun _ => ((v0.set v5.toNat (GTask.mk (p_l_markText v1) g0.f1 g0.f2 g0.f3 g0.f4)).map (GTask.t .own))[0 + v5.toNat]? = some ((GTask.t .own) (GTask.mk (p_l_markText v1) g0.f1 g0.f2 g0.f3 g0.f4)), fun _ => ((v0.set v5.toNat (GTask.mk (p_l_markText v1) g0.f1 g0.f2 g0.f3 g0.f4)).map (GTask.t .own)).set (0 + v5.toNat) (spliceAt ((GTask.t .own) (GTask.mk (p_l_markText v1) g0.f1 g0.f2 g0.f3 g0.f4)) 1 [tS (p_l_markText (inc v1))]) = (v0.set v5.toNat (GTask.mk (p_l_markText v1) (p_l_markText (inc v1)) g0.f2 g0.f3 g0.f4)).map (GTask.t .own), fun _ => 0 ≤ v5 ∧ v5 < (((v0.set v5.toNat (GTask.mk (p_l_markText v1) (p_l_markText (inc v1)) g0.f2 g0.f3 g0.f4)).map (GTask.t .own)).length : Int), fun _ => ((v0.set v5.toNat (GTask.mk (p_l_markText v1) (p_l_markText (inc v1)) g0.f2 g0.f3 g0.f4)).map (GTask.t .own))[0 + v5.toNat]? = some ((GTask.t .own) (GTask.mk (p_l_markText v1) (p_l_markText (inc v1)) g0.f2 g0.f3 g0.f4)), fun _ => ((v0.set v5.toNat (GTask.mk (p_l_markText v1) (p_l_markText (inc v1)) g0.f2 g0.f3 g0.f4)).map (GTask.t .own)).set (0 + v5.toNat) (spliceAt ((GTask.t .own) (GTask.mk (p_l_markText v1) (p_l_markText (inc v1)) g0.f2 g0.f3 g0.f4)) 2 [tI (inc (inc v1))]) = (v0.set v5.toNat (GTask.mk (p_l_markText v1) (p_l_markText (inc v1)) (inc (inc v1)) g0.f3 g0.f4)).map (GTask.t .own), fun _ => 0 ≤ v5 ∧ v5 < (((v0.set v5.toNat (GTask.mk (p_l_markText v1) (p_l_markText (inc v1)) (inc (inc v1)) g0.f3 g0.f4)).map (GTask.t .own)).length : Int), fun _ => ((v0.set v5.toNat (GTask.mk (p_l_markText v1) (p_l_markText (inc v1)) (inc (inc v1)) g0.f3 g0.f4)).map (GTask.t .own))[0 + v5.toNat]? = some ((GTask.t .own) (GTask.mk (p_l_markText v1) (p_l_markText (inc v1)) (inc (inc v1)) g0.f3 g0.f4)), fun _ => ((v0.set v5.toNat (GTask.mk (p_l_markText v1) (p_l_markText (inc v1)) (inc (inc v1)) g0.f3 g0.f4)).map (GTask.t .own)).set (0 + v5.toNat) (spliceAt ((GTask.t .own) (GTask.mk (p_l_markText v1) (p_l_markText (inc v1)) (inc (inc v1)) g0.f3 g0.f4)) 3 [tB ((Int.tmod (inc (inc (inc v1))) (3 : Int)) == (0 : Int))]) = (v0.set v5.toNat (GTask.mk (p_l_markText v1) (p_l_markText (inc v1)) (inc (inc v1)) ((Int.tmod (inc (inc (inc v1))) (3 : Int)) == (0 : Int)) g0.f4)).map (GTask.t .own), fun _ => 0 ≤ v5 ∧ v5 < (((v0.set v5.toNat (GTask.mk (p_l_markText v1) (p_l_markText (inc v1)) (inc (inc v1)) ((Int.tmod (inc (inc (inc v1))) (3 : Int)) == (0 : Int)) g0.f4)).map (GTask.t .own)).length : Int), fun _ => ((v0.set v5.toNat (GTask.mk (p_l_markText v1) (p_l_markText (inc v1)) (inc (inc v1)) ((Int.tmod (inc (inc (inc v1))) (3 : Int)) == (0 : Int)) g0.f4)).map (GTask.t .own))[0 + v5.toNat]? = some ((GTask.t .own) (GTask.mk (p_l_markText v1) (p_l_markText (inc v1)) (inc (inc v1)) ((Int.tmod (inc (inc (inc v1))) (3 : Int)) == (0 : Int)) g0.f4)), fun _ => ((v0.set v5.toNat (GTask.mk (p_l_markText v1) (p_l_markText (inc v1)) (inc (inc v1)) ((Int.tmod (inc (inc (inc v1))) (3 : Int)) == (0 : Int)) g0.f4)).map (GTask.t .own))[0 + v5.toNat]? = some ((GTask.t .own) (GTask.mk (p_l_markText v1) (p_l_markText (inc v1)) (inc (inc v1)) ((Int.tmod (inc (inc (inc v1))) (3 : Int)) == (0 : Int)) g0.f4)), fun _ => (g0.f4.map etS).length = (g0.f4.map etS).length, fun k => E.C k 104 [.one (.s .own () 1 (g0.f4.map etS)), .one (tI (inc (inc (inc (inc v1)))))] = some [(false, [.s .own () 1 (((p_l_markStringS g0.f4 (inc (inc (inc (inc v1))))).1).map etS)]), (false, [tI ((p_l_markStringS g0.f4 (inc (inc (inc (inc v1))))).2)])], fun _ => ((v0.set v5.toNat (GTask.mk (p_l_markText v1) (p_l_markText (inc v1)) (inc (inc v1)) ((Int.tmod (inc (inc (inc v1))) (3 : Int)) == (0 : Int)) g0.f4)).map (GTask.t .own))[0 + v5.toNat]? = some ((GTask.t .own) (GTask.mk (p_l_markText v1) (p_l_markText (inc v1)) (inc (inc v1)) ((Int.tmod (inc (inc (inc v1))) (3 : Int)) == (0 : Int)) g0.f4)), fun _ => ((v0.set v5.toNat (GTask.mk (p_l_markText v1) (p_l_markText (inc v1)) (inc (inc v1)) ((Int.tmod (inc (inc (inc v1))) (3 : Int)) == (0 : Int)) g0.f4)).map (GTask.t .own)).set (0 + v5.toNat) (((GTask.t .own) (GTask.mk (p_l_markText v1) (p_l_markText (inc v1)) (inc (inc v1)) ((Int.tmod (inc (inc (inc v1))) (3 : Int)) == (0 : Int)) g0.f4)).set 4 (.s .own () 1 (((p_l_markStringS g0.f4 (inc (inc (inc (inc v1))))).1).map etS))) = (v0.set v5.toNat (GTask.mk (p_l_markText v1) (p_l_markText (inc v1)) (inc (inc v1)) ((Int.tmod (inc (inc (inc v1))) (3 : Int)) == (0 : Int)) ((p_l_markStringS g0.f4 (inc (inc (inc (inc v1))))).1))).map (GTask.t .own)] (fun k => by kernel_rfl) ⟨Ev.c lenMap, Ev.c h0, T_l_markText v1 h1, Ev.c (getLt h2), Ev.c (getRow0 h2), Ev.c (setMap (by rfl)), T_l_markText (inc v1) h3, Ev.c (getLt (getI_set h2)), Ev.c (getRow0 (getI_set h2)), Ev.c (setMap2 (by rfl)), Ev.c (getLt (getI_set h2)), Ev.c (getRow0 (getI_set h2)), Ev.c (setMap2 (by rfl)), Ev.c (getLt (getI_set h2)), Ev.c (getRow0 (getI_set h2)), Ev.c (setMap2 (by rfl)), Ev.c (getLt (getI_set h2)), Ev.c (getRow0 (getI_set h2)), Ev.c (getRow0 (getI_set h2)), Ev.c rfl, T_l_markStringS g0.f4 (inc (inc (inc (inc v1)))) h4, Ev.c (getRow0 (getI_set h2)), Ev.c (setMap2 (by rfl)), trivial⟩
theorem l_markTaskS_R0_1 (v0 : List GTask) (v1 : Int) (v5 : Int) (h0 : (decide (v5 < (v0.length : Int))) = false) : Round E 82 (lpAt Try.f82 0) (stL 52 [(0, .one (.s .own () 5 (v0.map (GTask.t .own)))), (1, .one (tI v1)), (5, .one (tI v5))]) (.exit 0) (stL 52 [(0, .one (.s .own () 5 (v0.map (GTask.t .own)))), (1, .one (tI v1))]) :=
  Round.path [.val (.int .i64 (v0.length : Int)), .b false] [fun _ => ((v0.map (GTask.t .own)).length : Int) = (v0.length : Int), fun _ => (decide (v5 < (v0.length : Int))) = false] (fun k => by kernel_rfl) ⟨Ev.c lenMap, Ev.c h0, trivial⟩
noncomputable def l_markTaskS_l0  : List GTask → List GTask → Nat → Int → Option l_markTaskS_X0
  | [], done, i, v1 => some (.x0 done v1)
  | hd :: rest, done, i, v1 => if l_markText_F v1 = some (p_l_markText v1) then if l_markText_F (inc v1) = some (p_l_markText (inc v1)) then if l_markStringS_F hd.f4 (inc (inc (inc (inc v1)))) = some (p_l_markStringS hd.f4 (inc (inc (inc (inc v1))))) then l_markTaskS_l0 rest (done ++ [(GTask.mk (p_l_markText v1) (p_l_markText (inc v1)) (inc (inc v1)) ((Int.tmod (inc (inc (inc v1))) (3 : Int)) == (0 : Int)) ((p_l_markStringS hd.f4 (inc (inc (inc (inc v1))))).1))]) (i + 1) ((p_l_markStringS hd.f4 (inc (inc (inc (inc v1))))).2) else none else none else none
theorem l_markTaskS_L0  (rest : List GTask) : ∀ (done : List GTask) (i : Nat) (v1 : Int), i = done.length → (done ++ rest).length ≤ 9223372036854775807 → Ans (l_markTaskS_l0 rest done i v1) (l_markTaskS_Q0 (done ++ rest) v1 (i : Int)) := by
  induction rest with
  | nil =>
    intro done i v1 hi hl
    rw [List.append_nil]
    have hb := mapEnd hi
    unfold l_markTaskS_l0
    exact Ans.some (Loops.stop (l_markTaskS_R0_1 done v1 (i : Int) hb) (by intro h; cases h))
  | cons hd rest ih =>
    intro done i v1 hi hl
    have hb := mapMore (hd := hd) (rest := rest) hi
    have hw := mapNext (hd := hd) (rest := rest) hi hl
    have hg := mapGet (hd := hd) (rest := rest) hi
    unfold l_markTaskS_l0
    refine Ans.pre (fun h1 => ?_)
    refine Ans.pre (fun h3 => ?_)
    refine Ans.pre (fun h4 => ?_)
    exact (ih (done ++ [(GTask.mk (p_l_markText v1) (p_l_markText (inc v1)) (inc (inc v1)) ((Int.tmod (inc (inc (inc v1))) (3 : Int)) == (0 : Int)) ((p_l_markStringS hd.f4 (inc (inc (inc (inc v1))))).1))]) (i + 1) ((p_l_markStringS hd.f4 (inc (inc (inc (inc v1))))).2) (by simp [hi]) (by simpa using hl)).mono fun y hy => by have r := l_markTaskS_R0_0 (done ++ hd :: rest) v1 (i : Int) hd hb h1 hg h3 h4; rw [hw, setSplit hi] at r; cases y <;> exact Loops.next r hy
theorem l_markTaskS_P0 (x0 : List GTask) (x1 : Int) (w0_0 : List GTask) (w0_1 : Int) (h0 : Loops E 82 (lpAt Try.f82 0) (stL 52 [(0, .one (.s .own () 5 (x0.map (GTask.t .own)))), (1, .one (tI x1)), (5, .one (tI (0 : Int)))]) (.exit 0) (stL 52 [(0, .one (.s .own () 5 (w0_0.map (GTask.t .own)))), (1, .one (tI w0_1))])) : Does E 82 [.one (.s .own () 5 (x0.map (GTask.t .own))), .one (tI x1)] [(false, [.s .own () 5 (w0_0.map (GTask.t .own))]), (false, [tI w0_1])] :=
  Does.path (fn := Try.f82) [.lp (.exit 0) (stL 52 [(0, .one (.s .own () 5 (w0_0.map (GTask.t .own)))), (1, .one (tI w0_1))])] [fun k => LoopK E 82 (lpAt Try.f82 0) (stL 52 [(0, .one (.s .own () 5 (x0.map (GTask.t .own)))), (1, .one (tI x1)), (5, .one (tI (0 : Int)))]) (.exit 0) (stL 52 [(0, .one (.s .own () 5 (w0_0.map (GTask.t .own)))), (1, .one (tI w0_1))]) k k] rfl rfl (fun k => by kernel_rfl) ⟨Loops.ev h0, trivial⟩
noncomputable def l_markTaskS_F (x0 : List GTask) (x1 : Int) : Option ((List GTask) × Int) :=
    if x0.length ≤ 9223372036854775807 then (l_markTaskS_l0 x0 [] 0 x1).bind fun y => match y with
      | .x0 w0_0 w0_1 => (some (w0_0, w0_1)) else none
theorem l_markTaskS_D (x0 : List GTask) (x1 : Int) : Ans (l_markTaskS_F x0 x1) (fun r => Does E 82 [.one (.s .own () 5 (x0.map (GTask.t .own))), .one (tI x1)] [(false, [.s .own () 5 (r.1.map (GTask.t .own))]), (false, [tI r.2])]) := by
  unfold l_markTaskS_F
  refine Ans.pre (fun hl1 => ?_)
  refine Ans.bind (fun y hy => ?_)
  replace hy := l_markTaskS_L0 x0 [] 0 x1 rfl hl1 y hy
  cases y with
  | x0 w0_0 w0_1 =>
    have h0 := hy
    exact Ans.some (l_markTaskS_P0 x0 x1 w0_0 w0_1 h0)
inductive l_heldTaskS_X0 where
  | ret (v4 : Int)
  | x0 (v1 : Int)
def l_heldTaskS_Q0 {q0 : Kd} (v0 : List GTask) (v1 : Int) (v5 : Int) : l_heldTaskS_X0 → Prop
  | .ret zv4 => Loops E 84 (lpAt Try.f84 0) (stL 62 [(0, .one (.s .far () 5 (v0.map (GTask.t q0)))), (1, .one (tI v1)), (5, .one (tI v5))]) .ret (stL 62 [(4, .one (tI zv4))])
  | .x0 zv1 => Loops E 84 (lpAt Try.f84 0) (stL 62 [(0, .one (.s .far () 5 (v0.map (GTask.t q0)))), (1, .one (tI v1)), (5, .one (tI v5))]) (.exit 0) (stL 62 [(1, .one (tI zv1))])
theorem l_heldTaskS_R0_0 {q0 : Kd} (v0 : List GTask) (v1 : Int) (v5 : Int) (g0 : GTask) (h0 : (decide (v5 < (v0.length : Int))) = true) (h1 : getI v0 v5 = some g0) (h2 : l_markText_F v1 = some (p_l_markText v1)) (h3 : (!(g0.f0.toList == (p_l_markText v1).toList)) = true) : Round E 84 (lpAt Try.f84 0) (stL 62 [(0, .one (.s .far () 5 (v0.map (GTask.t q0)))), (1, .one (tI v1)), (5, .one (tI v5))]) .ret (stL 62 [(4, .one (tI (-1 : Int)))]) :=
  Round.path [.val (.int .i64 (v0.length : Int)), .b true, .row ((GTask.t q0) g0), .ret [(false, [tS (p_l_markText v1)])], .b true] [fun _ => ((v0.map (GTask.t q0)).length : Int) = (v0.length : Int), fun _ => (decide (v5 < (v0.length : Int))) = true, fun _ => 0 ≤ v5 ∧ (v0.map (GTask.t q0))[v5.toNat]? = some ((GTask.t q0) g0), fun k => E.C k 81 [.one (tI v1)] = some [(false, [tS (p_l_markText v1)])], fun _ => (!(g0.f0.toList == (p_l_markText v1).toList)) = true] (fun k => by kernel_rfl) ⟨Ev.c lenMap, Ev.c h0, Ev.c (getRow h1), T_l_markText v1 h2, Ev.c h3, trivial⟩
theorem l_heldTaskS_R0_1 {q0 : Kd} (v0 : List GTask) (v1 : Int) (v5 : Int) (g0 : GTask) (h0 : (decide (v5 < (v0.length : Int))) = true) (h1 : getI v0 v5 = some g0) (h2 : l_markText_F v1 = some (p_l_markText v1)) (h3 : (!(g0.f0.toList == (p_l_markText v1).toList)) = false) (h4 : l_markText_F (inc v1) = some (p_l_markText (inc v1))) (h5 : (!(g0.f1.toList == (p_l_markText (inc v1)).toList)) = true) : Round E 84 (lpAt Try.f84 0) (stL 62 [(0, .one (.s .far () 5 (v0.map (GTask.t q0)))), (1, .one (tI v1)), (5, .one (tI v5))]) .ret (stL 62 [(4, .one (tI (-1 : Int)))]) :=
  Round.path [.val (.int .i64 (v0.length : Int)), .b true, .row ((GTask.t q0) g0), .ret [(false, [tS (p_l_markText v1)])], .b false, .row ((GTask.t q0) g0), .ret [(false, [tS (p_l_markText (inc v1))])], .b true] [fun _ => ((v0.map (GTask.t q0)).length : Int) = (v0.length : Int), fun _ => (decide (v5 < (v0.length : Int))) = true, fun _ => 0 ≤ v5 ∧ (v0.map (GTask.t q0))[v5.toNat]? = some ((GTask.t q0) g0), fun k => E.C k 81 [.one (tI v1)] = some [(false, [tS (p_l_markText v1)])], fun _ => (!(g0.f0.toList == (p_l_markText v1).toList)) = false, fun _ => 0 ≤ v5 ∧ (v0.map (GTask.t q0))[v5.toNat]? = some ((GTask.t q0) g0), fun k => E.C k 81 [.one (tI (inc v1))] = some [(false, [tS (p_l_markText (inc v1))])], fun _ => (!(g0.f1.toList == (p_l_markText (inc v1)).toList)) = true] (fun k => by kernel_rfl) ⟨Ev.c lenMap, Ev.c h0, Ev.c (getRow h1), T_l_markText v1 h2, Ev.c h3, Ev.c (getRow h1), T_l_markText (inc v1) h4, Ev.c h5, trivial⟩
theorem l_heldTaskS_R0_2 {q0 : Kd} (v0 : List GTask) (v1 : Int) (v5 : Int) (g0 : GTask) (h0 : (decide (v5 < (v0.length : Int))) = true) (h1 : getI v0 v5 = some g0) (h2 : l_markText_F v1 = some (p_l_markText v1)) (h3 : (!(g0.f0.toList == (p_l_markText v1).toList)) = false) (h4 : l_markText_F (inc v1) = some (p_l_markText (inc v1))) (h5 : (!(g0.f1.toList == (p_l_markText (inc v1)).toList)) = false) (h6 : (g0.f2 != (inc (inc v1))) = true) : Round E 84 (lpAt Try.f84 0) (stL 62 [(0, .one (.s .far () 5 (v0.map (GTask.t q0)))), (1, .one (tI v1)), (5, .one (tI v5))]) .ret (stL 62 [(4, .one (tI (-1 : Int)))]) :=
  Round.path [.val (.int .i64 (v0.length : Int)), .b true, .row ((GTask.t q0) g0), .ret [(false, [tS (p_l_markText v1)])], .b false, .row ((GTask.t q0) g0), .ret [(false, [tS (p_l_markText (inc v1))])], .b false, .row ((GTask.t q0) g0), .b true] [fun _ => ((v0.map (GTask.t q0)).length : Int) = (v0.length : Int), fun _ => (decide (v5 < (v0.length : Int))) = true, fun _ => 0 ≤ v5 ∧ (v0.map (GTask.t q0))[v5.toNat]? = some ((GTask.t q0) g0), fun k => E.C k 81 [.one (tI v1)] = some [(false, [tS (p_l_markText v1)])], fun _ => (!(g0.f0.toList == (p_l_markText v1).toList)) = false, fun _ => 0 ≤ v5 ∧ (v0.map (GTask.t q0))[v5.toNat]? = some ((GTask.t q0) g0), fun k => E.C k 81 [.one (tI (inc v1))] = some [(false, [tS (p_l_markText (inc v1))])], fun _ => (!(g0.f1.toList == (p_l_markText (inc v1)).toList)) = false, fun _ => 0 ≤ v5 ∧ (v0.map (GTask.t q0))[v5.toNat]? = some ((GTask.t q0) g0), fun _ => (g0.f2 != (inc (inc v1))) = true] (fun k => by kernel_rfl) ⟨Ev.c lenMap, Ev.c h0, Ev.c (getRow h1), T_l_markText v1 h2, Ev.c h3, Ev.c (getRow h1), T_l_markText (inc v1) h4, Ev.c h5, Ev.c (getRow h1), Ev.c h6, trivial⟩
theorem l_heldTaskS_R0_3 {q0 : Kd} (v0 : List GTask) (v1 : Int) (v5 : Int) (g0 : GTask) (h0 : (decide (v5 < (v0.length : Int))) = true) (h1 : getI v0 v5 = some g0) (h2 : l_markText_F v1 = some (p_l_markText v1)) (h3 : (!(g0.f0.toList == (p_l_markText v1).toList)) = false) (h4 : l_markText_F (inc v1) = some (p_l_markText (inc v1))) (h5 : (!(g0.f1.toList == (p_l_markText (inc v1)).toList)) = false) (h6 : (g0.f2 != (inc (inc v1))) = false) (h7 : (!(g0.f3 == ((Int.tmod (inc (inc (inc v1))) (3 : Int)) == (0 : Int)))) = true) : Round E 84 (lpAt Try.f84 0) (stL 62 [(0, .one (.s .far () 5 (v0.map (GTask.t q0)))), (1, .one (tI v1)), (5, .one (tI v5))]) .ret (stL 62 [(4, .one (tI (-1 : Int)))]) :=
  Round.path [.val (.int .i64 (v0.length : Int)), .b true, .row ((GTask.t q0) g0), .ret [(false, [tS (p_l_markText v1)])], .b false, .row ((GTask.t q0) g0), .ret [(false, [tS (p_l_markText (inc v1))])], .b false, .row ((GTask.t q0) g0), .b false, .row ((GTask.t q0) g0), .no, .no, .b true] [fun _ => ((v0.map (GTask.t q0)).length : Int) = (v0.length : Int), fun _ => (decide (v5 < (v0.length : Int))) = true, fun _ => 0 ≤ v5 ∧ (v0.map (GTask.t q0))[v5.toNat]? = some ((GTask.t q0) g0), fun k => E.C k 81 [.one (tI v1)] = some [(false, [tS (p_l_markText v1)])], fun _ => (!(g0.f0.toList == (p_l_markText v1).toList)) = false, fun _ => 0 ≤ v5 ∧ (v0.map (GTask.t q0))[v5.toNat]? = some ((GTask.t q0) g0), fun k => E.C k 81 [.one (tI (inc v1))] = some [(false, [tS (p_l_markText (inc v1))])], fun _ => (!(g0.f1.toList == (p_l_markText (inc v1)).toList)) = false, fun _ => 0 ≤ v5 ∧ (v0.map (GTask.t q0))[v5.toNat]? = some ((GTask.t q0) g0), fun _ => (g0.f2 != (inc (inc v1))) = false, fun _ => 0 ≤ v5 ∧ (v0.map (GTask.t q0))[v5.toNat]? = some ((GTask.t q0) g0), fun _ => (!(g0.f3 == ((Int.tmod (inc (inc (inc v1))) (3 : Int)) == (0 : Int)))) = true] (fun k => by kernel_rfl) ⟨Ev.c lenMap, Ev.c h0, Ev.c (getRow h1), T_l_markText v1 h2, Ev.c h3, Ev.c (getRow h1), T_l_markText (inc v1) h4, Ev.c h5, Ev.c (getRow h1), Ev.c h6, Ev.c (getRow h1), Ev.c h7, trivial⟩
theorem l_heldTaskS_R0_4 {q0 : Kd} (v0 : List GTask) (v1 : Int) (v5 : Int) (g0 : GTask) (h0 : (decide (v5 < (v0.length : Int))) = true) (h1 : getI v0 v5 = some g0) (h2 : l_markText_F v1 = some (p_l_markText v1)) (h3 : (!(g0.f0.toList == (p_l_markText v1).toList)) = false) (h4 : l_markText_F (inc v1) = some (p_l_markText (inc v1))) (h5 : (!(g0.f1.toList == (p_l_markText (inc v1)).toList)) = false) (h6 : (g0.f2 != (inc (inc v1))) = false) (h7 : (!(g0.f3 == ((Int.tmod (inc (inc (inc v1))) (3 : Int)) == (0 : Int)))) = false) (h8 : l_heldStringS_F g0.f4 (inc (inc (inc (inc v1)))) = some (p_l_heldStringS g0.f4 (inc (inc (inc (inc v1)))))) (h9 : (decide ((p_l_heldStringS g0.f4 (inc (inc (inc (inc v1))))) < (0 : Int))) = true) : Round E 84 (lpAt Try.f84 0) (stL 62 [(0, .one (.s .far () 5 (v0.map (GTask.t q0)))), (1, .one (tI v1)), (5, .one (tI v5))]) .ret (stL 62 [(4, .one (tI (-1 : Int)))]) :=
  Round.path [.val (.int .i64 (v0.length : Int)), .b true, .row ((GTask.t q0) g0), .ret [(false, [tS (p_l_markText v1)])], .b false, .row ((GTask.t q0) g0), .ret [(false, [tS (p_l_markText (inc v1))])], .b false, .row ((GTask.t q0) g0), .b false, .row ((GTask.t q0) g0), .no, .no, .b false, .row ((GTask.t q0) g0), .ret [(false, [tI (p_l_heldStringS g0.f4 (inc (inc (inc (inc v1)))))])], .b true] [fun _ => ((v0.map (GTask.t q0)).length : Int) = (v0.length : Int), fun _ => (decide (v5 < (v0.length : Int))) = true, fun _ => 0 ≤ v5 ∧ (v0.map (GTask.t q0))[v5.toNat]? = some ((GTask.t q0) g0), fun k => E.C k 81 [.one (tI v1)] = some [(false, [tS (p_l_markText v1)])], fun _ => (!(g0.f0.toList == (p_l_markText v1).toList)) = false, fun _ => 0 ≤ v5 ∧ (v0.map (GTask.t q0))[v5.toNat]? = some ((GTask.t q0) g0), fun k => E.C k 81 [.one (tI (inc v1))] = some [(false, [tS (p_l_markText (inc v1))])], fun _ => (!(g0.f1.toList == (p_l_markText (inc v1)).toList)) = false, fun _ => 0 ≤ v5 ∧ (v0.map (GTask.t q0))[v5.toNat]? = some ((GTask.t q0) g0), fun _ => (g0.f2 != (inc (inc v1))) = false, fun _ => 0 ≤ v5 ∧ (v0.map (GTask.t q0))[v5.toNat]? = some ((GTask.t q0) g0), fun _ => (!(g0.f3 == ((Int.tmod (inc (inc (inc v1))) (3 : Int)) == (0 : Int)))) = false, fun _ => 0 ≤ v5 ∧ (v0.map (GTask.t q0))[v5.toNat]? = some ((GTask.t q0) g0), fun k => E.C k 105 [.one (.s .far () 1 (g0.f4.map etS)), .one (tI (inc (inc (inc (inc v1)))))] = some [(false, [tI (p_l_heldStringS g0.f4 (inc (inc (inc (inc v1)))))])], fun _ => (decide ((p_l_heldStringS g0.f4 (inc (inc (inc (inc v1))))) < (0 : Int))) = true] (fun k => by kernel_rfl) ⟨Ev.c lenMap, Ev.c h0, Ev.c (getRow h1), T_l_markText v1 h2, Ev.c h3, Ev.c (getRow h1), T_l_markText (inc v1) h4, Ev.c h5, Ev.c (getRow h1), Ev.c h6, Ev.c (getRow h1), Ev.c h7, Ev.c (getRow h1), T_l_heldStringS g0.f4 (inc (inc (inc (inc v1)))) h8, Ev.c h9, trivial⟩
theorem l_heldTaskS_R0_5 {q0 : Kd} (v0 : List GTask) (v1 : Int) (v5 : Int) (g0 : GTask) (h0 : (decide (v5 < (v0.length : Int))) = true) (h1 : getI v0 v5 = some g0) (h2 : l_markText_F v1 = some (p_l_markText v1)) (h3 : (!(g0.f0.toList == (p_l_markText v1).toList)) = false) (h4 : l_markText_F (inc v1) = some (p_l_markText (inc v1))) (h5 : (!(g0.f1.toList == (p_l_markText (inc v1)).toList)) = false) (h6 : (g0.f2 != (inc (inc v1))) = false) (h7 : (!(g0.f3 == ((Int.tmod (inc (inc (inc v1))) (3 : Int)) == (0 : Int)))) = false) (h8 : l_heldStringS_F g0.f4 (inc (inc (inc (inc v1)))) = some (p_l_heldStringS g0.f4 (inc (inc (inc (inc v1)))))) (h9 : (decide ((p_l_heldStringS g0.f4 (inc (inc (inc (inc v1))))) < (0 : Int))) = false) : Round E 84 (lpAt Try.f84 0) (stL 62 [(0, .one (.s .far () 5 (v0.map (GTask.t q0)))), (1, .one (tI v1)), (5, .one (tI v5))]) .normal (stL 62 [(0, .one (.s .far () 5 (v0.map (GTask.t q0)))), (1, .one (tI (p_l_heldStringS g0.f4 (inc (inc (inc (inc v1))))))), (5, .one (tI (inc v5)))]) :=
  Round.path [.val (.int .i64 (v0.length : Int)), .b true, .row ((GTask.t q0) g0), .ret [(false, [tS (p_l_markText v1)])], .b false, .row ((GTask.t q0) g0), .ret [(false, [tS (p_l_markText (inc v1))])], .b false, .row ((GTask.t q0) g0), .b false, .row ((GTask.t q0) g0), .no, .no, .b false, .row ((GTask.t q0) g0), .ret [(false, [tI (p_l_heldStringS g0.f4 (inc (inc (inc (inc v1)))))])], .b false] [fun _ => ((v0.map (GTask.t q0)).length : Int) = (v0.length : Int), fun _ => (decide (v5 < (v0.length : Int))) = true, fun _ => 0 ≤ v5 ∧ (v0.map (GTask.t q0))[v5.toNat]? = some ((GTask.t q0) g0), fun k => E.C k 81 [.one (tI v1)] = some [(false, [tS (p_l_markText v1)])], fun _ => (!(g0.f0.toList == (p_l_markText v1).toList)) = false, fun _ => 0 ≤ v5 ∧ (v0.map (GTask.t q0))[v5.toNat]? = some ((GTask.t q0) g0), fun k => E.C k 81 [.one (tI (inc v1))] = some [(false, [tS (p_l_markText (inc v1))])], fun _ => (!(g0.f1.toList == (p_l_markText (inc v1)).toList)) = false, fun _ => 0 ≤ v5 ∧ (v0.map (GTask.t q0))[v5.toNat]? = some ((GTask.t q0) g0), fun _ => (g0.f2 != (inc (inc v1))) = false, fun _ => 0 ≤ v5 ∧ (v0.map (GTask.t q0))[v5.toNat]? = some ((GTask.t q0) g0), fun _ => (!(g0.f3 == ((Int.tmod (inc (inc (inc v1))) (3 : Int)) == (0 : Int)))) = false, fun _ => 0 ≤ v5 ∧ (v0.map (GTask.t q0))[v5.toNat]? = some ((GTask.t q0) g0), fun k => E.C k 105 [.one (.s .far () 1 (g0.f4.map etS)), .one (tI (inc (inc (inc (inc v1)))))] = some [(false, [tI (p_l_heldStringS g0.f4 (inc (inc (inc (inc v1)))))])], fun _ => (decide ((p_l_heldStringS g0.f4 (inc (inc (inc (inc v1))))) < (0 : Int))) = false] (fun k => by kernel_rfl) ⟨Ev.c lenMap, Ev.c h0, Ev.c (getRow h1), T_l_markText v1 h2, Ev.c h3, Ev.c (getRow h1), T_l_markText (inc v1) h4, Ev.c h5, Ev.c (getRow h1), Ev.c h6, Ev.c (getRow h1), Ev.c h7, Ev.c (getRow h1), T_l_heldStringS g0.f4 (inc (inc (inc (inc v1)))) h8, Ev.c h9, trivial⟩
theorem l_heldTaskS_R0_6 {q0 : Kd} (v0 : List GTask) (v1 : Int) (v5 : Int) (h0 : (decide (v5 < (v0.length : Int))) = false) : Round E 84 (lpAt Try.f84 0) (stL 62 [(0, .one (.s .far () 5 (v0.map (GTask.t q0)))), (1, .one (tI v1)), (5, .one (tI v5))]) (.exit 0) (stL 62 [(1, .one (tI v1))]) :=
  Round.path [.val (.int .i64 (v0.length : Int)), .b false] [fun _ => ((v0.map (GTask.t q0)).length : Int) = (v0.length : Int), fun _ => (decide (v5 < (v0.length : Int))) = false] (fun k => by kernel_rfl) ⟨Ev.c lenMap, Ev.c h0, trivial⟩
noncomputable def l_heldTaskS_l0  : List GTask → Nat → Int → Option l_heldTaskS_X0
  | [], i, v1 => some (.x0 v1)
  | hd :: rest, i, v1 => if l_markText_F v1 = some (p_l_markText v1) then cond (!(hd.f0.toList == (p_l_markText v1).toList))
    (some (.ret (-1 : Int)))
    (if l_markText_F (inc v1) = some (p_l_markText (inc v1)) then cond (!(hd.f1.toList == (p_l_markText (inc v1)).toList))
      (some (.ret (-1 : Int)))
      (cond (hd.f2 != (inc (inc v1)))
        (some (.ret (-1 : Int)))
        (cond (!(hd.f3 == ((Int.tmod (inc (inc (inc v1))) (3 : Int)) == (0 : Int))))
          (some (.ret (-1 : Int)))
          (if l_heldStringS_F hd.f4 (inc (inc (inc (inc v1)))) = some (p_l_heldStringS hd.f4 (inc (inc (inc (inc v1))))) then cond (decide ((p_l_heldStringS hd.f4 (inc (inc (inc (inc v1))))) < (0 : Int)))
            (some (.ret (-1 : Int)))
            (l_heldTaskS_l0 rest (i + 1) (p_l_heldStringS hd.f4 (inc (inc (inc (inc v1)))))) else none))) else none) else none
theorem l_heldTaskS_L0 {q0 : Kd} (v0 : List GTask) (rest : List GTask) : ∀ (i : Nat) (v1 : Int), (v0).drop i = rest → v0.length ≤ 9223372036854775807 → Ans (l_heldTaskS_l0 rest i v1) (l_heldTaskS_Q0 (q0 := q0) v0 v1 (i : Int)) := by
  induction rest with
  | nil =>
    intro i v1 hE hl
    have hb := foldEnd hE
    unfold l_heldTaskS_l0
    exact Ans.some (Loops.stop (l_heldTaskS_R0_6 (q0 := q0) v0 v1 (i : Int) hb) (by intro h; cases h))
  | cons hd rest ih =>
    intro i v1 hE hl
    have hb := foldMore hE
    have hw := foldNext hE hl
    have hE2 := foldRest hE
    have hg := foldGet hE
    unfold l_heldTaskS_l0
    refine Ans.pre (fun h2 => ?_)
    refine Ans.ite (fun h3 => ?_) (fun h3 => ?_)
    · exact Ans.some (Loops.stop (l_heldTaskS_R0_0 (q0 := q0) v0 v1 (i : Int) hd hb hg h2 h3) (by intro h; cases h))
    · refine Ans.pre (fun h4 => ?_)
      refine Ans.ite (fun h5 => ?_) (fun h5 => ?_)
      · exact Ans.some (Loops.stop (l_heldTaskS_R0_1 (q0 := q0) v0 v1 (i : Int) hd hb hg h2 h3 h4 h5) (by intro h; cases h))
      · refine Ans.ite (fun h6 => ?_) (fun h6 => ?_)
        · exact Ans.some (Loops.stop (l_heldTaskS_R0_2 (q0 := q0) v0 v1 (i : Int) hd hb hg h2 h3 h4 h5 h6) (by intro h; cases h))
        · refine Ans.ite (fun h7 => ?_) (fun h7 => ?_)
          · exact Ans.some (Loops.stop (l_heldTaskS_R0_3 (q0 := q0) v0 v1 (i : Int) hd hb hg h2 h3 h4 h5 h6 h7) (by intro h; cases h))
          · refine Ans.pre (fun h8 => ?_)
            refine Ans.ite (fun h9 => ?_) (fun h9 => ?_)
            · exact Ans.some (Loops.stop (l_heldTaskS_R0_4 (q0 := q0) v0 v1 (i : Int) hd hb hg h2 h3 h4 h5 h6 h7 h8 h9) (by intro h; cases h))
            · exact (ih (i + 1) (p_l_heldStringS hd.f4 (inc (inc (inc (inc v1))))) hE2 hl).mono fun y hy => by have r := l_heldTaskS_R0_5 (q0 := q0) v0 v1 (i : Int) hd hb hg h2 h3 h4 h5 h6 h7 h8 h9; rw [hw] at r; cases y <;> exact Loops.next r hy
theorem l_heldTaskS_P0 {q0 : Kd} (x0 : List GTask) (x1 : Int) (w0_4 : Int) (h0 : Loops E 84 (lpAt Try.f84 0) (stL 62 [(0, .one (.s .far () 5 (x0.map (GTask.t q0)))), (1, .one (tI x1)), (5, .one (tI (0 : Int)))]) .ret (stL 62 [(4, .one (tI w0_4))])) : Does E 84 [.one (.s .far () 5 (x0.map (GTask.t q0))), .one (tI x1)] [(false, [tI w0_4])] :=
  Does.path (fn := Try.f84) [.lp .ret (stL 62 [(4, .one (tI w0_4))])] [fun k => LoopK E 84 (lpAt Try.f84 0) (stL 62 [(0, .one (.s .far () 5 (x0.map (GTask.t q0)))), (1, .one (tI x1)), (5, .one (tI (0 : Int)))]) .ret (stL 62 [(4, .one (tI w0_4))]) k k] rfl rfl (fun k => by kernel_rfl) ⟨Loops.ev h0, trivial⟩
theorem l_heldTaskS_P1 {q0 : Kd} (x0 : List GTask) (x1 : Int) (w0_1 : Int) (h0 : Loops E 84 (lpAt Try.f84 0) (stL 62 [(0, .one (.s .far () 5 (x0.map (GTask.t q0)))), (1, .one (tI x1)), (5, .one (tI (0 : Int)))]) (.exit 0) (stL 62 [(1, .one (tI w0_1))])) : Does E 84 [.one (.s .far () 5 (x0.map (GTask.t q0))), .one (tI x1)] [(false, [tI w0_1])] :=
  Does.path (fn := Try.f84) [.lp (.exit 0) (stL 62 [(1, .one (tI w0_1))])] [fun k => LoopK E 84 (lpAt Try.f84 0) (stL 62 [(0, .one (.s .far () 5 (x0.map (GTask.t q0)))), (1, .one (tI x1)), (5, .one (tI (0 : Int)))]) (.exit 0) (stL 62 [(1, .one (tI w0_1))]) k k] rfl rfl (fun k => by kernel_rfl) ⟨Loops.ev h0, trivial⟩
noncomputable def l_heldTaskS_F (x0 : List GTask) (x1 : Int) : Option (Int) :=
    if x0.length ≤ 9223372036854775807 then (l_heldTaskS_l0 x0 0 x1).bind fun y => match y with
      | .ret w0_4 => (some (w0_4))
      | .x0 w0_1 => (some (w0_1)) else none
theorem l_heldTaskS_D {q0 : Kd} (x0 : List GTask) (x1 : Int) : Ans (l_heldTaskS_F x0 x1) (fun r => Does E 84 [.one (.s .far () 5 (x0.map (GTask.t q0))), .one (tI x1)] [(false, [tI r])]) := by
  unfold l_heldTaskS_F
  refine Ans.pre (fun hl1 => ?_)
  refine Ans.bind (fun y hy => ?_)
  replace hy := l_heldTaskS_L0 (q0 := q0) x0 x0 0 x1 rfl hl1 y hy
  cases y with
  | ret w0_4 =>
    have h0 := hy
    exact Ans.some (l_heldTaskS_P0 (q0 := q0) x0 x1 w0_4 h0)
  | x0 w0_1 =>
    have h0 := hy
    exact Ans.some (l_heldTaskS_P1 (q0 := q0) x0 x1 w0_1 h0)
noncomputable def p_l_markTaskS (x : List GTask) (k : Int) : (List GTask) × Int := (l_markTaskS_F x k).getD ([], 0)
noncomputable def p_l_heldTaskS (x : List GTask) (k : Int) : Int := (l_heldTaskS_F x k).getD (-1)
theorem T_l_markTaskS (x0 : List GTask) (x1 : Int) (h : l_markTaskS_F x0 x1 = some (p_l_markTaskS x0 x1)) : Does E 82 [.one (.s .own () 5 (x0.map (GTask.t .own))), .one (tI x1)] [(false, [.s .own () 5 (((p_l_markTaskS x0 x1).1).map (GTask.t .own))]), (false, [tI ((p_l_markTaskS x0 x1).2)])] := by
  exact l_markTaskS_D x0 x1 _ h
theorem T_l_heldTaskS {q0 : Kd} (x0 : List GTask) (x1 : Int) (h : l_heldTaskS_F x0 x1 = some (p_l_heldTaskS x0 x1)) : Does E 84 [.one (.s .far () 5 (x0.map (GTask.t q0))), .one (tI x1)] [(false, [tI (p_l_heldTaskS x0 x1)])] := by
  exact l_heldTaskS_D x0 x1 _ h
theorem mk_l_markTaskS : ∀ (rest done : List GTask) (i : Nat) (k : Int), (∀ y ∈ rest, Small.sm y) → 0 ≤ k → k + 1050004 * (rest.length : Int) ≤ 4611686018427387904 →
    ∃ new m, l_markTaskS_l0 rest done i k = some (.x0 (done ++ new) m) ∧ k ≤ m ∧ m ≤ k + 1050004 * (rest.length : Int) ∧ new.length = rest.length ∧ (∀ y ∈ new, Small.sm y) ∧ ∀ j, l_heldTaskS_l0 new j k = some (.x0 m)
  | [], done, i, k, _, h0, _ => ⟨[], k, by unfold l_markTaskS_l0; rw [List.append_nil], by omega, by simp, rfl, fun y hy => (by cases hy), fun j => rfl⟩
  | x :: rest, done, i, k, h, h0, h1 => by
    have hx := h x (by simp)
    rw [List.length_cons] at h1 ⊢
    have t1 := ok_l_markText k (by omega)
    have w1 : inc k = k + 1 := inc_id _ (by omega) (by omega)
    have t2 := ok_l_markText (k + 1) (by omega)
    have w2 : inc (k + 1) = (k + 1) + 1 := inc_id _ (by omega) (by omega)
    have w3 : inc ((k + 1) + 1) = ((k + 1) + 1) + 1 := inc_id _ (by omega) (by omega)
    have w4 : inc (((k + 1) + 1) + 1) = (((k + 1) + 1) + 1) + 1 := inc_id _ (by omega) (by omega)
    have a5 := ok_l_markStringS x.f4 ((((k + 1) + 1) + 1) + 1) hx.2.2 (by omega) (by omega)
    have d5 : decide ((p_l_markStringS x.f4 ((((k + 1) + 1) + 1) + 1)).2 < (0 : Int)) = false := decide_eq_false (by omega)
    obtain ⟨new, m, g1, g2, g3, g4, g5, g6⟩ := mk_l_markTaskS rest (done ++ [(GTask.mk (p_l_markText k) (p_l_markText (k + 1)) ((k + 1) + 1) ((Int.tmod (((k + 1) + 1) + 1) (3 : Int)) == (0 : Int)) (p_l_markStringS x.f4 ((((k + 1) + 1) + 1) + 1)).1)]) (i + 1) ((p_l_markStringS x.f4 ((((k + 1) + 1) + 1) + 1)).2) (fun y hy => h y (by simp [hy])) (by omega) (by omega)
    refine ⟨(GTask.mk (p_l_markText k) (p_l_markText (k + 1)) ((k + 1) + 1) ((Int.tmod (((k + 1) + 1) + 1) (3 : Int)) == (0 : Int)) (p_l_markStringS x.f4 ((((k + 1) + 1) + 1) + 1)).1) :: new, m, ?_, by omega, by omega, by simp [g4], ?_, fun j => ?_⟩
    · unfold l_markTaskS_l0
      simp only [t1.1, w1, t2.1, w2, w3, w4, a5.1, a5.2.1, a5.2.2.1, d5, if_true, g1, List.append_assoc, List.singleton_append]
    · intro y hy
      rcases List.mem_cons.1 hy with rfl | hy
      · exact ⟨t1.2, t2.2, a5.2.2.2.2.2⟩
      · exact g5 y hy
    · unfold l_heldTaskS_l0
      simp only [t1.1, w1, t2.1, w2, w3, w4, a5.1, a5.2.1, a5.2.2.1, d5, if_true, bne_self_eq_false, BEq.rfl, Bool.not_true, cond_false, cond_true, g6]
theorem ok_l_markTaskS (l : List GTask) (k : Int) (h : Small.sm l) (h0 : 0 ≤ k) (h1 : k + 1102504200000 ≤ 4611686018427387904) : l_markTaskS_F l k = some (p_l_markTaskS l k) ∧ l_heldTaskS_F (p_l_markTaskS l k).1 k = some (p_l_heldTaskS (p_l_markTaskS l k).1 k) ∧ p_l_heldTaskS (p_l_markTaskS l k).1 k = (p_l_markTaskS l k).2 ∧ k ≤ (p_l_markTaskS l k).2 ∧ (p_l_markTaskS l k).2 ≤ k + 1102504200000 ∧ Small.sm (p_l_markTaskS l k).1 := by
  have hl := h.1
  obtain ⟨new, m, g1, g2, g3, g4, g5, g6⟩ := mk_l_markTaskS l [] 0 k h.2 h0 (by omega)
  have e : l_markTaskS_F l k = some (new, m) := by unfold l_markTaskS_F; rw [if_pos (sm_wf_len h), g1]; rfl
  have p : p_l_markTaskS l k = (new, m) := by unfold p_l_markTaskS; rw [e]; rfl
  have e2 : l_heldTaskS_F new k = some m := by unfold l_heldTaskS_F; rw [if_pos (by omega), g6]; rfl
  have p2 : p_l_heldTaskS new k = m := by unfold p_l_heldTaskS; rw [e2]; rfl
  rw [p, p2]
  exact ⟨e, e2, rfl, g2, by omega, ⟨by show new.length ≤ 1050000; omega, g5⟩⟩
inductive l_markPlanS_X0 where
  | x0 (v0 : List GPlan) (v1 : Int)
def l_markPlanS_Q0 (v0 : List GPlan) (v1 : Int) (v5 : Int) : l_markPlanS_X0 → Prop
  | .x0 zv0 zv1 => Loops E 58 (lpAt Try.f58 0) (stL 88 [(0, .one (.s .own () 9 (v0.map (GPlan.t .own .own)))), (1, .one (tI v1)), (5, .one (tI v5))]) (.exit 0) (stL 88 [(0, .one (.s .own () 9 (zv0.map (GPlan.t .own .own)))), (1, .one (tI zv1))])
theorem l_markPlanS_R0_0 (v0 : List GPlan) (v1 : Int) (v5 : Int) (g0 : GPlan) (h0 : (decide (v5 < (v0.length : Int))) = true) (h1 : l_markText_F v1 = some (p_l_markText v1)) (h2 : getI v0 v5 = some g0) (h3 : l_markText_F (inc v1) = some (p_l_markText (inc v1))) (h4 : l_markTaskS_F g0.f0.f5 (inc (inc (inc (inc (inc v1))))) = some (p_l_markTaskS g0.f0.f5 (inc (inc (inc (inc (inc v1))))))) : Round E 58 (lpAt Try.f58 0) (stL 88 [(0, .one (.s .own () 9 (v0.map (GPlan.t .own .own)))), (1, .one (tI v1)), (5, .one (tI v5))]) .normal (stL 88 [(0, .one (.s .own () 9 ((v0.set v5.toNat (GPlan.mk (GDag.mk (p_l_markText v1) (p_l_markText (inc v1)) (inc (inc v1)) (inc (inc (inc v1))) ((Int.tmod (inc (inc (inc (inc v1)))) (3 : Int)) == (0 : Int)) ((p_l_markTaskS g0.f0.f5 (inc (inc (inc (inc (inc v1)))))).1)) ((Int.tmod ((p_l_markTaskS g0.f0.f5 (inc (inc (inc (inc (inc v1)))))).2) (3 : Int)) == (0 : Int)) (inc ((p_l_markTaskS g0.f0.f5 (inc (inc (inc (inc (inc v1)))))).2)) (inc (inc ((p_l_markTaskS g0.f0.f5 (inc (inc (inc (inc (inc v1)))))).2))))).map (GPlan.t .own .own)))), (1, .one (tI (inc (inc (inc ((p_l_markTaskS g0.f0.f5 (inc (inc (inc (inc (inc v1)))))).2)))))), (5, .one (tI (inc v5)))]) :=
  Round.path [.val (.int .i64 (v0.length : Int)), .b true, .ret [(false, [tS (p_l_markText v1)])], .row ((GPlan.t .own .own) g0), .rows ((v0.set v5.toNat (GPlan.mk (GDag.mk (p_l_markText v1) g0.f0.f1 g0.f0.f2 g0.f0.f3 g0.f0.f4 g0.f0.f5) g0.f1 g0.f2 g0.f3)).map (GPlan.t .own .own)), .ret [(false, [tS (p_l_markText (inc v1))])], .row ((GPlan.t .own .own) (GPlan.mk (GDag.mk (p_l_markText v1) g0.f0.f1 g0.f0.f2 g0.f0.f3 g0.f0.f4 g0.f0.f5) g0.f1 g0.f2 g0.f3)), .rows ((v0.set v5.toNat (GPlan.mk (GDag.mk (p_l_markText v1) (p_l_markText (inc v1)) g0.f0.f2 g0.f0.f3 g0.f0.f4 g0.f0.f5) g0.f1 g0.f2 g0.f3)).map (GPlan.t .own .own)), .row ((GPlan.t .own .own) (GPlan.mk (GDag.mk (p_l_markText v1) (p_l_markText (inc v1)) g0.f0.f2 g0.f0.f3 g0.f0.f4 g0.f0.f5) g0.f1 g0.f2 g0.f3)), .rows ((v0.set v5.toNat (GPlan.mk (GDag.mk (p_l_markText v1) (p_l_markText (inc v1)) (inc (inc v1)) g0.f0.f3 g0.f0.f4 g0.f0.f5) g0.f1 g0.f2 g0.f3)).map (GPlan.t .own .own)), .row ((GPlan.t .own .own) (GPlan.mk (GDag.mk (p_l_markText v1) (p_l_markText (inc v1)) (inc (inc v1)) g0.f0.f3 g0.f0.f4 g0.f0.f5) g0.f1 g0.f2 g0.f3)), .rows ((v0.set v5.toNat (GPlan.mk (GDag.mk (p_l_markText v1) (p_l_markText (inc v1)) (inc (inc v1)) (inc (inc (inc v1))) g0.f0.f4 g0.f0.f5) g0.f1 g0.f2 g0.f3)).map (GPlan.t .own .own)), .row ((GPlan.t .own .own) (GPlan.mk (GDag.mk (p_l_markText v1) (p_l_markText (inc v1)) (inc (inc v1)) (inc (inc (inc v1))) g0.f0.f4 g0.f0.f5) g0.f1 g0.f2 g0.f3)), .rows ((v0.set v5.toNat (GPlan.mk (GDag.mk (p_l_markText v1) (p_l_markText (inc v1)) (inc (inc v1)) (inc (inc (inc v1))) ((Int.tmod (inc (inc (inc (inc v1)))) (3 : Int)) == (0 : Int)) g0.f0.f5) g0.f1 g0.f2 g0.f3)).map (GPlan.t .own .own)), .row ((GPlan.t .own .own) (GPlan.mk (GDag.mk (p_l_markText v1) (p_l_markText (inc v1)) (inc (inc v1)) (inc (inc (inc v1))) ((Int.tmod (inc (inc (inc (inc v1)))) (3 : Int)) == (0 : Int)) g0.f0.f5) g0.f1 g0.f2 g0.f3)), .row ((GPlan.t .own .own) (GPlan.mk (GDag.mk (p_l_markText v1) (p_l_markText (inc v1)) (inc (inc v1)) (inc (inc (inc v1))) ((Int.tmod (inc (inc (inc (inc v1)))) (3 : Int)) == (0 : Int)) g0.f0.f5) g0.f1 g0.f2 g0.f3)), .ret [(false, [.s .own () 5 (((p_l_markTaskS g0.f0.f5 (inc (inc (inc (inc (inc v1)))))).1).map (GTask.t .own))]), (false, [tI ((p_l_markTaskS g0.f0.f5 (inc (inc (inc (inc (inc v1)))))).2)])], .row ((GPlan.t .own .own) (GPlan.mk (GDag.mk (p_l_markText v1) (p_l_markText (inc v1)) (inc (inc v1)) (inc (inc (inc v1))) ((Int.tmod (inc (inc (inc (inc v1)))) (3 : Int)) == (0 : Int)) g0.f0.f5) g0.f1 g0.f2 g0.f3)), .rows ((v0.set v5.toNat (GPlan.mk (GDag.mk (p_l_markText v1) (p_l_markText (inc v1)) (inc (inc v1)) (inc (inc (inc v1))) ((Int.tmod (inc (inc (inc (inc v1)))) (3 : Int)) == (0 : Int)) ((p_l_markTaskS g0.f0.f5 (inc (inc (inc (inc (inc v1)))))).1)) g0.f1 g0.f2 g0.f3)).map (GPlan.t .own .own)), .row ((GPlan.t .own .own) (GPlan.mk (GDag.mk (p_l_markText v1) (p_l_markText (inc v1)) (inc (inc v1)) (inc (inc (inc v1))) ((Int.tmod (inc (inc (inc (inc v1)))) (3 : Int)) == (0 : Int)) ((p_l_markTaskS g0.f0.f5 (inc (inc (inc (inc (inc v1)))))).1)) g0.f1 g0.f2 g0.f3)), .rows ((v0.set v5.toNat (GPlan.mk (GDag.mk (p_l_markText v1) (p_l_markText (inc v1)) (inc (inc v1)) (inc (inc (inc v1))) ((Int.tmod (inc (inc (inc (inc v1)))) (3 : Int)) == (0 : Int)) ((p_l_markTaskS g0.f0.f5 (inc (inc (inc (inc (inc v1)))))).1)) ((Int.tmod ((p_l_markTaskS g0.f0.f5 (inc (inc (inc (inc (inc v1)))))).2) (3 : Int)) == (0 : Int)) g0.f2 g0.f3)).map (GPlan.t .own .own)), .row ((GPlan.t .own .own) (GPlan.mk (GDag.mk (p_l_markText v1) (p_l_markText (inc v1)) (inc (inc v1)) (inc (inc (inc v1))) ((Int.tmod (inc (inc (inc (inc v1)))) (3 : Int)) == (0 : Int)) ((p_l_markTaskS g0.f0.f5 (inc (inc (inc (inc (inc v1)))))).1)) ((Int.tmod ((p_l_markTaskS g0.f0.f5 (inc (inc (inc (inc (inc v1)))))).2) (3 : Int)) == (0 : Int)) g0.f2 g0.f3)), .rows ((v0.set v5.toNat (GPlan.mk (GDag.mk (p_l_markText v1) (p_l_markText (inc v1)) (inc (inc v1)) (inc (inc (inc v1))) ((Int.tmod (inc (inc (inc (inc v1)))) (3 : Int)) == (0 : Int)) ((p_l_markTaskS g0.f0.f5 (inc (inc (inc (inc (inc v1)))))).1)) ((Int.tmod ((p_l_markTaskS g0.f0.f5 (inc (inc (inc (inc (inc v1)))))).2) (3 : Int)) == (0 : Int)) (inc ((p_l_markTaskS g0.f0.f5 (inc (inc (inc (inc (inc v1)))))).2)) g0.f3)).map (GPlan.t .own .own)), .row ((GPlan.t .own .own) (GPlan.mk (GDag.mk (p_l_markText v1) (p_l_markText (inc v1)) (inc (inc v1)) (inc (inc (inc v1))) ((Int.tmod (inc (inc (inc (inc v1)))) (3 : Int)) == (0 : Int)) ((p_l_markTaskS g0.f0.f5 (inc (inc (inc (inc (inc v1)))))).1)) ((Int.tmod ((p_l_markTaskS g0.f0.f5 (inc (inc (inc (inc (inc v1)))))).2) (3 : Int)) == (0 : Int)) (inc ((p_l_markTaskS g0.f0.f5 (inc (inc (inc (inc (inc v1)))))).2)) g0.f3)), .rows ((v0.set v5.toNat (GPlan.mk (GDag.mk (p_l_markText v1) (p_l_markText (inc v1)) (inc (inc v1)) (inc (inc (inc v1))) ((Int.tmod (inc (inc (inc (inc v1)))) (3 : Int)) == (0 : Int)) ((p_l_markTaskS g0.f0.f5 (inc (inc (inc (inc (inc v1)))))).1)) ((Int.tmod ((p_l_markTaskS g0.f0.f5 (inc (inc (inc (inc (inc v1)))))).2) (3 : Int)) == (0 : Int)) (inc ((p_l_markTaskS g0.f0.f5 (inc (inc (inc (inc (inc v1)))))).2)) (inc (inc ((p_l_markTaskS g0.f0.f5 (inc (inc (inc (inc (inc v1)))))).2))))).map (GPlan.t .own .own))] [fun _ => ((v0.map (GPlan.t .own .own)).length : Int) = (v0.length : Int), fun _ => (decide (v5 < (v0.length : Int))) = true, fun k => E.C k 81 [.one (tI v1)] = some [(false, [tS (p_l_markText v1)])], fun _ => 0 ≤ v5 ∧ v5 < ((v0.map (GPlan.t .own .own)).length : Int), fun _ => (v0.map (GPlan.t .own .own))[0 + v5.toNat]? = some ((GPlan.t .own .own) g0), fun _ => (v0.map (GPlan.t .own .own)).set (0 + v5.toNat) (spliceAt ((GPlan.t .own .own) g0) 0 [tS (p_l_markText v1)]) = (v0.set v5.toNat (GPlan.mk (GDag.mk (p_l_markText v1) g0.f0.f1 g0.f0.f2 g0.f0.f3 g0.f0.f4 g0.f0.f5) g0.f1 g0.f2 g0.f3)).map (GPlan.t .own .own), fun k => E.C k 81 [.one (tI (inc v1))] = some [(false, [tS (p_l_markText (inc v1))])], fun _ => 0 ≤ v5 ∧ v5 < (((v0.set v5.toNat (GPlan.mk (GDag.mk (p_l_markText v1) g0.f0.f1 g0.f0.f2 g0.f0.f3 g0.f0.f4 g0.f0.f5) g0.f1 g0.f2 g0.f3)).map (GPlan.t .own .own)).length : Int), fun _ => ((v0.set v5.toNat (GPlan.mk (GDag.mk (p_l_markText v1) g0.f0.f1 g0.f0.f2 g0.f0.f3 g0.f0.f4 g0.f0.f5) g0.f1 g0.f2 g0.f3)).map (GPlan.t .own .own))[0 + v5.toNat]? = some ((GPlan.t .own .own) (GPlan.mk (GDag.mk (p_l_markText v1) g0.f0.f1 g0.f0.f2 g0.f0.f3 g0.f0.f4 g0.f0.f5) g0.f1 g0.f2 g0.f3)), fun _ => ((v0.set v5.toNat (GPlan.mk (GDag.mk (p_l_markText v1) g0.f0.f1 g0.f0.f2 g0.f0.f3 g0.f0.f4 g0.f0.f5) g0.f1 g0.f2 g0.f3)).map (GPlan.t .own .own)).set (0 + v5.toNat) (spliceAt ((GPlan.t .own .own) (GPlan.mk (GDag.mk (p_l_markText v1) g0.f0.f1 g0.f0.f2 g0.f0.f3 g0.f0.f4 g0.f0.f5) g0.f1 g0.f2 g0.f3)) 1 [tS (p_l_markText (inc v1))]) = (v0.set v5.toNat (GPlan.mk (GDag.mk (p_l_markText v1) (p_l_markText (inc v1)) g0.f0.f2 g0.f0.f3 g0.f0.f4 g0.f0.f5) g0.f1 g0.f2 g0.f3)).map (GPlan.t .own .own), fun _ => 0 ≤ v5 ∧ v5 < (((v0.set v5.toNat (GPlan.mk (GDag.mk (p_l_markText v1) (p_l_markText (inc v1)) g0.f0.f2 g0.f0.f3 g0.f0.f4 g0.f0.f5) g0.f1 g0.f2 g0.f3)).map (GPlan.t .own .own)).length : Int), fun _ => ((v0.set v5.toNat (GPlan.mk (GDag.mk (p_l_markText v1) (p_l_markText (inc v1)) g0.f0.f2 g0.f0.f3 g0.f0.f4 g0.f0.f5) g0.f1 g0.f2 g0.f3)).map (GPlan.t .own .own))[0 + v5.toNat]? = some ((GPlan.t .own .own) (GPlan.mk (GDag.mk (p_l_markText v1) (p_l_markText (inc v1)) g0.f0.f2 g0.f0.f3 g0.f0.f4 g0.f0.f5) g0.f1 g0.f2 g0.f3)), fun _ => ((v0.set v5.toNat (GPlan.mk (GDag.mk (p_l_markText v1) (p_l_markText (inc v1)) g0.f0.f2 g0.f0.f3 g0.f0.f4 g0.f0.f5) g0.f1 g0.f2 g0.f3)).map (GPlan.t .own .own)).set (0 + v5.toNat) (spliceAt ((GPlan.t .own .own) (GPlan.mk (GDag.mk (p_l_markText v1) (p_l_markText (inc v1)) g0.f0.f2 g0.f0.f3 g0.f0.f4 g0.f0.f5) g0.f1 g0.f2 g0.f3)) 2 [tI (inc (inc v1))]) = (v0.set v5.toNat (GPlan.mk (GDag.mk (p_l_markText v1) (p_l_markText (inc v1)) (inc (inc v1)) g0.f0.f3 g0.f0.f4 g0.f0.f5) g0.f1 g0.f2 g0.f3)).map (GPlan.t .own .own), fun _ => 0 ≤ v5 ∧ v5 < (((v0.set v5.toNat (GPlan.mk (GDag.mk (p_l_markText v1) (p_l_markText (inc v1)) (inc (inc v1)) g0.f0.f3 g0.f0.f4 g0.f0.f5) g0.f1 g0.f2 g0.f3)).map (GPlan.t .own .own)).length : Int), fun _ => ((v0.set v5.toNat (GPlan.mk (GDag.mk (p_l_markText v1) (p_l_markText (inc v1)) (inc (inc v1)) g0.f0.f3 g0.f0.f4 g0.f0.f5) g0.f1 g0.f2 g0.f3)).map (GPlan.t .own .own))[0 + v5.toNat]? = some ((GPlan.t .own .own) (GPlan.mk (GDag.mk (p_l_markText v1) (p_l_markText (inc v1)) (inc (inc v1)) g0.f0.f3 g0.f0.f4 g0.f0.f5) g0.f1 g0.f2 g0.f3)), fun _ => ((v0.set v5.toNat (GPlan.mk (GDag.mk (p_l_markText v1) (p_l_markText (inc v1)) (inc (inc v1)) g0.f0.f3 g0.f0.f4 g0.f0.f5) g0.f1 g0.f2 g0.f3)).map (GPlan.t .own .own)).set (0 + v5.toNat) (spliceAt ((GPlan.t .own .own) (GPlan.mk (GDag.mk (p_l_markText v1) (p_l_markText (inc v1)) (inc (inc v1)) g0.f0.f3 g0.f0.f4 g0.f0.f5) g0.f1 g0.f2 g0.f3)) 3 [tI (inc (inc (inc v1)))]) = (v0.set v5.toNat (GPlan.mk (GDag.mk (p_l_markText v1) (p_l_markText (inc v1)) (inc (inc v1)) (inc (inc (inc v1))) g0.f0.f4 g0.f0.f5) g0.f1 g0.f2 g0.f3)).map (GPlan.t .own .own), fun _ => 0 ≤ v5 ∧ v5 < (((v0.set v5.toNat (GPlan.mk (GDag.mk (p_l_markText v1) (p_l_markText (inc v1)) (inc (inc v1)) (inc (inc (inc v1))) g0.f0.f4 g0.f0.f5) g0.f1 g0.f2 g0.f3)).map (GPlan.t .own .own)).length : Int), fun _ => ((v0.set v5.toNat (GPlan.mk (GDag.mk (p_l_markText v1) (p_l_markText (inc v1)) (inc (inc v1)) (inc (inc (inc v1))) g0.f0.f4 g0.f0.f5) g0.f1 g0.f2 g0.f3)).map (GPlan.t .own .own))[0 + v5.toNat]? = some ((GPlan.t .own .own) (GPlan.mk (GDag.mk (p_l_markText v1) (p_l_markText (inc v1)) (inc (inc v1)) (inc (inc (inc v1))) g0.f0.f4 g0.f0.f5) g0.f1 g0.f2 g0.f3)), fun _ => ((v0.set v5.toNat (GPlan.mk (GDag.mk (p_l_markText v1) (p_l_markText (inc v1)) (inc (inc v1)) (inc (inc (inc v1))) g0.f0.f4 g0.f0.f5) g0.f1 g0.f2 g0.f3)).map (GPlan.t .own .own)).set (0 + v5.toNat) (spliceAt ((GPlan.t .own .own) (GPlan.mk (GDag.mk (p_l_markText v1) (p_l_markText (inc v1)) (inc (inc v1)) (inc (inc (inc v1))) g0.f0.f4 g0.f0.f5) g0.f1 g0.f2 g0.f3)) 4 [tB ((Int.tmod (inc (inc (inc (inc v1)))) (3 : Int)) == (0 : Int))]) = (v0.set v5.toNat (GPlan.mk (GDag.mk (p_l_markText v1) (p_l_markText (inc v1)) (inc (inc v1)) (inc (inc (inc v1))) ((Int.tmod (inc (inc (inc (inc v1)))) (3 : Int)) == (0 : Int)) g0.f0.f5) g0.f1 g0.f2 g0.f3)).map (GPlan.t .own .own), fun _ => 0 ≤ v5 ∧ v5 < (((v0.set v5.toNat (GPlan.mk (GDag.mk (p_l_markText v1) (p_l_markText (inc v1)) (inc (inc v1)) (inc (inc (inc v1))) ((Int.tmod (inc (inc (inc (inc v1)))) (3 : Int)) == (0 : Int)) g0.f0.f5) g0.f1 g0.f2 g0.f3)).map (GPlan.t .own .own)).length : Int), fun _ => ((v0.set v5.toNat (GPlan.mk (GDag.mk (p_l_markText v1) (p_l_markText (inc v1)) (inc (inc v1)) (inc (inc (inc v1))) ((Int.tmod (inc (inc (inc (inc v1)))) (3 : Int)) == (0 : Int)) g0.f0.f5) g0.f1 g0.f2 g0.f3)).map (GPlan.t .own .own))[0 + v5.toNat]? = some ((GPlan.t .own .own) (GPlan.mk (GDag.mk (p_l_markText v1) (p_l_markText (inc v1)) (inc (inc v1)) (inc (inc (inc v1))) ((Int.tmod (inc (inc (inc (inc v1)))) (3 : Int)) == (0 : Int)) g0.f0.f5) g0.f1 g0.f2 g0.f3)), fun _ => ((v0.set v5.toNat (GPlan.mk (GDag.mk (p_l_markText v1) (p_l_markText (inc v1)) (inc (inc v1)) (inc (inc (inc v1))) ((Int.tmod (inc (inc (inc (inc v1)))) (3 : Int)) == (0 : Int)) g0.f0.f5) g0.f1 g0.f2 g0.f3)).map (GPlan.t .own .own))[0 + v5.toNat]? = some ((GPlan.t .own .own) (GPlan.mk (GDag.mk (p_l_markText v1) (p_l_markText (inc v1)) (inc (inc v1)) (inc (inc (inc v1))) ((Int.tmod (inc (inc (inc (inc v1)))) (3 : Int)) == (0 : Int)) g0.f0.f5) g0.f1 g0.f2 g0.f3)), fun _ => (g0.f0.f5.map (GTask.t .own)).length = (g0.f0.f5.map (GTask.t .own)).length, fun k => E.C k 82 [.one (.s .own () 5 (g0.f0.f5.map (GTask.t .own))), .one (tI (inc (inc (inc (inc (inc v1))))))] = some [(false, [.s .own () 5 (((p_l_markTaskS g0.f0.f5 (inc (inc (inc (inc (inc v1)))))).1).map (GTask.t .own))]), (false, [tI ((p_l_markTaskS g0.f0.f5 (inc (inc (inc (inc (inc v1)))))).2)])], fun _ => ((v0.set v5.toNat (GPlan.mk (GDag.mk (p_l_markText v1) (p_l_markText (inc v1)) (inc (inc v1)) (inc (inc (inc v1))) ((Int.tmod (inc (inc (inc (inc v1)))) (3 : Int)) == (0 : Int)) g0.f0.f5) g0.f1 g0.f2 g0.f3)).map (GPlan.t .own .own))[0 + v5.toNat]? = some ((GPlan.t .own .own) (GPlan.mk (GDag.mk (p_l_markText v1) (p_l_markText (inc v1)) (inc (inc v1)) (inc (inc (inc v1))) ((Int.tmod (inc (inc (inc (inc v1)))) (3 : Int)) == (0 : Int)) g0.f0.f5) g0.f1 g0.f2 g0.f3)), fun _ => ((v0.set v5.toNat (GPlan.mk (GDag.mk (p_l_markText v1) (p_l_markText (inc v1)) (inc (inc v1)) (inc (inc (inc v1))) ((Int.tmod (inc (inc (inc (inc v1)))) (3 : Int)) == (0 : Int)) g0.f0.f5) g0.f1 g0.f2 g0.f3)).map (GPlan.t .own .own)).set (0 + v5.toNat) (((GPlan.t .own .own) (GPlan.mk (GDag.mk (p_l_markText v1) (p_l_markText (inc v1)) (inc (inc v1)) (inc (inc (inc v1))) ((Int.tmod (inc (inc (inc (inc v1)))) (3 : Int)) == (0 : Int)) g0.f0.f5) g0.f1 g0.f2 g0.f3)).set 5 (.s .own () 5 (((p_l_markTaskS g0.f0.f5 (inc (inc (inc (inc (inc v1)))))).1).map (GTask.t .own)))) = (v0.set v5.toNat (GPlan.mk (GDag.mk (p_l_markText v1) (p_l_markText (inc v1)) (inc (inc v1)) (inc (inc (inc v1))) ((Int.tmod (inc (inc (inc (inc v1)))) (3 : Int)) == (0 : Int)) ((p_l_markTaskS g0.f0.f5 (inc (inc (inc (inc (inc v1)))))).1)) g0.f1 g0.f2 g0.f3)).map (GPlan.t .own .own), fun _ => 0 ≤ v5 ∧ v5 < (((v0.set v5.toNat (GPlan.mk (GDag.mk (p_l_markText v1) (p_l_markText (inc v1)) (inc (inc v1)) (inc (inc (inc v1))) ((Int.tmod (inc (inc (inc (inc v1)))) (3 : Int)) == (0 : Int)) ((p_l_markTaskS g0.f0.f5 (inc (inc (inc (inc (inc v1)))))).1)) g0.f1 g0.f2 g0.f3)).map (GPlan.t .own .own)).length : Int), fun _ => ((v0.set v5.toNat (GPlan.mk (GDag.mk (p_l_markText v1) (p_l_markText (inc v1)) (inc (inc v1)) (inc (inc (inc v1))) ((Int.tmod (inc (inc (inc (inc v1)))) (3 : Int)) == (0 : Int)) ((p_l_markTaskS g0.f0.f5 (inc (inc (inc (inc (inc v1)))))).1)) g0.f1 g0.f2 g0.f3)).map (GPlan.t .own .own))[0 + v5.toNat]? = some ((GPlan.t .own .own) (GPlan.mk (GDag.mk (p_l_markText v1) (p_l_markText (inc v1)) (inc (inc v1)) (inc (inc (inc v1))) ((Int.tmod (inc (inc (inc (inc v1)))) (3 : Int)) == (0 : Int)) ((p_l_markTaskS g0.f0.f5 (inc (inc (inc (inc (inc v1)))))).1)) g0.f1 g0.f2 g0.f3)), fun _ => ((v0.set v5.toNat (GPlan.mk (GDag.mk (p_l_markText v1) (p_l_markText (inc v1)) (inc (inc v1)) (inc (inc (inc v1))) ((Int.tmod (inc (inc (inc (inc v1)))) (3 : Int)) == (0 : Int)) ((p_l_markTaskS g0.f0.f5 (inc (inc (inc (inc (inc v1)))))).1)) g0.f1 g0.f2 g0.f3)).map (GPlan.t .own .own)).set (0 + v5.toNat) (spliceAt ((GPlan.t .own .own) (GPlan.mk (GDag.mk (p_l_markText v1) (p_l_markText (inc v1)) (inc (inc v1)) (inc (inc (inc v1))) ((Int.tmod (inc (inc (inc (inc v1)))) (3 : Int)) == (0 : Int)) ((p_l_markTaskS g0.f0.f5 (inc (inc (inc (inc (inc v1)))))).1)) g0.f1 g0.f2 g0.f3)) 6 [tB ((Int.tmod ((p_l_markTaskS g0.f0.f5 (inc (inc (inc (inc (inc v1)))))).2) (3 : Int)) == (0 : Int))]) = (v0.set v5.toNat (GPlan.mk (GDag.mk (p_l_markText v1) (p_l_markText (inc v1)) (inc (inc v1)) (inc (inc (inc v1))) ((Int.tmod (inc (inc (inc (inc v1)))) (3 : Int)) == (0 : Int)) ((p_l_markTaskS g0.f0.f5 (inc (inc (inc (inc (inc v1)))))).1)) ((Int.tmod ((p_l_markTaskS g0.f0.f5 (inc (inc (inc (inc (inc v1)))))).2) (3 : Int)) == (0 : Int)) g0.f2 g0.f3)).map (GPlan.t .own .own), fun _ => 0 ≤ v5 ∧ v5 < (((v0.set v5.toNat (GPlan.mk (GDag.mk (p_l_markText v1) (p_l_markText (inc v1)) (inc (inc v1)) (inc (inc (inc v1))) ((Int.tmod (inc (inc (inc (inc v1)))) (3 : Int)) == (0 : Int)) ((p_l_markTaskS g0.f0.f5 (inc (inc (inc (inc (inc v1)))))).1)) ((Int.tmod ((p_l_markTaskS g0.f0.f5 (inc (inc (inc (inc (inc v1)))))).2) (3 : Int)) == (0 : Int)) g0.f2 g0.f3)).map (GPlan.t .own .own)).length : Int), fun _ => ((v0.set v5.toNat (GPlan.mk (GDag.mk (p_l_markText v1) (p_l_markText (inc v1)) (inc (inc v1)) (inc (inc (inc v1))) ((Int.tmod (inc (inc (inc (inc v1)))) (3 : Int)) == (0 : Int)) ((p_l_markTaskS g0.f0.f5 (inc (inc (inc (inc (inc v1)))))).1)) ((Int.tmod ((p_l_markTaskS g0.f0.f5 (inc (inc (inc (inc (inc v1)))))).2) (3 : Int)) == (0 : Int)) g0.f2 g0.f3)).map (GPlan.t .own .own))[0 + v5.toNat]? = some ((GPlan.t .own .own) (GPlan.mk (GDag.mk (p_l_markText v1) (p_l_markText (inc v1)) (inc (inc v1)) (inc (inc (inc v1))) ((Int.tmod (inc (inc (inc (inc v1)))) (3 : Int)) == (0 : Int)) ((p_l_markTaskS g0.f0.f5 (inc (inc (inc (inc (inc v1)))))).1)) ((Int.tmod ((p_l_markTaskS g0.f0.f5 (inc (inc (inc (inc (inc v1)))))).2) (3 : Int)) == (0 : Int)) g0.f2 g0.f3)), fun _ => ((v0.set v5.toNat (GPlan.mk (GDag.mk (p_l_markText v1) (p_l_markText (inc v1)) (inc (inc v1)) (inc (inc (inc v1))) ((Int.tmod (inc (inc (inc (inc v1)))) (3 : Int)) == (0 : Int)) ((p_l_markTaskS g0.f0.f5 (inc (inc (inc (inc (inc v1)))))).1)) ((Int.tmod ((p_l_markTaskS g0.f0.f5 (inc (inc (inc (inc (inc v1)))))).2) (3 : Int)) == (0 : Int)) g0.f2 g0.f3)).map (GPlan.t .own .own)).set (0 + v5.toNat) (spliceAt ((GPlan.t .own .own) (GPlan.mk (GDag.mk (p_l_markText v1) (p_l_markText (inc v1)) (inc (inc v1)) (inc (inc (inc v1))) ((Int.tmod (inc (inc (inc (inc v1)))) (3 : Int)) == (0 : Int)) ((p_l_markTaskS g0.f0.f5 (inc (inc (inc (inc (inc v1)))))).1)) ((Int.tmod ((p_l_markTaskS g0.f0.f5 (inc (inc (inc (inc (inc v1)))))).2) (3 : Int)) == (0 : Int)) g0.f2 g0.f3)) 7 [tI (inc ((p_l_markTaskS g0.f0.f5 (inc (inc (inc (inc (inc v1)))))).2))]) = (v0.set v5.toNat (GPlan.mk (GDag.mk (p_l_markText v1) (p_l_markText (inc v1)) (inc (inc v1)) (inc (inc (inc v1))) ((Int.tmod (inc (inc (inc (inc v1)))) (3 : Int)) == (0 : Int)) ((p_l_markTaskS g0.f0.f5 (inc (inc (inc (inc (inc v1)))))).1)) ((Int.tmod ((p_l_markTaskS g0.f0.f5 (inc (inc (inc (inc (inc v1)))))).2) (3 : Int)) == (0 : Int)) (inc ((p_l_markTaskS g0.f0.f5 (inc (inc (inc (inc (inc v1)))))).2)) g0.f3)).map (GPlan.t .own .own), fun _ => 0 ≤ v5 ∧ v5 < (((v0.set v5.toNat (GPlan.mk (GDag.mk (p_l_markText v1) (p_l_markText (inc v1)) (inc (inc v1)) (inc (inc (inc v1))) ((Int.tmod (inc (inc (inc (inc v1)))) (3 : Int)) == (0 : Int)) ((p_l_markTaskS g0.f0.f5 (inc (inc (inc (inc (inc v1)))))).1)) ((Int.tmod ((p_l_markTaskS g0.f0.f5 (inc (inc (inc (inc (inc v1)))))).2) (3 : Int)) == (0 : Int)) (inc ((p_l_markTaskS g0.f0.f5 (inc (inc (inc (inc (inc v1)))))).2)) g0.f3)).map (GPlan.t .own .own)).length : Int), fun _ => ((v0.set v5.toNat (GPlan.mk (GDag.mk (p_l_markText v1) (p_l_markText (inc v1)) (inc (inc v1)) (inc (inc (inc v1))) ((Int.tmod (inc (inc (inc (inc v1)))) (3 : Int)) == (0 : Int)) ((p_l_markTaskS g0.f0.f5 (inc (inc (inc (inc (inc v1)))))).1)) ((Int.tmod ((p_l_markTaskS g0.f0.f5 (inc (inc (inc (inc (inc v1)))))).2) (3 : Int)) == (0 : Int)) (inc ((p_l_markTaskS g0.f0.f5 (inc (inc (inc (inc (inc v1)))))).2)) g0.f3)).map (GPlan.t .own .own))[0 + v5.toNat]? = some ((GPlan.t .own .own) (GPlan.mk (GDag.mk (p_l_markText v1) (p_l_markText (inc v1)) (inc (inc v1)) (inc (inc (inc v1))) ((Int.tmod (inc (inc (inc (inc v1)))) (3 : Int)) == (0 : Int)) ((p_l_markTaskS g0.f0.f5 (inc (inc (inc (inc (inc v1)))))).1)) ((Int.tmod ((p_l_markTaskS g0.f0.f5 (inc (inc (inc (inc (inc v1)))))).2) (3 : Int)) == (0 : Int)) (inc ((p_l_markTaskS g0.f0.f5 (inc (inc (inc (inc (inc v1)))))).2)) g0.f3)), fun _ => ((v0.set v5.toNat (GPlan.mk (GDag.mk (p_l_markText v1) (p_l_markText (inc v1)) (inc (inc v1)) (inc (inc (inc v1))) ((Int.tmod (inc (inc (inc (inc v1)))) (3 : Int)) == (0 : Int)) ((p_l_markTaskS g0.f0.f5 (inc (inc (inc (inc (inc v1)))))).1)) ((Int.tmod ((p_l_markTaskS g0.f0.f5 (inc (inc (inc (inc (inc v1)))))).2) (3 : Int)) == (0 : Int)) (inc ((p_l_markTaskS g0.f0.f5 (inc (inc (inc (inc (inc v1)))))).2)) g0.f3)).map (GPlan.t .own .own)).set (0 + v5.toNat) (spliceAt ((GPlan.t .own .own) (GPlan.mk (GDag.mk (p_l_markText v1) (p_l_markText (inc v1)) (inc (inc v1)) (inc (inc (inc v1))) ((Int.tmod (inc (inc (inc (inc v1)))) (3 : Int)) == (0 : Int)) ((p_l_markTaskS g0.f0.f5 (inc (inc (inc (inc (inc v1)))))).1)) ((Int.tmod ((p_l_markTaskS g0.f0.f5 (inc (inc (inc (inc (inc v1)))))).2) (3 : Int)) == (0 : Int)) (inc ((p_l_markTaskS g0.f0.f5 (inc (inc (inc (inc (inc v1)))))).2)) g0.f3)) 8 [tI (inc (inc ((p_l_markTaskS g0.f0.f5 (inc (inc (inc (inc (inc v1)))))).2)))]) = (v0.set v5.toNat (GPlan.mk (GDag.mk (p_l_markText v1) (p_l_markText (inc v1)) (inc (inc v1)) (inc (inc (inc v1))) ((Int.tmod (inc (inc (inc (inc v1)))) (3 : Int)) == (0 : Int)) ((p_l_markTaskS g0.f0.f5 (inc (inc (inc (inc (inc v1)))))).1)) ((Int.tmod ((p_l_markTaskS g0.f0.f5 (inc (inc (inc (inc (inc v1)))))).2) (3 : Int)) == (0 : Int)) (inc ((p_l_markTaskS g0.f0.f5 (inc (inc (inc (inc (inc v1)))))).2)) (inc (inc ((p_l_markTaskS g0.f0.f5 (inc (inc (inc (inc (inc v1)))))).2))))).map (GPlan.t .own .own)] (fun k => by kernel_rfl) ⟨Ev.c lenMap, Ev.c h0, T_l_markText v1 h1, Ev.c (getLt h2), Ev.c (getRow0 h2), Ev.c (setMap (by rfl)), T_l_markText (inc v1) h3, Ev.c (getLt (getI_set h2)), Ev.c (getRow0 (getI_set h2)), Ev.c (setMap2 (by rfl)), Ev.c (getLt (getI_set h2)), Ev.c (getRow0 (getI_set h2)), Ev.c (setMap2 (by rfl)), Ev.c (getLt (getI_set h2)), Ev.c (getRow0 (getI_set h2)), Ev.c (setMap2 (by rfl)), Ev.c (getLt (getI_set h2)), Ev.c (getRow0 (getI_set h2)), Ev.c (setMap2 (by rfl)), Ev.c (getLt (getI_set h2)), Ev.c (getRow0 (getI_set h2)), Ev.c (getRow0 (getI_set h2)), Ev.c rfl, T_l_markTaskS g0.f0.f5 (inc (inc (inc (inc (inc v1))))) h4, Ev.c (getRow0 (getI_set h2)), Ev.c (setMap2 (by rfl)), Ev.c (getLt (getI_set h2)), Ev.c (getRow0 (getI_set h2)), Ev.c (setMap2 (by rfl)), Ev.c (getLt (getI_set h2)), Ev.c (getRow0 (getI_set h2)), Ev.c (setMap2 (by rfl)), Ev.c (getLt (getI_set h2)), Ev.c (getRow0 (getI_set h2)), Ev.c (setMap2 (by rfl)), trivial⟩
theorem l_markPlanS_R0_1 (v0 : List GPlan) (v1 : Int) (v5 : Int) (h0 : (decide (v5 < (v0.length : Int))) = false) : Round E 58 (lpAt Try.f58 0) (stL 88 [(0, .one (.s .own () 9 (v0.map (GPlan.t .own .own)))), (1, .one (tI v1)), (5, .one (tI v5))]) (.exit 0) (stL 88 [(0, .one (.s .own () 9 (v0.map (GPlan.t .own .own)))), (1, .one (tI v1))]) :=
  Round.path [.val (.int .i64 (v0.length : Int)), .b false] [fun _ => ((v0.map (GPlan.t .own .own)).length : Int) = (v0.length : Int), fun _ => (decide (v5 < (v0.length : Int))) = false] (fun k => by kernel_rfl) ⟨Ev.c lenMap, Ev.c h0, trivial⟩
noncomputable def l_markPlanS_l0  : List GPlan → List GPlan → Nat → Int → Option l_markPlanS_X0
  | [], done, i, v1 => some (.x0 done v1)
  | hd :: rest, done, i, v1 => if l_markText_F v1 = some (p_l_markText v1) then if l_markText_F (inc v1) = some (p_l_markText (inc v1)) then if l_markTaskS_F hd.f0.f5 (inc (inc (inc (inc (inc v1))))) = some (p_l_markTaskS hd.f0.f5 (inc (inc (inc (inc (inc v1)))))) then l_markPlanS_l0 rest (done ++ [(GPlan.mk (GDag.mk (p_l_markText v1) (p_l_markText (inc v1)) (inc (inc v1)) (inc (inc (inc v1))) ((Int.tmod (inc (inc (inc (inc v1)))) (3 : Int)) == (0 : Int)) ((p_l_markTaskS hd.f0.f5 (inc (inc (inc (inc (inc v1)))))).1)) ((Int.tmod ((p_l_markTaskS hd.f0.f5 (inc (inc (inc (inc (inc v1)))))).2) (3 : Int)) == (0 : Int)) (inc ((p_l_markTaskS hd.f0.f5 (inc (inc (inc (inc (inc v1)))))).2)) (inc (inc ((p_l_markTaskS hd.f0.f5 (inc (inc (inc (inc (inc v1)))))).2))))]) (i + 1) (inc (inc (inc ((p_l_markTaskS hd.f0.f5 (inc (inc (inc (inc (inc v1)))))).2)))) else none else none else none
theorem l_markPlanS_L0  (rest : List GPlan) : ∀ (done : List GPlan) (i : Nat) (v1 : Int), i = done.length → (done ++ rest).length ≤ 9223372036854775807 → Ans (l_markPlanS_l0 rest done i v1) (l_markPlanS_Q0 (done ++ rest) v1 (i : Int)) := by
  induction rest with
  | nil =>
    intro done i v1 hi hl
    rw [List.append_nil]
    have hb := mapEnd hi
    unfold l_markPlanS_l0
    exact Ans.some (Loops.stop (l_markPlanS_R0_1 done v1 (i : Int) hb) (by intro h; cases h))
  | cons hd rest ih =>
    intro done i v1 hi hl
    have hb := mapMore (hd := hd) (rest := rest) hi
    have hw := mapNext (hd := hd) (rest := rest) hi hl
    have hg := mapGet (hd := hd) (rest := rest) hi
    unfold l_markPlanS_l0
    refine Ans.pre (fun h1 => ?_)
    refine Ans.pre (fun h3 => ?_)
    refine Ans.pre (fun h4 => ?_)
    exact (ih (done ++ [(GPlan.mk (GDag.mk (p_l_markText v1) (p_l_markText (inc v1)) (inc (inc v1)) (inc (inc (inc v1))) ((Int.tmod (inc (inc (inc (inc v1)))) (3 : Int)) == (0 : Int)) ((p_l_markTaskS hd.f0.f5 (inc (inc (inc (inc (inc v1)))))).1)) ((Int.tmod ((p_l_markTaskS hd.f0.f5 (inc (inc (inc (inc (inc v1)))))).2) (3 : Int)) == (0 : Int)) (inc ((p_l_markTaskS hd.f0.f5 (inc (inc (inc (inc (inc v1)))))).2)) (inc (inc ((p_l_markTaskS hd.f0.f5 (inc (inc (inc (inc (inc v1)))))).2))))]) (i + 1) (inc (inc (inc ((p_l_markTaskS hd.f0.f5 (inc (inc (inc (inc (inc v1)))))).2)))) (by simp [hi]) (by simpa using hl)).mono fun y hy => by have r := l_markPlanS_R0_0 (done ++ hd :: rest) v1 (i : Int) hd hb h1 hg h3 h4; rw [hw, setSplit hi] at r; cases y <;> exact Loops.next r hy
theorem l_markPlanS_P0 (x0 : List GPlan) (x1 : Int) (w0_0 : List GPlan) (w0_1 : Int) (h0 : Loops E 58 (lpAt Try.f58 0) (stL 88 [(0, .one (.s .own () 9 (x0.map (GPlan.t .own .own)))), (1, .one (tI x1)), (5, .one (tI (0 : Int)))]) (.exit 0) (stL 88 [(0, .one (.s .own () 9 (w0_0.map (GPlan.t .own .own)))), (1, .one (tI w0_1))])) : Does E 58 [.one (.s .own () 9 (x0.map (GPlan.t .own .own))), .one (tI x1)] [(false, [.s .own () 9 (w0_0.map (GPlan.t .own .own))]), (false, [tI w0_1])] :=
  Does.path (fn := Try.f58) [.lp (.exit 0) (stL 88 [(0, .one (.s .own () 9 (w0_0.map (GPlan.t .own .own)))), (1, .one (tI w0_1))])] [fun k => LoopK E 58 (lpAt Try.f58 0) (stL 88 [(0, .one (.s .own () 9 (x0.map (GPlan.t .own .own)))), (1, .one (tI x1)), (5, .one (tI (0 : Int)))]) (.exit 0) (stL 88 [(0, .one (.s .own () 9 (w0_0.map (GPlan.t .own .own)))), (1, .one (tI w0_1))]) k k] rfl rfl (fun k => by kernel_rfl) ⟨Loops.ev h0, trivial⟩
noncomputable def l_markPlanS_F (x0 : List GPlan) (x1 : Int) : Option ((List GPlan) × Int) :=
    if x0.length ≤ 9223372036854775807 then (l_markPlanS_l0 x0 [] 0 x1).bind fun y => match y with
      | .x0 w0_0 w0_1 => (some (w0_0, w0_1)) else none
theorem l_markPlanS_D (x0 : List GPlan) (x1 : Int) : Ans (l_markPlanS_F x0 x1) (fun r => Does E 58 [.one (.s .own () 9 (x0.map (GPlan.t .own .own))), .one (tI x1)] [(false, [.s .own () 9 (r.1.map (GPlan.t .own .own))]), (false, [tI r.2])]) := by
  unfold l_markPlanS_F
  refine Ans.pre (fun hl1 => ?_)
  refine Ans.bind (fun y hy => ?_)
  replace hy := l_markPlanS_L0 x0 [] 0 x1 rfl hl1 y hy
  cases y with
  | x0 w0_0 w0_1 =>
    have h0 := hy
    exact Ans.some (l_markPlanS_P0 x0 x1 w0_0 w0_1 h0)
inductive l_heldPlanS_X0 where
  | ret (v4 : Int)
  | x0 (v1 : Int)
def l_heldPlanS_Q0 {q0 : Kd} (v0 : List GPlan) (v1 : Int) (v5 : Int) : l_heldPlanS_X0 → Prop
  | .ret zv4 => Loops E 61 (lpAt Try.f61 0) (stL 106 [(0, .one (.s .far () 9 (v0.map (GPlan.t q0 q0)))), (1, .one (tI v1)), (5, .one (tI v5))]) .ret (stL 106 [(4, .one (tI zv4))])
  | .x0 zv1 => Loops E 61 (lpAt Try.f61 0) (stL 106 [(0, .one (.s .far () 9 (v0.map (GPlan.t q0 q0)))), (1, .one (tI v1)), (5, .one (tI v5))]) (.exit 0) (stL 106 [(1, .one (tI zv1))])
theorem l_heldPlanS_R0_0 {q0 : Kd} (v0 : List GPlan) (v1 : Int) (v5 : Int) (g0 : GPlan) (h0 : (decide (v5 < (v0.length : Int))) = true) (h1 : getI v0 v5 = some g0) (h2 : l_markText_F v1 = some (p_l_markText v1)) (h3 : (!(g0.f0.f0.toList == (p_l_markText v1).toList)) = true) : Round E 61 (lpAt Try.f61 0) (stL 106 [(0, .one (.s .far () 9 (v0.map (GPlan.t q0 q0)))), (1, .one (tI v1)), (5, .one (tI v5))]) .ret (stL 106 [(4, .one (tI (-1 : Int)))]) :=
  Round.path [.val (.int .i64 (v0.length : Int)), .b true, .row ((GPlan.t q0 q0) g0), .ret [(false, [tS (p_l_markText v1)])], .b true] [fun _ => ((v0.map (GPlan.t q0 q0)).length : Int) = (v0.length : Int), fun _ => (decide (v5 < (v0.length : Int))) = true, fun _ => 0 ≤ v5 ∧ (v0.map (GPlan.t q0 q0))[v5.toNat]? = some ((GPlan.t q0 q0) g0), fun k => E.C k 81 [.one (tI v1)] = some [(false, [tS (p_l_markText v1)])], fun _ => (!(g0.f0.f0.toList == (p_l_markText v1).toList)) = true] (fun k => by kernel_rfl) ⟨Ev.c lenMap, Ev.c h0, Ev.c (getRow h1), T_l_markText v1 h2, Ev.c h3, trivial⟩
theorem l_heldPlanS_R0_1 {q0 : Kd} (v0 : List GPlan) (v1 : Int) (v5 : Int) (g0 : GPlan) (h0 : (decide (v5 < (v0.length : Int))) = true) (h1 : getI v0 v5 = some g0) (h2 : l_markText_F v1 = some (p_l_markText v1)) (h3 : (!(g0.f0.f0.toList == (p_l_markText v1).toList)) = false) (h4 : l_markText_F (inc v1) = some (p_l_markText (inc v1))) (h5 : (!(g0.f0.f1.toList == (p_l_markText (inc v1)).toList)) = true) : Round E 61 (lpAt Try.f61 0) (stL 106 [(0, .one (.s .far () 9 (v0.map (GPlan.t q0 q0)))), (1, .one (tI v1)), (5, .one (tI v5))]) .ret (stL 106 [(4, .one (tI (-1 : Int)))]) :=
  Round.path [.val (.int .i64 (v0.length : Int)), .b true, .row ((GPlan.t q0 q0) g0), .ret [(false, [tS (p_l_markText v1)])], .b false, .row ((GPlan.t q0 q0) g0), .ret [(false, [tS (p_l_markText (inc v1))])], .b true] [fun _ => ((v0.map (GPlan.t q0 q0)).length : Int) = (v0.length : Int), fun _ => (decide (v5 < (v0.length : Int))) = true, fun _ => 0 ≤ v5 ∧ (v0.map (GPlan.t q0 q0))[v5.toNat]? = some ((GPlan.t q0 q0) g0), fun k => E.C k 81 [.one (tI v1)] = some [(false, [tS (p_l_markText v1)])], fun _ => (!(g0.f0.f0.toList == (p_l_markText v1).toList)) = false, fun _ => 0 ≤ v5 ∧ (v0.map (GPlan.t q0 q0))[v5.toNat]? = some ((GPlan.t q0 q0) g0), fun k => E.C k 81 [.one (tI (inc v1))] = some [(false, [tS (p_l_markText (inc v1))])], fun _ => (!(g0.f0.f1.toList == (p_l_markText (inc v1)).toList)) = true] (fun k => by kernel_rfl) ⟨Ev.c lenMap, Ev.c h0, Ev.c (getRow h1), T_l_markText v1 h2, Ev.c h3, Ev.c (getRow h1), T_l_markText (inc v1) h4, Ev.c h5, trivial⟩
theorem l_heldPlanS_R0_2 {q0 : Kd} (v0 : List GPlan) (v1 : Int) (v5 : Int) (g0 : GPlan) (h0 : (decide (v5 < (v0.length : Int))) = true) (h1 : getI v0 v5 = some g0) (h2 : l_markText_F v1 = some (p_l_markText v1)) (h3 : (!(g0.f0.f0.toList == (p_l_markText v1).toList)) = false) (h4 : l_markText_F (inc v1) = some (p_l_markText (inc v1))) (h5 : (!(g0.f0.f1.toList == (p_l_markText (inc v1)).toList)) = false) (h6 : (g0.f0.f2 != (inc (inc v1))) = true) : Round E 61 (lpAt Try.f61 0) (stL 106 [(0, .one (.s .far () 9 (v0.map (GPlan.t q0 q0)))), (1, .one (tI v1)), (5, .one (tI v5))]) .ret (stL 106 [(4, .one (tI (-1 : Int)))]) :=
  Round.path [.val (.int .i64 (v0.length : Int)), .b true, .row ((GPlan.t q0 q0) g0), .ret [(false, [tS (p_l_markText v1)])], .b false, .row ((GPlan.t q0 q0) g0), .ret [(false, [tS (p_l_markText (inc v1))])], .b false, .row ((GPlan.t q0 q0) g0), .b true] [fun _ => ((v0.map (GPlan.t q0 q0)).length : Int) = (v0.length : Int), fun _ => (decide (v5 < (v0.length : Int))) = true, fun _ => 0 ≤ v5 ∧ (v0.map (GPlan.t q0 q0))[v5.toNat]? = some ((GPlan.t q0 q0) g0), fun k => E.C k 81 [.one (tI v1)] = some [(false, [tS (p_l_markText v1)])], fun _ => (!(g0.f0.f0.toList == (p_l_markText v1).toList)) = false, fun _ => 0 ≤ v5 ∧ (v0.map (GPlan.t q0 q0))[v5.toNat]? = some ((GPlan.t q0 q0) g0), fun k => E.C k 81 [.one (tI (inc v1))] = some [(false, [tS (p_l_markText (inc v1))])], fun _ => (!(g0.f0.f1.toList == (p_l_markText (inc v1)).toList)) = false, fun _ => 0 ≤ v5 ∧ (v0.map (GPlan.t q0 q0))[v5.toNat]? = some ((GPlan.t q0 q0) g0), fun _ => (g0.f0.f2 != (inc (inc v1))) = true] (fun k => by kernel_rfl) ⟨Ev.c lenMap, Ev.c h0, Ev.c (getRow h1), T_l_markText v1 h2, Ev.c h3, Ev.c (getRow h1), T_l_markText (inc v1) h4, Ev.c h5, Ev.c (getRow h1), Ev.c h6, trivial⟩
theorem l_heldPlanS_R0_3 {q0 : Kd} (v0 : List GPlan) (v1 : Int) (v5 : Int) (g0 : GPlan) (h0 : (decide (v5 < (v0.length : Int))) = true) (h1 : getI v0 v5 = some g0) (h2 : l_markText_F v1 = some (p_l_markText v1)) (h3 : (!(g0.f0.f0.toList == (p_l_markText v1).toList)) = false) (h4 : l_markText_F (inc v1) = some (p_l_markText (inc v1))) (h5 : (!(g0.f0.f1.toList == (p_l_markText (inc v1)).toList)) = false) (h6 : (g0.f0.f2 != (inc (inc v1))) = false) (h7 : (g0.f0.f3 != (inc (inc (inc v1)))) = true) : Round E 61 (lpAt Try.f61 0) (stL 106 [(0, .one (.s .far () 9 (v0.map (GPlan.t q0 q0)))), (1, .one (tI v1)), (5, .one (tI v5))]) .ret (stL 106 [(4, .one (tI (-1 : Int)))]) :=
  Round.path [.val (.int .i64 (v0.length : Int)), .b true, .row ((GPlan.t q0 q0) g0), .ret [(false, [tS (p_l_markText v1)])], .b false, .row ((GPlan.t q0 q0) g0), .ret [(false, [tS (p_l_markText (inc v1))])], .b false, .row ((GPlan.t q0 q0) g0), .b false, .row ((GPlan.t q0 q0) g0), .b true] [fun _ => ((v0.map (GPlan.t q0 q0)).length : Int) = (v0.length : Int), fun _ => (decide (v5 < (v0.length : Int))) = true, fun _ => 0 ≤ v5 ∧ (v0.map (GPlan.t q0 q0))[v5.toNat]? = some ((GPlan.t q0 q0) g0), fun k => E.C k 81 [.one (tI v1)] = some [(false, [tS (p_l_markText v1)])], fun _ => (!(g0.f0.f0.toList == (p_l_markText v1).toList)) = false, fun _ => 0 ≤ v5 ∧ (v0.map (GPlan.t q0 q0))[v5.toNat]? = some ((GPlan.t q0 q0) g0), fun k => E.C k 81 [.one (tI (inc v1))] = some [(false, [tS (p_l_markText (inc v1))])], fun _ => (!(g0.f0.f1.toList == (p_l_markText (inc v1)).toList)) = false, fun _ => 0 ≤ v5 ∧ (v0.map (GPlan.t q0 q0))[v5.toNat]? = some ((GPlan.t q0 q0) g0), fun _ => (g0.f0.f2 != (inc (inc v1))) = false, fun _ => 0 ≤ v5 ∧ (v0.map (GPlan.t q0 q0))[v5.toNat]? = some ((GPlan.t q0 q0) g0), fun _ => (g0.f0.f3 != (inc (inc (inc v1)))) = true] (fun k => by kernel_rfl) ⟨Ev.c lenMap, Ev.c h0, Ev.c (getRow h1), T_l_markText v1 h2, Ev.c h3, Ev.c (getRow h1), T_l_markText (inc v1) h4, Ev.c h5, Ev.c (getRow h1), Ev.c h6, Ev.c (getRow h1), Ev.c h7, trivial⟩
theorem l_heldPlanS_R0_4 {q0 : Kd} (v0 : List GPlan) (v1 : Int) (v5 : Int) (g0 : GPlan) (h0 : (decide (v5 < (v0.length : Int))) = true) (h1 : getI v0 v5 = some g0) (h2 : l_markText_F v1 = some (p_l_markText v1)) (h3 : (!(g0.f0.f0.toList == (p_l_markText v1).toList)) = false) (h4 : l_markText_F (inc v1) = some (p_l_markText (inc v1))) (h5 : (!(g0.f0.f1.toList == (p_l_markText (inc v1)).toList)) = false) (h6 : (g0.f0.f2 != (inc (inc v1))) = false) (h7 : (g0.f0.f3 != (inc (inc (inc v1)))) = false) (h8 : (!(g0.f0.f4 == ((Int.tmod (inc (inc (inc (inc v1)))) (3 : Int)) == (0 : Int)))) = true) : Round E 61 (lpAt Try.f61 0) (stL 106 [(0, .one (.s .far () 9 (v0.map (GPlan.t q0 q0)))), (1, .one (tI v1)), (5, .one (tI v5))]) .ret (stL 106 [(4, .one (tI (-1 : Int)))]) :=
  Round.path [.val (.int .i64 (v0.length : Int)), .b true, .row ((GPlan.t q0 q0) g0), .ret [(false, [tS (p_l_markText v1)])], .b false, .row ((GPlan.t q0 q0) g0), .ret [(false, [tS (p_l_markText (inc v1))])], .b false, .row ((GPlan.t q0 q0) g0), .b false, .row ((GPlan.t q0 q0) g0), .b false, .row ((GPlan.t q0 q0) g0), .no, .no, .b true] [fun _ => ((v0.map (GPlan.t q0 q0)).length : Int) = (v0.length : Int), fun _ => (decide (v5 < (v0.length : Int))) = true, fun _ => 0 ≤ v5 ∧ (v0.map (GPlan.t q0 q0))[v5.toNat]? = some ((GPlan.t q0 q0) g0), fun k => E.C k 81 [.one (tI v1)] = some [(false, [tS (p_l_markText v1)])], fun _ => (!(g0.f0.f0.toList == (p_l_markText v1).toList)) = false, fun _ => 0 ≤ v5 ∧ (v0.map (GPlan.t q0 q0))[v5.toNat]? = some ((GPlan.t q0 q0) g0), fun k => E.C k 81 [.one (tI (inc v1))] = some [(false, [tS (p_l_markText (inc v1))])], fun _ => (!(g0.f0.f1.toList == (p_l_markText (inc v1)).toList)) = false, fun _ => 0 ≤ v5 ∧ (v0.map (GPlan.t q0 q0))[v5.toNat]? = some ((GPlan.t q0 q0) g0), fun _ => (g0.f0.f2 != (inc (inc v1))) = false, fun _ => 0 ≤ v5 ∧ (v0.map (GPlan.t q0 q0))[v5.toNat]? = some ((GPlan.t q0 q0) g0), fun _ => (g0.f0.f3 != (inc (inc (inc v1)))) = false, fun _ => 0 ≤ v5 ∧ (v0.map (GPlan.t q0 q0))[v5.toNat]? = some ((GPlan.t q0 q0) g0), fun _ => (!(g0.f0.f4 == ((Int.tmod (inc (inc (inc (inc v1)))) (3 : Int)) == (0 : Int)))) = true] (fun k => by kernel_rfl) ⟨Ev.c lenMap, Ev.c h0, Ev.c (getRow h1), T_l_markText v1 h2, Ev.c h3, Ev.c (getRow h1), T_l_markText (inc v1) h4, Ev.c h5, Ev.c (getRow h1), Ev.c h6, Ev.c (getRow h1), Ev.c h7, Ev.c (getRow h1), Ev.c h8, trivial⟩
theorem l_heldPlanS_R0_5 {q0 : Kd} (v0 : List GPlan) (v1 : Int) (v5 : Int) (g0 : GPlan) (h0 : (decide (v5 < (v0.length : Int))) = true) (h1 : getI v0 v5 = some g0) (h2 : l_markText_F v1 = some (p_l_markText v1)) (h3 : (!(g0.f0.f0.toList == (p_l_markText v1).toList)) = false) (h4 : l_markText_F (inc v1) = some (p_l_markText (inc v1))) (h5 : (!(g0.f0.f1.toList == (p_l_markText (inc v1)).toList)) = false) (h6 : (g0.f0.f2 != (inc (inc v1))) = false) (h7 : (g0.f0.f3 != (inc (inc (inc v1)))) = false) (h8 : (!(g0.f0.f4 == ((Int.tmod (inc (inc (inc (inc v1)))) (3 : Int)) == (0 : Int)))) = false) (h9 : l_heldTaskS_F g0.f0.f5 (inc (inc (inc (inc (inc v1))))) = some (p_l_heldTaskS g0.f0.f5 (inc (inc (inc (inc (inc v1))))))) (h10 : (decide ((p_l_heldTaskS g0.f0.f5 (inc (inc (inc (inc (inc v1)))))) < (0 : Int))) = true) : Round E 61 (lpAt Try.f61 0) (stL 106 [(0, .one (.s .far () 9 (v0.map (GPlan.t q0 q0)))), (1, .one (tI v1)), (5, .one (tI v5))]) .ret (stL 106 [(4, .one (tI (-1 : Int)))]) :=
  Round.path [.val (.int .i64 (v0.length : Int)), .b true, .row ((GPlan.t q0 q0) g0), .ret [(false, [tS (p_l_markText v1)])], .b false, .row ((GPlan.t q0 q0) g0), .ret [(false, [tS (p_l_markText (inc v1))])], .b false, .row ((GPlan.t q0 q0) g0), .b false, .row ((GPlan.t q0 q0) g0), .b false, .row ((GPlan.t q0 q0) g0), .no, .no, .b false, .row ((GPlan.t q0 q0) g0), .ret [(false, [tI (p_l_heldTaskS g0.f0.f5 (inc (inc (inc (inc (inc v1))))))])], .b true] [fun _ => ((v0.map (GPlan.t q0 q0)).length : Int) = (v0.length : Int), fun _ => (decide (v5 < (v0.length : Int))) = true, fun _ => 0 ≤ v5 ∧ (v0.map (GPlan.t q0 q0))[v5.toNat]? = some ((GPlan.t q0 q0) g0), fun k => E.C k 81 [.one (tI v1)] = some [(false, [tS (p_l_markText v1)])], fun _ => (!(g0.f0.f0.toList == (p_l_markText v1).toList)) = false, fun _ => 0 ≤ v5 ∧ (v0.map (GPlan.t q0 q0))[v5.toNat]? = some ((GPlan.t q0 q0) g0), fun k => E.C k 81 [.one (tI (inc v1))] = some [(false, [tS (p_l_markText (inc v1))])], fun _ => (!(g0.f0.f1.toList == (p_l_markText (inc v1)).toList)) = false, fun _ => 0 ≤ v5 ∧ (v0.map (GPlan.t q0 q0))[v5.toNat]? = some ((GPlan.t q0 q0) g0), fun _ => (g0.f0.f2 != (inc (inc v1))) = false, fun _ => 0 ≤ v5 ∧ (v0.map (GPlan.t q0 q0))[v5.toNat]? = some ((GPlan.t q0 q0) g0), fun _ => (g0.f0.f3 != (inc (inc (inc v1)))) = false, fun _ => 0 ≤ v5 ∧ (v0.map (GPlan.t q0 q0))[v5.toNat]? = some ((GPlan.t q0 q0) g0), fun _ => (!(g0.f0.f4 == ((Int.tmod (inc (inc (inc (inc v1)))) (3 : Int)) == (0 : Int)))) = false, fun _ => 0 ≤ v5 ∧ (v0.map (GPlan.t q0 q0))[v5.toNat]? = some ((GPlan.t q0 q0) g0), fun k => E.C k 84 [.one (.s .far () 5 (g0.f0.f5.map (GTask.t q0))), .one (tI (inc (inc (inc (inc (inc v1))))))] = some [(false, [tI (p_l_heldTaskS g0.f0.f5 (inc (inc (inc (inc (inc v1))))))])], fun _ => (decide ((p_l_heldTaskS g0.f0.f5 (inc (inc (inc (inc (inc v1)))))) < (0 : Int))) = true] (fun k => by kernel_rfl) ⟨Ev.c lenMap, Ev.c h0, Ev.c (getRow h1), T_l_markText v1 h2, Ev.c h3, Ev.c (getRow h1), T_l_markText (inc v1) h4, Ev.c h5, Ev.c (getRow h1), Ev.c h6, Ev.c (getRow h1), Ev.c h7, Ev.c (getRow h1), Ev.c h8, Ev.c (getRow h1), T_l_heldTaskS g0.f0.f5 (inc (inc (inc (inc (inc v1))))) h9, Ev.c h10, trivial⟩
theorem l_heldPlanS_R0_6 {q0 : Kd} (v0 : List GPlan) (v1 : Int) (v5 : Int) (g0 : GPlan) (h0 : (decide (v5 < (v0.length : Int))) = true) (h1 : getI v0 v5 = some g0) (h2 : l_markText_F v1 = some (p_l_markText v1)) (h3 : (!(g0.f0.f0.toList == (p_l_markText v1).toList)) = false) (h4 : l_markText_F (inc v1) = some (p_l_markText (inc v1))) (h5 : (!(g0.f0.f1.toList == (p_l_markText (inc v1)).toList)) = false) (h6 : (g0.f0.f2 != (inc (inc v1))) = false) (h7 : (g0.f0.f3 != (inc (inc (inc v1)))) = false) (h8 : (!(g0.f0.f4 == ((Int.tmod (inc (inc (inc (inc v1)))) (3 : Int)) == (0 : Int)))) = false) (h9 : l_heldTaskS_F g0.f0.f5 (inc (inc (inc (inc (inc v1))))) = some (p_l_heldTaskS g0.f0.f5 (inc (inc (inc (inc (inc v1))))))) (h10 : (decide ((p_l_heldTaskS g0.f0.f5 (inc (inc (inc (inc (inc v1)))))) < (0 : Int))) = false) (h11 : (!(g0.f1 == ((Int.tmod (p_l_heldTaskS g0.f0.f5 (inc (inc (inc (inc (inc v1)))))) (3 : Int)) == (0 : Int)))) = true) : Round E 61 (lpAt Try.f61 0) (stL 106 [(0, .one (.s .far () 9 (v0.map (GPlan.t q0 q0)))), (1, .one (tI v1)), (5, .one (tI v5))]) .ret (stL 106 [(4, .one (tI (-1 : Int)))]) :=
  Round.path [.val (.int .i64 (v0.length : Int)), .b true, .row ((GPlan.t q0 q0) g0), .ret [(false, [tS (p_l_markText v1)])], .b false, .row ((GPlan.t q0 q0) g0), .ret [(false, [tS (p_l_markText (inc v1))])], .b false, .row ((GPlan.t q0 q0) g0), .b false, .row ((GPlan.t q0 q0) g0), .b false, .row ((GPlan.t q0 q0) g0), .no, .no, .b false, .row ((GPlan.t q0 q0) g0), .ret [(false, [tI (p_l_heldTaskS g0.f0.f5 (inc (inc (inc (inc (inc v1))))))])], .b false, .row ((GPlan.t q0 q0) g0), .no, .no, .b true] [fun _ => ((v0.map (GPlan.t q0 q0)).length : Int) = (v0.length : Int), fun _ => (decide (v5 < (v0.length : Int))) = true, fun _ => 0 ≤ v5 ∧ (v0.map (GPlan.t q0 q0))[v5.toNat]? = some ((GPlan.t q0 q0) g0), fun k => E.C k 81 [.one (tI v1)] = some [(false, [tS (p_l_markText v1)])], fun _ => (!(g0.f0.f0.toList == (p_l_markText v1).toList)) = false, fun _ => 0 ≤ v5 ∧ (v0.map (GPlan.t q0 q0))[v5.toNat]? = some ((GPlan.t q0 q0) g0), fun k => E.C k 81 [.one (tI (inc v1))] = some [(false, [tS (p_l_markText (inc v1))])], fun _ => (!(g0.f0.f1.toList == (p_l_markText (inc v1)).toList)) = false, fun _ => 0 ≤ v5 ∧ (v0.map (GPlan.t q0 q0))[v5.toNat]? = some ((GPlan.t q0 q0) g0), fun _ => (g0.f0.f2 != (inc (inc v1))) = false, fun _ => 0 ≤ v5 ∧ (v0.map (GPlan.t q0 q0))[v5.toNat]? = some ((GPlan.t q0 q0) g0), fun _ => (g0.f0.f3 != (inc (inc (inc v1)))) = false, fun _ => 0 ≤ v5 ∧ (v0.map (GPlan.t q0 q0))[v5.toNat]? = some ((GPlan.t q0 q0) g0), fun _ => (!(g0.f0.f4 == ((Int.tmod (inc (inc (inc (inc v1)))) (3 : Int)) == (0 : Int)))) = false, fun _ => 0 ≤ v5 ∧ (v0.map (GPlan.t q0 q0))[v5.toNat]? = some ((GPlan.t q0 q0) g0), fun k => E.C k 84 [.one (.s .far () 5 (g0.f0.f5.map (GTask.t q0))), .one (tI (inc (inc (inc (inc (inc v1))))))] = some [(false, [tI (p_l_heldTaskS g0.f0.f5 (inc (inc (inc (inc (inc v1))))))])], fun _ => (decide ((p_l_heldTaskS g0.f0.f5 (inc (inc (inc (inc (inc v1)))))) < (0 : Int))) = false, fun _ => 0 ≤ v5 ∧ (v0.map (GPlan.t q0 q0))[v5.toNat]? = some ((GPlan.t q0 q0) g0), fun _ => (!(g0.f1 == ((Int.tmod (p_l_heldTaskS g0.f0.f5 (inc (inc (inc (inc (inc v1)))))) (3 : Int)) == (0 : Int)))) = true] (fun k => by kernel_rfl) ⟨Ev.c lenMap, Ev.c h0, Ev.c (getRow h1), T_l_markText v1 h2, Ev.c h3, Ev.c (getRow h1), T_l_markText (inc v1) h4, Ev.c h5, Ev.c (getRow h1), Ev.c h6, Ev.c (getRow h1), Ev.c h7, Ev.c (getRow h1), Ev.c h8, Ev.c (getRow h1), T_l_heldTaskS g0.f0.f5 (inc (inc (inc (inc (inc v1))))) h9, Ev.c h10, Ev.c (getRow h1), Ev.c h11, trivial⟩
theorem l_heldPlanS_R0_7 {q0 : Kd} (v0 : List GPlan) (v1 : Int) (v5 : Int) (g0 : GPlan) (h0 : (decide (v5 < (v0.length : Int))) = true) (h1 : getI v0 v5 = some g0) (h2 : l_markText_F v1 = some (p_l_markText v1)) (h3 : (!(g0.f0.f0.toList == (p_l_markText v1).toList)) = false) (h4 : l_markText_F (inc v1) = some (p_l_markText (inc v1))) (h5 : (!(g0.f0.f1.toList == (p_l_markText (inc v1)).toList)) = false) (h6 : (g0.f0.f2 != (inc (inc v1))) = false) (h7 : (g0.f0.f3 != (inc (inc (inc v1)))) = false) (h8 : (!(g0.f0.f4 == ((Int.tmod (inc (inc (inc (inc v1)))) (3 : Int)) == (0 : Int)))) = false) (h9 : l_heldTaskS_F g0.f0.f5 (inc (inc (inc (inc (inc v1))))) = some (p_l_heldTaskS g0.f0.f5 (inc (inc (inc (inc (inc v1))))))) (h10 : (decide ((p_l_heldTaskS g0.f0.f5 (inc (inc (inc (inc (inc v1)))))) < (0 : Int))) = false) (h11 : (!(g0.f1 == ((Int.tmod (p_l_heldTaskS g0.f0.f5 (inc (inc (inc (inc (inc v1)))))) (3 : Int)) == (0 : Int)))) = false) (h12 : (g0.f2 != (inc (p_l_heldTaskS g0.f0.f5 (inc (inc (inc (inc (inc v1)))))))) = true) : Round E 61 (lpAt Try.f61 0) (stL 106 [(0, .one (.s .far () 9 (v0.map (GPlan.t q0 q0)))), (1, .one (tI v1)), (5, .one (tI v5))]) .ret (stL 106 [(4, .one (tI (-1 : Int)))]) :=
  Round.path [.val (.int .i64 (v0.length : Int)), .b true, .row ((GPlan.t q0 q0) g0), .ret [(false, [tS (p_l_markText v1)])], .b false, .row ((GPlan.t q0 q0) g0), .ret [(false, [tS (p_l_markText (inc v1))])], .b false, .row ((GPlan.t q0 q0) g0), .b false, .row ((GPlan.t q0 q0) g0), .b false, .row ((GPlan.t q0 q0) g0), .no, .no, .b false, .row ((GPlan.t q0 q0) g0), .ret [(false, [tI (p_l_heldTaskS g0.f0.f5 (inc (inc (inc (inc (inc v1))))))])], .b false, .row ((GPlan.t q0 q0) g0), .no, .no, .b false, .row ((GPlan.t q0 q0) g0), .b true] [fun _ => ((v0.map (GPlan.t q0 q0)).length : Int) = (v0.length : Int), fun _ => (decide (v5 < (v0.length : Int))) = true, fun _ => 0 ≤ v5 ∧ (v0.map (GPlan.t q0 q0))[v5.toNat]? = some ((GPlan.t q0 q0) g0), fun k => E.C k 81 [.one (tI v1)] = some [(false, [tS (p_l_markText v1)])], fun _ => (!(g0.f0.f0.toList == (p_l_markText v1).toList)) = false, fun _ => 0 ≤ v5 ∧ (v0.map (GPlan.t q0 q0))[v5.toNat]? = some ((GPlan.t q0 q0) g0), fun k => E.C k 81 [.one (tI (inc v1))] = some [(false, [tS (p_l_markText (inc v1))])], fun _ => (!(g0.f0.f1.toList == (p_l_markText (inc v1)).toList)) = false, fun _ => 0 ≤ v5 ∧ (v0.map (GPlan.t q0 q0))[v5.toNat]? = some ((GPlan.t q0 q0) g0), fun _ => (g0.f0.f2 != (inc (inc v1))) = false, fun _ => 0 ≤ v5 ∧ (v0.map (GPlan.t q0 q0))[v5.toNat]? = some ((GPlan.t q0 q0) g0), fun _ => (g0.f0.f3 != (inc (inc (inc v1)))) = false, fun _ => 0 ≤ v5 ∧ (v0.map (GPlan.t q0 q0))[v5.toNat]? = some ((GPlan.t q0 q0) g0), fun _ => (!(g0.f0.f4 == ((Int.tmod (inc (inc (inc (inc v1)))) (3 : Int)) == (0 : Int)))) = false, fun _ => 0 ≤ v5 ∧ (v0.map (GPlan.t q0 q0))[v5.toNat]? = some ((GPlan.t q0 q0) g0), fun k => E.C k 84 [.one (.s .far () 5 (g0.f0.f5.map (GTask.t q0))), .one (tI (inc (inc (inc (inc (inc v1))))))] = some [(false, [tI (p_l_heldTaskS g0.f0.f5 (inc (inc (inc (inc (inc v1))))))])], fun _ => (decide ((p_l_heldTaskS g0.f0.f5 (inc (inc (inc (inc (inc v1)))))) < (0 : Int))) = false, fun _ => 0 ≤ v5 ∧ (v0.map (GPlan.t q0 q0))[v5.toNat]? = some ((GPlan.t q0 q0) g0), fun _ => (!(g0.f1 == ((Int.tmod (p_l_heldTaskS g0.f0.f5 (inc (inc (inc (inc (inc v1)))))) (3 : Int)) == (0 : Int)))) = false, fun _ => 0 ≤ v5 ∧ (v0.map (GPlan.t q0 q0))[v5.toNat]? = some ((GPlan.t q0 q0) g0), fun _ => (g0.f2 != (inc (p_l_heldTaskS g0.f0.f5 (inc (inc (inc (inc (inc v1)))))))) = true] (fun k => by kernel_rfl) ⟨Ev.c lenMap, Ev.c h0, Ev.c (getRow h1), T_l_markText v1 h2, Ev.c h3, Ev.c (getRow h1), T_l_markText (inc v1) h4, Ev.c h5, Ev.c (getRow h1), Ev.c h6, Ev.c (getRow h1), Ev.c h7, Ev.c (getRow h1), Ev.c h8, Ev.c (getRow h1), T_l_heldTaskS g0.f0.f5 (inc (inc (inc (inc (inc v1))))) h9, Ev.c h10, Ev.c (getRow h1), Ev.c h11, Ev.c (getRow h1), Ev.c h12, trivial⟩
theorem l_heldPlanS_R0_8 {q0 : Kd} (v0 : List GPlan) (v1 : Int) (v5 : Int) (g0 : GPlan) (h0 : (decide (v5 < (v0.length : Int))) = true) (h1 : getI v0 v5 = some g0) (h2 : l_markText_F v1 = some (p_l_markText v1)) (h3 : (!(g0.f0.f0.toList == (p_l_markText v1).toList)) = false) (h4 : l_markText_F (inc v1) = some (p_l_markText (inc v1))) (h5 : (!(g0.f0.f1.toList == (p_l_markText (inc v1)).toList)) = false) (h6 : (g0.f0.f2 != (inc (inc v1))) = false) (h7 : (g0.f0.f3 != (inc (inc (inc v1)))) = false) (h8 : (!(g0.f0.f4 == ((Int.tmod (inc (inc (inc (inc v1)))) (3 : Int)) == (0 : Int)))) = false) (h9 : l_heldTaskS_F g0.f0.f5 (inc (inc (inc (inc (inc v1))))) = some (p_l_heldTaskS g0.f0.f5 (inc (inc (inc (inc (inc v1))))))) (h10 : (decide ((p_l_heldTaskS g0.f0.f5 (inc (inc (inc (inc (inc v1)))))) < (0 : Int))) = false) (h11 : (!(g0.f1 == ((Int.tmod (p_l_heldTaskS g0.f0.f5 (inc (inc (inc (inc (inc v1)))))) (3 : Int)) == (0 : Int)))) = false) (h12 : (g0.f2 != (inc (p_l_heldTaskS g0.f0.f5 (inc (inc (inc (inc (inc v1)))))))) = false) (h13 : (g0.f3 != (inc (inc (p_l_heldTaskS g0.f0.f5 (inc (inc (inc (inc (inc v1))))))))) = true) : Round E 61 (lpAt Try.f61 0) (stL 106 [(0, .one (.s .far () 9 (v0.map (GPlan.t q0 q0)))), (1, .one (tI v1)), (5, .one (tI v5))]) .ret (stL 106 [(4, .one (tI (-1 : Int)))]) :=
  Round.path [.val (.int .i64 (v0.length : Int)), .b true, .row ((GPlan.t q0 q0) g0), .ret [(false, [tS (p_l_markText v1)])], .b false, .row ((GPlan.t q0 q0) g0), .ret [(false, [tS (p_l_markText (inc v1))])], .b false, .row ((GPlan.t q0 q0) g0), .b false, .row ((GPlan.t q0 q0) g0), .b false, .row ((GPlan.t q0 q0) g0), .no, .no, .b false, .row ((GPlan.t q0 q0) g0), .ret [(false, [tI (p_l_heldTaskS g0.f0.f5 (inc (inc (inc (inc (inc v1))))))])], .b false, .row ((GPlan.t q0 q0) g0), .no, .no, .b false, .row ((GPlan.t q0 q0) g0), .b false, .row ((GPlan.t q0 q0) g0), .b true] [fun _ => ((v0.map (GPlan.t q0 q0)).length : Int) = (v0.length : Int), fun _ => (decide (v5 < (v0.length : Int))) = true, fun _ => 0 ≤ v5 ∧ (v0.map (GPlan.t q0 q0))[v5.toNat]? = some ((GPlan.t q0 q0) g0), fun k => E.C k 81 [.one (tI v1)] = some [(false, [tS (p_l_markText v1)])], fun _ => (!(g0.f0.f0.toList == (p_l_markText v1).toList)) = false, fun _ => 0 ≤ v5 ∧ (v0.map (GPlan.t q0 q0))[v5.toNat]? = some ((GPlan.t q0 q0) g0), fun k => E.C k 81 [.one (tI (inc v1))] = some [(false, [tS (p_l_markText (inc v1))])], fun _ => (!(g0.f0.f1.toList == (p_l_markText (inc v1)).toList)) = false, fun _ => 0 ≤ v5 ∧ (v0.map (GPlan.t q0 q0))[v5.toNat]? = some ((GPlan.t q0 q0) g0), fun _ => (g0.f0.f2 != (inc (inc v1))) = false, fun _ => 0 ≤ v5 ∧ (v0.map (GPlan.t q0 q0))[v5.toNat]? = some ((GPlan.t q0 q0) g0), fun _ => (g0.f0.f3 != (inc (inc (inc v1)))) = false, fun _ => 0 ≤ v5 ∧ (v0.map (GPlan.t q0 q0))[v5.toNat]? = some ((GPlan.t q0 q0) g0), fun _ => (!(g0.f0.f4 == ((Int.tmod (inc (inc (inc (inc v1)))) (3 : Int)) == (0 : Int)))) = false, fun _ => 0 ≤ v5 ∧ (v0.map (GPlan.t q0 q0))[v5.toNat]? = some ((GPlan.t q0 q0) g0), fun k => E.C k 84 [.one (.s .far () 5 (g0.f0.f5.map (GTask.t q0))), .one (tI (inc (inc (inc (inc (inc v1))))))] = some [(false, [tI (p_l_heldTaskS g0.f0.f5 (inc (inc (inc (inc (inc v1))))))])], fun _ => (decide ((p_l_heldTaskS g0.f0.f5 (inc (inc (inc (inc (inc v1)))))) < (0 : Int))) = false, fun _ => 0 ≤ v5 ∧ (v0.map (GPlan.t q0 q0))[v5.toNat]? = some ((GPlan.t q0 q0) g0), fun _ => (!(g0.f1 == ((Int.tmod (p_l_heldTaskS g0.f0.f5 (inc (inc (inc (inc (inc v1)))))) (3 : Int)) == (0 : Int)))) = false, fun _ => 0 ≤ v5 ∧ (v0.map (GPlan.t q0 q0))[v5.toNat]? = some ((GPlan.t q0 q0) g0), fun _ => (g0.f2 != (inc (p_l_heldTaskS g0.f0.f5 (inc (inc (inc (inc (inc v1)))))))) = false, fun _ => 0 ≤ v5 ∧ (v0.map (GPlan.t q0 q0))[v5.toNat]? = some ((GPlan.t q0 q0) g0), fun _ => (g0.f3 != (inc (inc (p_l_heldTaskS g0.f0.f5 (inc (inc (inc (inc (inc v1))))))))) = true] (fun k => by kernel_rfl) ⟨Ev.c lenMap, Ev.c h0, Ev.c (getRow h1), T_l_markText v1 h2, Ev.c h3, Ev.c (getRow h1), T_l_markText (inc v1) h4, Ev.c h5, Ev.c (getRow h1), Ev.c h6, Ev.c (getRow h1), Ev.c h7, Ev.c (getRow h1), Ev.c h8, Ev.c (getRow h1), T_l_heldTaskS g0.f0.f5 (inc (inc (inc (inc (inc v1))))) h9, Ev.c h10, Ev.c (getRow h1), Ev.c h11, Ev.c (getRow h1), Ev.c h12, Ev.c (getRow h1), Ev.c h13, trivial⟩
theorem l_heldPlanS_R0_9 {q0 : Kd} (v0 : List GPlan) (v1 : Int) (v5 : Int) (g0 : GPlan) (h0 : (decide (v5 < (v0.length : Int))) = true) (h1 : getI v0 v5 = some g0) (h2 : l_markText_F v1 = some (p_l_markText v1)) (h3 : (!(g0.f0.f0.toList == (p_l_markText v1).toList)) = false) (h4 : l_markText_F (inc v1) = some (p_l_markText (inc v1))) (h5 : (!(g0.f0.f1.toList == (p_l_markText (inc v1)).toList)) = false) (h6 : (g0.f0.f2 != (inc (inc v1))) = false) (h7 : (g0.f0.f3 != (inc (inc (inc v1)))) = false) (h8 : (!(g0.f0.f4 == ((Int.tmod (inc (inc (inc (inc v1)))) (3 : Int)) == (0 : Int)))) = false) (h9 : l_heldTaskS_F g0.f0.f5 (inc (inc (inc (inc (inc v1))))) = some (p_l_heldTaskS g0.f0.f5 (inc (inc (inc (inc (inc v1))))))) (h10 : (decide ((p_l_heldTaskS g0.f0.f5 (inc (inc (inc (inc (inc v1)))))) < (0 : Int))) = false) (h11 : (!(g0.f1 == ((Int.tmod (p_l_heldTaskS g0.f0.f5 (inc (inc (inc (inc (inc v1)))))) (3 : Int)) == (0 : Int)))) = false) (h12 : (g0.f2 != (inc (p_l_heldTaskS g0.f0.f5 (inc (inc (inc (inc (inc v1)))))))) = false) (h13 : (g0.f3 != (inc (inc (p_l_heldTaskS g0.f0.f5 (inc (inc (inc (inc (inc v1))))))))) = false) : Round E 61 (lpAt Try.f61 0) (stL 106 [(0, .one (.s .far () 9 (v0.map (GPlan.t q0 q0)))), (1, .one (tI v1)), (5, .one (tI v5))]) .normal (stL 106 [(0, .one (.s .far () 9 (v0.map (GPlan.t q0 q0)))), (1, .one (tI (inc (inc (inc (p_l_heldTaskS g0.f0.f5 (inc (inc (inc (inc (inc v1))))))))))), (5, .one (tI (inc v5)))]) :=
  Round.path [.val (.int .i64 (v0.length : Int)), .b true, .row ((GPlan.t q0 q0) g0), .ret [(false, [tS (p_l_markText v1)])], .b false, .row ((GPlan.t q0 q0) g0), .ret [(false, [tS (p_l_markText (inc v1))])], .b false, .row ((GPlan.t q0 q0) g0), .b false, .row ((GPlan.t q0 q0) g0), .b false, .row ((GPlan.t q0 q0) g0), .no, .no, .b false, .row ((GPlan.t q0 q0) g0), .ret [(false, [tI (p_l_heldTaskS g0.f0.f5 (inc (inc (inc (inc (inc v1))))))])], .b false, .row ((GPlan.t q0 q0) g0), .no, .no, .b false, .row ((GPlan.t q0 q0) g0), .b false, .row ((GPlan.t q0 q0) g0), .b false] [fun _ => ((v0.map (GPlan.t q0 q0)).length : Int) = (v0.length : Int), fun _ => (decide (v5 < (v0.length : Int))) = true, fun _ => 0 ≤ v5 ∧ (v0.map (GPlan.t q0 q0))[v5.toNat]? = some ((GPlan.t q0 q0) g0), fun k => E.C k 81 [.one (tI v1)] = some [(false, [tS (p_l_markText v1)])], fun _ => (!(g0.f0.f0.toList == (p_l_markText v1).toList)) = false, fun _ => 0 ≤ v5 ∧ (v0.map (GPlan.t q0 q0))[v5.toNat]? = some ((GPlan.t q0 q0) g0), fun k => E.C k 81 [.one (tI (inc v1))] = some [(false, [tS (p_l_markText (inc v1))])], fun _ => (!(g0.f0.f1.toList == (p_l_markText (inc v1)).toList)) = false, fun _ => 0 ≤ v5 ∧ (v0.map (GPlan.t q0 q0))[v5.toNat]? = some ((GPlan.t q0 q0) g0), fun _ => (g0.f0.f2 != (inc (inc v1))) = false, fun _ => 0 ≤ v5 ∧ (v0.map (GPlan.t q0 q0))[v5.toNat]? = some ((GPlan.t q0 q0) g0), fun _ => (g0.f0.f3 != (inc (inc (inc v1)))) = false, fun _ => 0 ≤ v5 ∧ (v0.map (GPlan.t q0 q0))[v5.toNat]? = some ((GPlan.t q0 q0) g0), fun _ => (!(g0.f0.f4 == ((Int.tmod (inc (inc (inc (inc v1)))) (3 : Int)) == (0 : Int)))) = false, fun _ => 0 ≤ v5 ∧ (v0.map (GPlan.t q0 q0))[v5.toNat]? = some ((GPlan.t q0 q0) g0), fun k => E.C k 84 [.one (.s .far () 5 (g0.f0.f5.map (GTask.t q0))), .one (tI (inc (inc (inc (inc (inc v1))))))] = some [(false, [tI (p_l_heldTaskS g0.f0.f5 (inc (inc (inc (inc (inc v1))))))])], fun _ => (decide ((p_l_heldTaskS g0.f0.f5 (inc (inc (inc (inc (inc v1)))))) < (0 : Int))) = false, fun _ => 0 ≤ v5 ∧ (v0.map (GPlan.t q0 q0))[v5.toNat]? = some ((GPlan.t q0 q0) g0), fun _ => (!(g0.f1 == ((Int.tmod (p_l_heldTaskS g0.f0.f5 (inc (inc (inc (inc (inc v1)))))) (3 : Int)) == (0 : Int)))) = false, fun _ => 0 ≤ v5 ∧ (v0.map (GPlan.t q0 q0))[v5.toNat]? = some ((GPlan.t q0 q0) g0), fun _ => (g0.f2 != (inc (p_l_heldTaskS g0.f0.f5 (inc (inc (inc (inc (inc v1)))))))) = false, fun _ => 0 ≤ v5 ∧ (v0.map (GPlan.t q0 q0))[v5.toNat]? = some ((GPlan.t q0 q0) g0), fun _ => (g0.f3 != (inc (inc (p_l_heldTaskS g0.f0.f5 (inc (inc (inc (inc (inc v1))))))))) = false] (fun k => by kernel_rfl) ⟨Ev.c lenMap, Ev.c h0, Ev.c (getRow h1), T_l_markText v1 h2, Ev.c h3, Ev.c (getRow h1), T_l_markText (inc v1) h4, Ev.c h5, Ev.c (getRow h1), Ev.c h6, Ev.c (getRow h1), Ev.c h7, Ev.c (getRow h1), Ev.c h8, Ev.c (getRow h1), T_l_heldTaskS g0.f0.f5 (inc (inc (inc (inc (inc v1))))) h9, Ev.c h10, Ev.c (getRow h1), Ev.c h11, Ev.c (getRow h1), Ev.c h12, Ev.c (getRow h1), Ev.c h13, trivial⟩
theorem l_heldPlanS_R0_10 {q0 : Kd} (v0 : List GPlan) (v1 : Int) (v5 : Int) (h0 : (decide (v5 < (v0.length : Int))) = false) : Round E 61 (lpAt Try.f61 0) (stL 106 [(0, .one (.s .far () 9 (v0.map (GPlan.t q0 q0)))), (1, .one (tI v1)), (5, .one (tI v5))]) (.exit 0) (stL 106 [(1, .one (tI v1))]) :=
  Round.path [.val (.int .i64 (v0.length : Int)), .b false] [fun _ => ((v0.map (GPlan.t q0 q0)).length : Int) = (v0.length : Int), fun _ => (decide (v5 < (v0.length : Int))) = false] (fun k => by kernel_rfl) ⟨Ev.c lenMap, Ev.c h0, trivial⟩
noncomputable def l_heldPlanS_l0  : List GPlan → Nat → Int → Option l_heldPlanS_X0
  | [], i, v1 => some (.x0 v1)
  | hd :: rest, i, v1 => if l_markText_F v1 = some (p_l_markText v1) then cond (!(hd.f0.f0.toList == (p_l_markText v1).toList))
    (some (.ret (-1 : Int)))
    (if l_markText_F (inc v1) = some (p_l_markText (inc v1)) then cond (!(hd.f0.f1.toList == (p_l_markText (inc v1)).toList))
      (some (.ret (-1 : Int)))
      (cond (hd.f0.f2 != (inc (inc v1)))
        (some (.ret (-1 : Int)))
        (cond (hd.f0.f3 != (inc (inc (inc v1))))
          (some (.ret (-1 : Int)))
          (cond (!(hd.f0.f4 == ((Int.tmod (inc (inc (inc (inc v1)))) (3 : Int)) == (0 : Int))))
            (some (.ret (-1 : Int)))
            (if l_heldTaskS_F hd.f0.f5 (inc (inc (inc (inc (inc v1))))) = some (p_l_heldTaskS hd.f0.f5 (inc (inc (inc (inc (inc v1)))))) then cond (decide ((p_l_heldTaskS hd.f0.f5 (inc (inc (inc (inc (inc v1)))))) < (0 : Int)))
              (some (.ret (-1 : Int)))
              (cond (!(hd.f1 == ((Int.tmod (p_l_heldTaskS hd.f0.f5 (inc (inc (inc (inc (inc v1)))))) (3 : Int)) == (0 : Int))))
                (some (.ret (-1 : Int)))
                (cond (hd.f2 != (inc (p_l_heldTaskS hd.f0.f5 (inc (inc (inc (inc (inc v1))))))))
                  (some (.ret (-1 : Int)))
                  (cond (hd.f3 != (inc (inc (p_l_heldTaskS hd.f0.f5 (inc (inc (inc (inc (inc v1)))))))))
                    (some (.ret (-1 : Int)))
                    (l_heldPlanS_l0 rest (i + 1) (inc (inc (inc (p_l_heldTaskS hd.f0.f5 (inc (inc (inc (inc (inc v1))))))))))))) else none)))) else none) else none
theorem l_heldPlanS_L0 {q0 : Kd} (v0 : List GPlan) (rest : List GPlan) : ∀ (i : Nat) (v1 : Int), (v0).drop i = rest → v0.length ≤ 9223372036854775807 → Ans (l_heldPlanS_l0 rest i v1) (l_heldPlanS_Q0 (q0 := q0) v0 v1 (i : Int)) := by
  induction rest with
  | nil =>
    intro i v1 hE hl
    have hb := foldEnd hE
    unfold l_heldPlanS_l0
    exact Ans.some (Loops.stop (l_heldPlanS_R0_10 (q0 := q0) v0 v1 (i : Int) hb) (by intro h; cases h))
  | cons hd rest ih =>
    intro i v1 hE hl
    have hb := foldMore hE
    have hw := foldNext hE hl
    have hE2 := foldRest hE
    have hg := foldGet hE
    unfold l_heldPlanS_l0
    refine Ans.pre (fun h2 => ?_)
    refine Ans.ite (fun h3 => ?_) (fun h3 => ?_)
    · exact Ans.some (Loops.stop (l_heldPlanS_R0_0 (q0 := q0) v0 v1 (i : Int) hd hb hg h2 h3) (by intro h; cases h))
    · refine Ans.pre (fun h4 => ?_)
      refine Ans.ite (fun h5 => ?_) (fun h5 => ?_)
      · exact Ans.some (Loops.stop (l_heldPlanS_R0_1 (q0 := q0) v0 v1 (i : Int) hd hb hg h2 h3 h4 h5) (by intro h; cases h))
      · refine Ans.ite (fun h6 => ?_) (fun h6 => ?_)
        · exact Ans.some (Loops.stop (l_heldPlanS_R0_2 (q0 := q0) v0 v1 (i : Int) hd hb hg h2 h3 h4 h5 h6) (by intro h; cases h))
        · refine Ans.ite (fun h7 => ?_) (fun h7 => ?_)
          · exact Ans.some (Loops.stop (l_heldPlanS_R0_3 (q0 := q0) v0 v1 (i : Int) hd hb hg h2 h3 h4 h5 h6 h7) (by intro h; cases h))
          · refine Ans.ite (fun h8 => ?_) (fun h8 => ?_)
            · exact Ans.some (Loops.stop (l_heldPlanS_R0_4 (q0 := q0) v0 v1 (i : Int) hd hb hg h2 h3 h4 h5 h6 h7 h8) (by intro h; cases h))
            · refine Ans.pre (fun h9 => ?_)
              refine Ans.ite (fun h10 => ?_) (fun h10 => ?_)
              · exact Ans.some (Loops.stop (l_heldPlanS_R0_5 (q0 := q0) v0 v1 (i : Int) hd hb hg h2 h3 h4 h5 h6 h7 h8 h9 h10) (by intro h; cases h))
              · refine Ans.ite (fun h11 => ?_) (fun h11 => ?_)
                · exact Ans.some (Loops.stop (l_heldPlanS_R0_6 (q0 := q0) v0 v1 (i : Int) hd hb hg h2 h3 h4 h5 h6 h7 h8 h9 h10 h11) (by intro h; cases h))
                · refine Ans.ite (fun h12 => ?_) (fun h12 => ?_)
                  · exact Ans.some (Loops.stop (l_heldPlanS_R0_7 (q0 := q0) v0 v1 (i : Int) hd hb hg h2 h3 h4 h5 h6 h7 h8 h9 h10 h11 h12) (by intro h; cases h))
                  · refine Ans.ite (fun h13 => ?_) (fun h13 => ?_)
                    · exact Ans.some (Loops.stop (l_heldPlanS_R0_8 (q0 := q0) v0 v1 (i : Int) hd hb hg h2 h3 h4 h5 h6 h7 h8 h9 h10 h11 h12 h13) (by intro h; cases h))
                    · exact (ih (i + 1) (inc (inc (inc (p_l_heldTaskS hd.f0.f5 (inc (inc (inc (inc (inc v1))))))))) hE2 hl).mono fun y hy => by have r := l_heldPlanS_R0_9 (q0 := q0) v0 v1 (i : Int) hd hb hg h2 h3 h4 h5 h6 h7 h8 h9 h10 h11 h12 h13; rw [hw] at r; cases y <;> exact Loops.next r hy
theorem l_heldPlanS_P0 {q0 : Kd} (x0 : List GPlan) (x1 : Int) (w0_4 : Int) (h0 : Loops E 61 (lpAt Try.f61 0) (stL 106 [(0, .one (.s .far () 9 (x0.map (GPlan.t q0 q0)))), (1, .one (tI x1)), (5, .one (tI (0 : Int)))]) .ret (stL 106 [(4, .one (tI w0_4))])) : Does E 61 [.one (.s .far () 9 (x0.map (GPlan.t q0 q0))), .one (tI x1)] [(false, [tI w0_4])] :=
  Does.path (fn := Try.f61) [.lp .ret (stL 106 [(4, .one (tI w0_4))])] [fun k => LoopK E 61 (lpAt Try.f61 0) (stL 106 [(0, .one (.s .far () 9 (x0.map (GPlan.t q0 q0)))), (1, .one (tI x1)), (5, .one (tI (0 : Int)))]) .ret (stL 106 [(4, .one (tI w0_4))]) k k] rfl rfl (fun k => by kernel_rfl) ⟨Loops.ev h0, trivial⟩
theorem l_heldPlanS_P1 {q0 : Kd} (x0 : List GPlan) (x1 : Int) (w0_1 : Int) (h0 : Loops E 61 (lpAt Try.f61 0) (stL 106 [(0, .one (.s .far () 9 (x0.map (GPlan.t q0 q0)))), (1, .one (tI x1)), (5, .one (tI (0 : Int)))]) (.exit 0) (stL 106 [(1, .one (tI w0_1))])) : Does E 61 [.one (.s .far () 9 (x0.map (GPlan.t q0 q0))), .one (tI x1)] [(false, [tI w0_1])] :=
  Does.path (fn := Try.f61) [.lp (.exit 0) (stL 106 [(1, .one (tI w0_1))])] [fun k => LoopK E 61 (lpAt Try.f61 0) (stL 106 [(0, .one (.s .far () 9 (x0.map (GPlan.t q0 q0)))), (1, .one (tI x1)), (5, .one (tI (0 : Int)))]) (.exit 0) (stL 106 [(1, .one (tI w0_1))]) k k] rfl rfl (fun k => by kernel_rfl) ⟨Loops.ev h0, trivial⟩
noncomputable def l_heldPlanS_F (x0 : List GPlan) (x1 : Int) : Option (Int) :=
    if x0.length ≤ 9223372036854775807 then (l_heldPlanS_l0 x0 0 x1).bind fun y => match y with
      | .ret w0_4 => (some (w0_4))
      | .x0 w0_1 => (some (w0_1)) else none
theorem l_heldPlanS_D {q0 : Kd} (x0 : List GPlan) (x1 : Int) : Ans (l_heldPlanS_F x0 x1) (fun r => Does E 61 [.one (.s .far () 9 (x0.map (GPlan.t q0 q0))), .one (tI x1)] [(false, [tI r])]) := by
  unfold l_heldPlanS_F
  refine Ans.pre (fun hl1 => ?_)
  refine Ans.bind (fun y hy => ?_)
  replace hy := l_heldPlanS_L0 (q0 := q0) x0 x0 0 x1 rfl hl1 y hy
  cases y with
  | ret w0_4 =>
    have h0 := hy
    exact Ans.some (l_heldPlanS_P0 (q0 := q0) x0 x1 w0_4 h0)
  | x0 w0_1 =>
    have h0 := hy
    exact Ans.some (l_heldPlanS_P1 (q0 := q0) x0 x1 w0_1 h0)
noncomputable def p_l_markPlanS (x : List GPlan) (k : Int) : (List GPlan) × Int := (l_markPlanS_F x k).getD ([], 0)
noncomputable def p_l_heldPlanS (x : List GPlan) (k : Int) : Int := (l_heldPlanS_F x k).getD (-1)
theorem T_l_markPlanS (x0 : List GPlan) (x1 : Int) (h : l_markPlanS_F x0 x1 = some (p_l_markPlanS x0 x1)) : Does E 58 [.one (.s .own () 9 (x0.map (GPlan.t .own .own))), .one (tI x1)] [(false, [.s .own () 9 (((p_l_markPlanS x0 x1).1).map (GPlan.t .own .own))]), (false, [tI ((p_l_markPlanS x0 x1).2)])] := by
  exact l_markPlanS_D x0 x1 _ h
theorem T_l_heldPlanS {q0 : Kd} (x0 : List GPlan) (x1 : Int) (h : l_heldPlanS_F x0 x1 = some (p_l_heldPlanS x0 x1)) : Does E 61 [.one (.s .far () 9 (x0.map (GPlan.t q0 q0))), .one (tI x1)] [(false, [tI (p_l_heldPlanS x0 x1)])] := by
  exact l_heldPlanS_D x0 x1 _ h
theorem mk_l_markPlanS : ∀ (rest done : List GPlan) (i : Nat) (k : Int), (∀ y ∈ rest, Small.sm y) → 0 ≤ k → k + 1102504200008 * (rest.length : Int) ≤ 4611686018427387904 →
    ∃ new m, l_markPlanS_l0 rest done i k = some (.x0 (done ++ new) m) ∧ k ≤ m ∧ m ≤ k + 1102504200008 * (rest.length : Int) ∧ new.length = rest.length ∧ (∀ y ∈ new, Small.sm y) ∧ ∀ j, l_heldPlanS_l0 new j k = some (.x0 m)
  | [], done, i, k, _, h0, _ => ⟨[], k, by unfold l_markPlanS_l0; rw [List.append_nil], by omega, by simp, rfl, fun y hy => (by cases hy), fun j => rfl⟩
  | x :: rest, done, i, k, h, h0, h1 => by
    have hx := h x (by simp)
    rw [List.length_cons] at h1 ⊢
    have t1 := ok_l_markText k (by omega)
    have w1 : inc k = k + 1 := inc_id _ (by omega) (by omega)
    have t2 := ok_l_markText (k + 1) (by omega)
    have w2 : inc (k + 1) = (k + 1) + 1 := inc_id _ (by omega) (by omega)
    have w3 : inc ((k + 1) + 1) = ((k + 1) + 1) + 1 := inc_id _ (by omega) (by omega)
    have w4 : inc (((k + 1) + 1) + 1) = (((k + 1) + 1) + 1) + 1 := inc_id _ (by omega) (by omega)
    have w5 : inc ((((k + 1) + 1) + 1) + 1) = ((((k + 1) + 1) + 1) + 1) + 1 := inc_id _ (by omega) (by omega)
    have a6 := ok_l_markTaskS x.f0.f5 (((((k + 1) + 1) + 1) + 1) + 1) hx.2.2 (by omega) (by omega)
    have d6 : decide ((p_l_markTaskS x.f0.f5 (((((k + 1) + 1) + 1) + 1) + 1)).2 < (0 : Int)) = false := decide_eq_false (by omega)
    have w7 : inc ((p_l_markTaskS x.f0.f5 (((((k + 1) + 1) + 1) + 1) + 1)).2) = (p_l_markTaskS x.f0.f5 (((((k + 1) + 1) + 1) + 1) + 1)).2 + 1 := inc_id _ (by omega) (by omega)
    have w8 : inc ((p_l_markTaskS x.f0.f5 (((((k + 1) + 1) + 1) + 1) + 1)).2 + 1) = ((p_l_markTaskS x.f0.f5 (((((k + 1) + 1) + 1) + 1) + 1)).2 + 1) + 1 := inc_id _ (by omega) (by omega)
    have w9 : inc (((p_l_markTaskS x.f0.f5 (((((k + 1) + 1) + 1) + 1) + 1)).2 + 1) + 1) = (((p_l_markTaskS x.f0.f5 (((((k + 1) + 1) + 1) + 1) + 1)).2 + 1) + 1) + 1 := inc_id _ (by omega) (by omega)
    obtain ⟨new, m, g1, g2, g3, g4, g5, g6⟩ := mk_l_markPlanS rest (done ++ [(GPlan.mk (GDag.mk (p_l_markText k) (p_l_markText (k + 1)) ((k + 1) + 1) (((k + 1) + 1) + 1) ((Int.tmod ((((k + 1) + 1) + 1) + 1) (3 : Int)) == (0 : Int)) (p_l_markTaskS x.f0.f5 (((((k + 1) + 1) + 1) + 1) + 1)).1) ((Int.tmod ((p_l_markTaskS x.f0.f5 (((((k + 1) + 1) + 1) + 1) + 1)).2) (3 : Int)) == (0 : Int)) ((p_l_markTaskS x.f0.f5 (((((k + 1) + 1) + 1) + 1) + 1)).2 + 1) (((p_l_markTaskS x.f0.f5 (((((k + 1) + 1) + 1) + 1) + 1)).2 + 1) + 1))]) (i + 1) ((((p_l_markTaskS x.f0.f5 (((((k + 1) + 1) + 1) + 1) + 1)).2 + 1) + 1) + 1) (fun y hy => h y (by simp [hy])) (by omega) (by omega)
    refine ⟨(GPlan.mk (GDag.mk (p_l_markText k) (p_l_markText (k + 1)) ((k + 1) + 1) (((k + 1) + 1) + 1) ((Int.tmod ((((k + 1) + 1) + 1) + 1) (3 : Int)) == (0 : Int)) (p_l_markTaskS x.f0.f5 (((((k + 1) + 1) + 1) + 1) + 1)).1) ((Int.tmod ((p_l_markTaskS x.f0.f5 (((((k + 1) + 1) + 1) + 1) + 1)).2) (3 : Int)) == (0 : Int)) ((p_l_markTaskS x.f0.f5 (((((k + 1) + 1) + 1) + 1) + 1)).2 + 1) (((p_l_markTaskS x.f0.f5 (((((k + 1) + 1) + 1) + 1) + 1)).2 + 1) + 1)) :: new, m, ?_, by omega, by omega, by simp [g4], ?_, fun j => ?_⟩
    · unfold l_markPlanS_l0
      simp only [t1.1, w1, t2.1, w2, w3, w4, w5, a6.1, a6.2.1, a6.2.2.1, d6, w7, w8, w9, if_true, g1, List.append_assoc, List.singleton_append]
    · intro y hy
      rcases List.mem_cons.1 hy with rfl | hy
      · exact ⟨t1.2, t2.2, a6.2.2.2.2.2⟩
      · exact g5 y hy
    · unfold l_heldPlanS_l0
      simp only [t1.1, w1, t2.1, w2, w3, w4, w5, a6.1, a6.2.1, a6.2.2.1, d6, w7, w8, w9, if_true, bne_self_eq_false, BEq.rfl, Bool.not_true, cond_false, cond_true, g6]
theorem ok_l_markPlanS (l : List GPlan) (k : Int) (h : Small.sm l) (h0 : 0 ≤ k) (h1 : k + 1157629410008400000 ≤ 4611686018427387904) : l_markPlanS_F l k = some (p_l_markPlanS l k) ∧ l_heldPlanS_F (p_l_markPlanS l k).1 k = some (p_l_heldPlanS (p_l_markPlanS l k).1 k) ∧ p_l_heldPlanS (p_l_markPlanS l k).1 k = (p_l_markPlanS l k).2 ∧ k ≤ (p_l_markPlanS l k).2 ∧ (p_l_markPlanS l k).2 ≤ k + 1157629410008400000 ∧ Small.sm (p_l_markPlanS l k).1 := by
  have hl := h.1
  obtain ⟨new, m, g1, g2, g3, g4, g5, g6⟩ := mk_l_markPlanS l [] 0 k h.2 h0 (by omega)
  have e : l_markPlanS_F l k = some (new, m) := by unfold l_markPlanS_F; rw [if_pos (sm_wf_len h), g1]; rfl
  have p : p_l_markPlanS l k = (new, m) := by unfold p_l_markPlanS; rw [e]; rfl
  have e2 : l_heldPlanS_F new k = some m := by unfold l_heldPlanS_F; rw [if_pos (by omega), g6]; rfl
  have p2 : p_l_heldPlanS new k = m := by unfold p_l_heldPlanS; rw [e2]; rfl
  rw [p, p2]
  exact ⟨e, e2, rfl, g2, by omega, ⟨by show new.length ≤ 1050000; omega, g5⟩⟩
inductive l_markStateS_X0 where
  | x0 (v0 : List GState) (v1 : Int)
def l_markStateS_Q0 (v0 : List GState) (v1 : Int) (v5 : Int) : l_markStateS_X0 → Prop
  | .x0 zv0 zv1 => Loops E 83 (lpAt Try.f83 0) (stL 41 [(0, .one (.s .own () 4 (v0.map GState.t))), (1, .one (tI v1)), (5, .one (tI v5))]) (.exit 0) (stL 41 [(0, .one (.s .own () 4 (zv0.map GState.t))), (1, .one (tI zv1))])
theorem l_markStateS_R0_0 (v0 : List GState) (v1 : Int) (v5 : Int) (g0 : GState) (h0 : (decide (v5 < (v0.length : Int))) = true) (h1 : getI v0 v5 = some g0) : Round E 83 (lpAt Try.f83 0) (stL 41 [(0, .one (.s .own () 4 (v0.map GState.t))), (1, .one (tI v1)), (5, .one (tI v5))]) .normal (stL 41 [(0, .one (.s .own () 4 ((v0.set v5.toNat (GState.mk v1 (inc v1) (inc (inc v1)) (inc (inc (inc v1))))).map GState.t))), (1, .one (tI (inc (inc (inc (inc v1)))))), (5, .one (tI (inc v5)))]) :=
  Round.path [.val (.int .i64 (v0.length : Int)), .b true, .row (GState.t g0), .rows ((v0.set v5.toNat (GState.mk v1 g0.f1 g0.f2 g0.f3)).map GState.t), .row (GState.t (GState.mk v1 g0.f1 g0.f2 g0.f3)), .rows ((v0.set v5.toNat (GState.mk v1 (inc v1) g0.f2 g0.f3)).map GState.t), .row (GState.t (GState.mk v1 (inc v1) g0.f2 g0.f3)), .rows ((v0.set v5.toNat (GState.mk v1 (inc v1) (inc (inc v1)) g0.f3)).map GState.t), .row (GState.t (GState.mk v1 (inc v1) (inc (inc v1)) g0.f3)), .rows ((v0.set v5.toNat (GState.mk v1 (inc v1) (inc (inc v1)) (inc (inc (inc v1))))).map GState.t)] [fun _ => ((v0.map GState.t).length : Int) = (v0.length : Int), fun _ => (decide (v5 < (v0.length : Int))) = true, fun _ => 0 ≤ v5 ∧ v5 < ((v0.map GState.t).length : Int), fun _ => (v0.map GState.t)[0 + v5.toNat]? = some (GState.t g0), fun _ => (v0.map GState.t).set (0 + v5.toNat) (spliceAt (GState.t g0) 0 [tI v1]) = (v0.set v5.toNat (GState.mk v1 g0.f1 g0.f2 g0.f3)).map GState.t, fun _ => 0 ≤ v5 ∧ v5 < (((v0.set v5.toNat (GState.mk v1 g0.f1 g0.f2 g0.f3)).map GState.t).length : Int), fun _ => ((v0.set v5.toNat (GState.mk v1 g0.f1 g0.f2 g0.f3)).map GState.t)[0 + v5.toNat]? = some (GState.t (GState.mk v1 g0.f1 g0.f2 g0.f3)), fun _ => ((v0.set v5.toNat (GState.mk v1 g0.f1 g0.f2 g0.f3)).map GState.t).set (0 + v5.toNat) (spliceAt (GState.t (GState.mk v1 g0.f1 g0.f2 g0.f3)) 1 [tI (inc v1)]) = (v0.set v5.toNat (GState.mk v1 (inc v1) g0.f2 g0.f3)).map GState.t, fun _ => 0 ≤ v5 ∧ v5 < (((v0.set v5.toNat (GState.mk v1 (inc v1) g0.f2 g0.f3)).map GState.t).length : Int), fun _ => ((v0.set v5.toNat (GState.mk v1 (inc v1) g0.f2 g0.f3)).map GState.t)[0 + v5.toNat]? = some (GState.t (GState.mk v1 (inc v1) g0.f2 g0.f3)), fun _ => ((v0.set v5.toNat (GState.mk v1 (inc v1) g0.f2 g0.f3)).map GState.t).set (0 + v5.toNat) (spliceAt (GState.t (GState.mk v1 (inc v1) g0.f2 g0.f3)) 2 [tI (inc (inc v1))]) = (v0.set v5.toNat (GState.mk v1 (inc v1) (inc (inc v1)) g0.f3)).map GState.t, fun _ => 0 ≤ v5 ∧ v5 < (((v0.set v5.toNat (GState.mk v1 (inc v1) (inc (inc v1)) g0.f3)).map GState.t).length : Int), fun _ => ((v0.set v5.toNat (GState.mk v1 (inc v1) (inc (inc v1)) g0.f3)).map GState.t)[0 + v5.toNat]? = some (GState.t (GState.mk v1 (inc v1) (inc (inc v1)) g0.f3)), fun _ => ((v0.set v5.toNat (GState.mk v1 (inc v1) (inc (inc v1)) g0.f3)).map GState.t).set (0 + v5.toNat) (spliceAt (GState.t (GState.mk v1 (inc v1) (inc (inc v1)) g0.f3)) 3 [tI (inc (inc (inc v1)))]) = (v0.set v5.toNat (GState.mk v1 (inc v1) (inc (inc v1)) (inc (inc (inc v1))))).map GState.t] (fun k => by kernel_rfl) ⟨Ev.c lenMap, Ev.c h0, Ev.c (getLt h1), Ev.c (getRow0 h1), Ev.c (setMap (by rfl)), Ev.c (getLt (getI_set h1)), Ev.c (getRow0 (getI_set h1)), Ev.c (setMap2 (by rfl)), Ev.c (getLt (getI_set h1)), Ev.c (getRow0 (getI_set h1)), Ev.c (setMap2 (by rfl)), Ev.c (getLt (getI_set h1)), Ev.c (getRow0 (getI_set h1)), Ev.c (setMap2 (by rfl)), trivial⟩
theorem l_markStateS_R0_1 (v0 : List GState) (v1 : Int) (v5 : Int) (h0 : (decide (v5 < (v0.length : Int))) = false) : Round E 83 (lpAt Try.f83 0) (stL 41 [(0, .one (.s .own () 4 (v0.map GState.t))), (1, .one (tI v1)), (5, .one (tI v5))]) (.exit 0) (stL 41 [(0, .one (.s .own () 4 (v0.map GState.t))), (1, .one (tI v1))]) :=
  Round.path [.val (.int .i64 (v0.length : Int)), .b false] [fun _ => ((v0.map GState.t).length : Int) = (v0.length : Int), fun _ => (decide (v5 < (v0.length : Int))) = false] (fun k => by kernel_rfl) ⟨Ev.c lenMap, Ev.c h0, trivial⟩
noncomputable def l_markStateS_l0  : List GState → List GState → Nat → Int → Option l_markStateS_X0
  | [], done, i, v1 => some (.x0 done v1)
  | hd :: rest, done, i, v1 => l_markStateS_l0 rest (done ++ [(GState.mk v1 (inc v1) (inc (inc v1)) (inc (inc (inc v1))))]) (i + 1) (inc (inc (inc (inc v1))))
theorem l_markStateS_L0  (rest : List GState) : ∀ (done : List GState) (i : Nat) (v1 : Int), i = done.length → (done ++ rest).length ≤ 9223372036854775807 → Ans (l_markStateS_l0 rest done i v1) (l_markStateS_Q0 (done ++ rest) v1 (i : Int)) := by
  induction rest with
  | nil =>
    intro done i v1 hi hl
    rw [List.append_nil]
    have hb := mapEnd hi
    unfold l_markStateS_l0
    exact Ans.some (Loops.stop (l_markStateS_R0_1 done v1 (i : Int) hb) (by intro h; cases h))
  | cons hd rest ih =>
    intro done i v1 hi hl
    have hb := mapMore (hd := hd) (rest := rest) hi
    have hw := mapNext (hd := hd) (rest := rest) hi hl
    have hg := mapGet (hd := hd) (rest := rest) hi
    unfold l_markStateS_l0
    exact (ih (done ++ [(GState.mk v1 (inc v1) (inc (inc v1)) (inc (inc (inc v1))))]) (i + 1) (inc (inc (inc (inc v1)))) (by simp [hi]) (by simpa using hl)).mono fun y hy => by have r := l_markStateS_R0_0 (done ++ hd :: rest) v1 (i : Int) hd hb hg; rw [hw, setSplit hi] at r; cases y <;> exact Loops.next r hy
theorem l_markStateS_P0 (x0 : List GState) (x1 : Int) (w0_0 : List GState) (w0_1 : Int) (h0 : Loops E 83 (lpAt Try.f83 0) (stL 41 [(0, .one (.s .own () 4 (x0.map GState.t))), (1, .one (tI x1)), (5, .one (tI (0 : Int)))]) (.exit 0) (stL 41 [(0, .one (.s .own () 4 (w0_0.map GState.t))), (1, .one (tI w0_1))])) : Does E 83 [.one (.s .own () 4 (x0.map GState.t)), .one (tI x1)] [(false, [.s .own () 4 (w0_0.map GState.t)]), (false, [tI w0_1])] :=
  Does.path (fn := Try.f83) [.lp (.exit 0) (stL 41 [(0, .one (.s .own () 4 (w0_0.map GState.t))), (1, .one (tI w0_1))])] [fun k => LoopK E 83 (lpAt Try.f83 0) (stL 41 [(0, .one (.s .own () 4 (x0.map GState.t))), (1, .one (tI x1)), (5, .one (tI (0 : Int)))]) (.exit 0) (stL 41 [(0, .one (.s .own () 4 (w0_0.map GState.t))), (1, .one (tI w0_1))]) k k] rfl rfl (fun k => by kernel_rfl) ⟨Loops.ev h0, trivial⟩
noncomputable def l_markStateS_F (x0 : List GState) (x1 : Int) : Option ((List GState) × Int) :=
    if x0.length ≤ 9223372036854775807 then (l_markStateS_l0 x0 [] 0 x1).bind fun y => match y with
      | .x0 w0_0 w0_1 => (some (w0_0, w0_1)) else none
theorem l_markStateS_D (x0 : List GState) (x1 : Int) : Ans (l_markStateS_F x0 x1) (fun r => Does E 83 [.one (.s .own () 4 (x0.map GState.t)), .one (tI x1)] [(false, [.s .own () 4 (r.1.map GState.t)]), (false, [tI r.2])]) := by
  unfold l_markStateS_F
  refine Ans.pre (fun hl1 => ?_)
  refine Ans.bind (fun y hy => ?_)
  replace hy := l_markStateS_L0 x0 [] 0 x1 rfl hl1 y hy
  cases y with
  | x0 w0_0 w0_1 =>
    have h0 := hy
    exact Ans.some (l_markStateS_P0 x0 x1 w0_0 w0_1 h0)
inductive l_heldStateS_X0 where
  | ret (v4 : Int)
  | x0 (v1 : Int)
def l_heldStateS_Q0 (v0 : List GState) (v1 : Int) (v5 : Int) : l_heldStateS_X0 → Prop
  | .ret zv4 => Loops E 85 (lpAt Try.f85 0) (stL 49 [(0, .one (.s .far () 4 (v0.map GState.t))), (1, .one (tI v1)), (5, .one (tI v5))]) .ret (stL 49 [(4, .one (tI zv4))])
  | .x0 zv1 => Loops E 85 (lpAt Try.f85 0) (stL 49 [(0, .one (.s .far () 4 (v0.map GState.t))), (1, .one (tI v1)), (5, .one (tI v5))]) (.exit 0) (stL 49 [(1, .one (tI zv1))])
theorem l_heldStateS_R0_0 (v0 : List GState) (v1 : Int) (v5 : Int) (g0 : GState) (h0 : (decide (v5 < (v0.length : Int))) = true) (h1 : getI v0 v5 = some g0) (h2 : (g0.f0 != v1) = true) : Round E 85 (lpAt Try.f85 0) (stL 49 [(0, .one (.s .far () 4 (v0.map GState.t))), (1, .one (tI v1)), (5, .one (tI v5))]) .ret (stL 49 [(4, .one (tI (-1 : Int)))]) :=
  Round.path [.val (.int .i64 (v0.length : Int)), .b true, .row (GState.t g0), .b true] [fun _ => ((v0.map GState.t).length : Int) = (v0.length : Int), fun _ => (decide (v5 < (v0.length : Int))) = true, fun _ => 0 ≤ v5 ∧ (v0.map GState.t)[v5.toNat]? = some (GState.t g0), fun _ => (g0.f0 != v1) = true] (fun k => by kernel_rfl) ⟨Ev.c lenMap, Ev.c h0, Ev.c (getRow h1), Ev.c h2, trivial⟩
theorem l_heldStateS_R0_1 (v0 : List GState) (v1 : Int) (v5 : Int) (g0 : GState) (h0 : (decide (v5 < (v0.length : Int))) = true) (h1 : getI v0 v5 = some g0) (h2 : (g0.f0 != v1) = false) (h3 : (g0.f1 != (inc v1)) = true) : Round E 85 (lpAt Try.f85 0) (stL 49 [(0, .one (.s .far () 4 (v0.map GState.t))), (1, .one (tI v1)), (5, .one (tI v5))]) .ret (stL 49 [(4, .one (tI (-1 : Int)))]) :=
  Round.path [.val (.int .i64 (v0.length : Int)), .b true, .row (GState.t g0), .b false, .row (GState.t g0), .b true] [fun _ => ((v0.map GState.t).length : Int) = (v0.length : Int), fun _ => (decide (v5 < (v0.length : Int))) = true, fun _ => 0 ≤ v5 ∧ (v0.map GState.t)[v5.toNat]? = some (GState.t g0), fun _ => (g0.f0 != v1) = false, fun _ => 0 ≤ v5 ∧ (v0.map GState.t)[v5.toNat]? = some (GState.t g0), fun _ => (g0.f1 != (inc v1)) = true] (fun k => by kernel_rfl) ⟨Ev.c lenMap, Ev.c h0, Ev.c (getRow h1), Ev.c h2, Ev.c (getRow h1), Ev.c h3, trivial⟩
theorem l_heldStateS_R0_2 (v0 : List GState) (v1 : Int) (v5 : Int) (g0 : GState) (h0 : (decide (v5 < (v0.length : Int))) = true) (h1 : getI v0 v5 = some g0) (h2 : (g0.f0 != v1) = false) (h3 : (g0.f1 != (inc v1)) = false) (h4 : (g0.f2 != (inc (inc v1))) = true) : Round E 85 (lpAt Try.f85 0) (stL 49 [(0, .one (.s .far () 4 (v0.map GState.t))), (1, .one (tI v1)), (5, .one (tI v5))]) .ret (stL 49 [(4, .one (tI (-1 : Int)))]) :=
  Round.path [.val (.int .i64 (v0.length : Int)), .b true, .row (GState.t g0), .b false, .row (GState.t g0), .b false, .row (GState.t g0), .b true] [fun _ => ((v0.map GState.t).length : Int) = (v0.length : Int), fun _ => (decide (v5 < (v0.length : Int))) = true, fun _ => 0 ≤ v5 ∧ (v0.map GState.t)[v5.toNat]? = some (GState.t g0), fun _ => (g0.f0 != v1) = false, fun _ => 0 ≤ v5 ∧ (v0.map GState.t)[v5.toNat]? = some (GState.t g0), fun _ => (g0.f1 != (inc v1)) = false, fun _ => 0 ≤ v5 ∧ (v0.map GState.t)[v5.toNat]? = some (GState.t g0), fun _ => (g0.f2 != (inc (inc v1))) = true] (fun k => by kernel_rfl) ⟨Ev.c lenMap, Ev.c h0, Ev.c (getRow h1), Ev.c h2, Ev.c (getRow h1), Ev.c h3, Ev.c (getRow h1), Ev.c h4, trivial⟩
theorem l_heldStateS_R0_3 (v0 : List GState) (v1 : Int) (v5 : Int) (g0 : GState) (h0 : (decide (v5 < (v0.length : Int))) = true) (h1 : getI v0 v5 = some g0) (h2 : (g0.f0 != v1) = false) (h3 : (g0.f1 != (inc v1)) = false) (h4 : (g0.f2 != (inc (inc v1))) = false) (h5 : (g0.f3 != (inc (inc (inc v1)))) = true) : Round E 85 (lpAt Try.f85 0) (stL 49 [(0, .one (.s .far () 4 (v0.map GState.t))), (1, .one (tI v1)), (5, .one (tI v5))]) .ret (stL 49 [(4, .one (tI (-1 : Int)))]) :=
  Round.path [.val (.int .i64 (v0.length : Int)), .b true, .row (GState.t g0), .b false, .row (GState.t g0), .b false, .row (GState.t g0), .b false, .row (GState.t g0), .b true] [fun _ => ((v0.map GState.t).length : Int) = (v0.length : Int), fun _ => (decide (v5 < (v0.length : Int))) = true, fun _ => 0 ≤ v5 ∧ (v0.map GState.t)[v5.toNat]? = some (GState.t g0), fun _ => (g0.f0 != v1) = false, fun _ => 0 ≤ v5 ∧ (v0.map GState.t)[v5.toNat]? = some (GState.t g0), fun _ => (g0.f1 != (inc v1)) = false, fun _ => 0 ≤ v5 ∧ (v0.map GState.t)[v5.toNat]? = some (GState.t g0), fun _ => (g0.f2 != (inc (inc v1))) = false, fun _ => 0 ≤ v5 ∧ (v0.map GState.t)[v5.toNat]? = some (GState.t g0), fun _ => (g0.f3 != (inc (inc (inc v1)))) = true] (fun k => by kernel_rfl) ⟨Ev.c lenMap, Ev.c h0, Ev.c (getRow h1), Ev.c h2, Ev.c (getRow h1), Ev.c h3, Ev.c (getRow h1), Ev.c h4, Ev.c (getRow h1), Ev.c h5, trivial⟩
theorem l_heldStateS_R0_4 (v0 : List GState) (v1 : Int) (v5 : Int) (g0 : GState) (h0 : (decide (v5 < (v0.length : Int))) = true) (h1 : getI v0 v5 = some g0) (h2 : (g0.f0 != v1) = false) (h3 : (g0.f1 != (inc v1)) = false) (h4 : (g0.f2 != (inc (inc v1))) = false) (h5 : (g0.f3 != (inc (inc (inc v1)))) = false) : Round E 85 (lpAt Try.f85 0) (stL 49 [(0, .one (.s .far () 4 (v0.map GState.t))), (1, .one (tI v1)), (5, .one (tI v5))]) .normal (stL 49 [(0, .one (.s .far () 4 (v0.map GState.t))), (1, .one (tI (inc (inc (inc (inc v1)))))), (5, .one (tI (inc v5)))]) :=
  Round.path [.val (.int .i64 (v0.length : Int)), .b true, .row (GState.t g0), .b false, .row (GState.t g0), .b false, .row (GState.t g0), .b false, .row (GState.t g0), .b false] [fun _ => ((v0.map GState.t).length : Int) = (v0.length : Int), fun _ => (decide (v5 < (v0.length : Int))) = true, fun _ => 0 ≤ v5 ∧ (v0.map GState.t)[v5.toNat]? = some (GState.t g0), fun _ => (g0.f0 != v1) = false, fun _ => 0 ≤ v5 ∧ (v0.map GState.t)[v5.toNat]? = some (GState.t g0), fun _ => (g0.f1 != (inc v1)) = false, fun _ => 0 ≤ v5 ∧ (v0.map GState.t)[v5.toNat]? = some (GState.t g0), fun _ => (g0.f2 != (inc (inc v1))) = false, fun _ => 0 ≤ v5 ∧ (v0.map GState.t)[v5.toNat]? = some (GState.t g0), fun _ => (g0.f3 != (inc (inc (inc v1)))) = false] (fun k => by kernel_rfl) ⟨Ev.c lenMap, Ev.c h0, Ev.c (getRow h1), Ev.c h2, Ev.c (getRow h1), Ev.c h3, Ev.c (getRow h1), Ev.c h4, Ev.c (getRow h1), Ev.c h5, trivial⟩
theorem l_heldStateS_R0_5 (v0 : List GState) (v1 : Int) (v5 : Int) (h0 : (decide (v5 < (v0.length : Int))) = false) : Round E 85 (lpAt Try.f85 0) (stL 49 [(0, .one (.s .far () 4 (v0.map GState.t))), (1, .one (tI v1)), (5, .one (tI v5))]) (.exit 0) (stL 49 [(1, .one (tI v1))]) :=
  Round.path [.val (.int .i64 (v0.length : Int)), .b false] [fun _ => ((v0.map GState.t).length : Int) = (v0.length : Int), fun _ => (decide (v5 < (v0.length : Int))) = false] (fun k => by kernel_rfl) ⟨Ev.c lenMap, Ev.c h0, trivial⟩
noncomputable def l_heldStateS_l0  : List GState → Nat → Int → Option l_heldStateS_X0
  | [], i, v1 => some (.x0 v1)
  | hd :: rest, i, v1 => cond (hd.f0 != v1)
    (some (.ret (-1 : Int)))
    (cond (hd.f1 != (inc v1))
      (some (.ret (-1 : Int)))
      (cond (hd.f2 != (inc (inc v1)))
        (some (.ret (-1 : Int)))
        (cond (hd.f3 != (inc (inc (inc v1))))
          (some (.ret (-1 : Int)))
          (l_heldStateS_l0 rest (i + 1) (inc (inc (inc (inc v1))))))))
theorem l_heldStateS_L0 (v0 : List GState) (rest : List GState) : ∀ (i : Nat) (v1 : Int), (v0).drop i = rest → v0.length ≤ 9223372036854775807 → Ans (l_heldStateS_l0 rest i v1) (l_heldStateS_Q0 v0 v1 (i : Int)) := by
  induction rest with
  | nil =>
    intro i v1 hE hl
    have hb := foldEnd hE
    unfold l_heldStateS_l0
    exact Ans.some (Loops.stop (l_heldStateS_R0_5 v0 v1 (i : Int) hb) (by intro h; cases h))
  | cons hd rest ih =>
    intro i v1 hE hl
    have hb := foldMore hE
    have hw := foldNext hE hl
    have hE2 := foldRest hE
    have hg := foldGet hE
    unfold l_heldStateS_l0
    refine Ans.ite (fun h2 => ?_) (fun h2 => ?_)
    · exact Ans.some (Loops.stop (l_heldStateS_R0_0 v0 v1 (i : Int) hd hb hg h2) (by intro h; cases h))
    · refine Ans.ite (fun h3 => ?_) (fun h3 => ?_)
      · exact Ans.some (Loops.stop (l_heldStateS_R0_1 v0 v1 (i : Int) hd hb hg h2 h3) (by intro h; cases h))
      · refine Ans.ite (fun h4 => ?_) (fun h4 => ?_)
        · exact Ans.some (Loops.stop (l_heldStateS_R0_2 v0 v1 (i : Int) hd hb hg h2 h3 h4) (by intro h; cases h))
        · refine Ans.ite (fun h5 => ?_) (fun h5 => ?_)
          · exact Ans.some (Loops.stop (l_heldStateS_R0_3 v0 v1 (i : Int) hd hb hg h2 h3 h4 h5) (by intro h; cases h))
          · exact (ih (i + 1) (inc (inc (inc (inc v1)))) hE2 hl).mono fun y hy => by have r := l_heldStateS_R0_4 v0 v1 (i : Int) hd hb hg h2 h3 h4 h5; rw [hw] at r; cases y <;> exact Loops.next r hy
theorem l_heldStateS_P0 (x0 : List GState) (x1 : Int) (w0_4 : Int) (h0 : Loops E 85 (lpAt Try.f85 0) (stL 49 [(0, .one (.s .far () 4 (x0.map GState.t))), (1, .one (tI x1)), (5, .one (tI (0 : Int)))]) .ret (stL 49 [(4, .one (tI w0_4))])) : Does E 85 [.one (.s .far () 4 (x0.map GState.t)), .one (tI x1)] [(false, [tI w0_4])] :=
  Does.path (fn := Try.f85) [.lp .ret (stL 49 [(4, .one (tI w0_4))])] [fun k => LoopK E 85 (lpAt Try.f85 0) (stL 49 [(0, .one (.s .far () 4 (x0.map GState.t))), (1, .one (tI x1)), (5, .one (tI (0 : Int)))]) .ret (stL 49 [(4, .one (tI w0_4))]) k k] rfl rfl (fun k => by kernel_rfl) ⟨Loops.ev h0, trivial⟩
theorem l_heldStateS_P1 (x0 : List GState) (x1 : Int) (w0_1 : Int) (h0 : Loops E 85 (lpAt Try.f85 0) (stL 49 [(0, .one (.s .far () 4 (x0.map GState.t))), (1, .one (tI x1)), (5, .one (tI (0 : Int)))]) (.exit 0) (stL 49 [(1, .one (tI w0_1))])) : Does E 85 [.one (.s .far () 4 (x0.map GState.t)), .one (tI x1)] [(false, [tI w0_1])] :=
  Does.path (fn := Try.f85) [.lp (.exit 0) (stL 49 [(1, .one (tI w0_1))])] [fun k => LoopK E 85 (lpAt Try.f85 0) (stL 49 [(0, .one (.s .far () 4 (x0.map GState.t))), (1, .one (tI x1)), (5, .one (tI (0 : Int)))]) (.exit 0) (stL 49 [(1, .one (tI w0_1))]) k k] rfl rfl (fun k => by kernel_rfl) ⟨Loops.ev h0, trivial⟩
noncomputable def l_heldStateS_F (x0 : List GState) (x1 : Int) : Option (Int) :=
    if x0.length ≤ 9223372036854775807 then (l_heldStateS_l0 x0 0 x1).bind fun y => match y with
      | .ret w0_4 => (some (w0_4))
      | .x0 w0_1 => (some (w0_1)) else none
theorem l_heldStateS_D (x0 : List GState) (x1 : Int) : Ans (l_heldStateS_F x0 x1) (fun r => Does E 85 [.one (.s .far () 4 (x0.map GState.t)), .one (tI x1)] [(false, [tI r])]) := by
  unfold l_heldStateS_F
  refine Ans.pre (fun hl1 => ?_)
  refine Ans.bind (fun y hy => ?_)
  replace hy := l_heldStateS_L0 x0 x0 0 x1 rfl hl1 y hy
  cases y with
  | ret w0_4 =>
    have h0 := hy
    exact Ans.some (l_heldStateS_P0 x0 x1 w0_4 h0)
  | x0 w0_1 =>
    have h0 := hy
    exact Ans.some (l_heldStateS_P1 x0 x1 w0_1 h0)
noncomputable def p_l_markStateS (x : List GState) (k : Int) : (List GState) × Int := (l_markStateS_F x k).getD ([], 0)
noncomputable def p_l_heldStateS (x : List GState) (k : Int) : Int := (l_heldStateS_F x k).getD (-1)
theorem T_l_markStateS (x0 : List GState) (x1 : Int) (h : l_markStateS_F x0 x1 = some (p_l_markStateS x0 x1)) : Does E 83 [.one (.s .own () 4 (x0.map GState.t)), .one (tI x1)] [(false, [.s .own () 4 (((p_l_markStateS x0 x1).1).map GState.t)]), (false, [tI ((p_l_markStateS x0 x1).2)])] := by
  exact l_markStateS_D x0 x1 _ h
theorem T_l_heldStateS (x0 : List GState) (x1 : Int) (h : l_heldStateS_F x0 x1 = some (p_l_heldStateS x0 x1)) : Does E 85 [.one (.s .far () 4 (x0.map GState.t)), .one (tI x1)] [(false, [tI (p_l_heldStateS x0 x1)])] := by
  exact l_heldStateS_D x0 x1 _ h
theorem mk_l_markStateS : ∀ (rest done : List GState) (i : Nat) (k : Int), (∀ y ∈ rest, Small.sm y) → 0 ≤ k → k + 4 * (rest.length : Int) ≤ 4611686018427387904 →
    ∃ new m, l_markStateS_l0 rest done i k = some (.x0 (done ++ new) m) ∧ k ≤ m ∧ m ≤ k + 4 * (rest.length : Int) ∧ new.length = rest.length ∧ (∀ y ∈ new, Small.sm y) ∧ ∀ j, l_heldStateS_l0 new j k = some (.x0 m)
  | [], done, i, k, _, h0, _ => ⟨[], k, by unfold l_markStateS_l0; rw [List.append_nil], by omega, by simp, rfl, fun y hy => (by cases hy), fun j => rfl⟩
  | x :: rest, done, i, k, h, h0, h1 => by
    have hx := h x (by simp)
    rw [List.length_cons] at h1 ⊢
    have w1 : inc k = k + 1 := inc_id _ (by omega) (by omega)
    have w2 : inc (k + 1) = (k + 1) + 1 := inc_id _ (by omega) (by omega)
    have w3 : inc ((k + 1) + 1) = ((k + 1) + 1) + 1 := inc_id _ (by omega) (by omega)
    have w4 : inc (((k + 1) + 1) + 1) = (((k + 1) + 1) + 1) + 1 := inc_id _ (by omega) (by omega)
    obtain ⟨new, m, g1, g2, g3, g4, g5, g6⟩ := mk_l_markStateS rest (done ++ [(GState.mk k (k + 1) ((k + 1) + 1) (((k + 1) + 1) + 1))]) (i + 1) ((((k + 1) + 1) + 1) + 1) (fun y hy => h y (by simp [hy])) (by omega) (by omega)
    refine ⟨(GState.mk k (k + 1) ((k + 1) + 1) (((k + 1) + 1) + 1)) :: new, m, ?_, by omega, by omega, by simp [g4], ?_, fun j => ?_⟩
    · unfold l_markStateS_l0
      simp only [w1, w2, w3, w4, if_true, g1, List.append_assoc, List.singleton_append]
    · intro y hy
      rcases List.mem_cons.1 hy with rfl | hy
      · exact trivial
      · exact g5 y hy
    · unfold l_heldStateS_l0
      simp only [w1, w2, w3, w4, if_true, bne_self_eq_false, BEq.rfl, Bool.not_true, cond_false, cond_true, g6]
theorem ok_l_markStateS (l : List GState) (k : Int) (h : Small.sm l) (h0 : 0 ≤ k) (h1 : k + 4200000 ≤ 4611686018427387904) : l_markStateS_F l k = some (p_l_markStateS l k) ∧ l_heldStateS_F (p_l_markStateS l k).1 k = some (p_l_heldStateS (p_l_markStateS l k).1 k) ∧ p_l_heldStateS (p_l_markStateS l k).1 k = (p_l_markStateS l k).2 ∧ k ≤ (p_l_markStateS l k).2 ∧ (p_l_markStateS l k).2 ≤ k + 4200000 ∧ Small.sm (p_l_markStateS l k).1 := by
  have hl := h.1
  obtain ⟨new, m, g1, g2, g3, g4, g5, g6⟩ := mk_l_markStateS l [] 0 k h.2 h0 (by omega)
  have e : l_markStateS_F l k = some (new, m) := by unfold l_markStateS_F; rw [if_pos (sm_wf_len h), g1]; rfl
  have p : p_l_markStateS l k = (new, m) := by unfold p_l_markStateS; rw [e]; rfl
  have e2 : l_heldStateS_F new k = some m := by unfold l_heldStateS_F; rw [if_pos (by omega), g6]; rfl
  have p2 : p_l_heldStateS new k = m := by unfold p_l_heldStateS; rw [e2]; rfl
  rw [p, p2]
  exact ⟨e, e2, rfl, g2, by omega, ⟨by show new.length ≤ 1050000; omega, g5⟩⟩
inductive l_markRunS_X0 where
  | x0 (v0 : List GRun) (v1 : Int)
def l_markRunS_Q0 (v0 : List GRun) (v1 : Int) (v5 : Int) : l_markRunS_X0 → Prop
  | .x0 zv0 zv1 => Loops E 59 (lpAt Try.f59 0) (stL 51 [(0, .one (.s .own () 5 (v0.map (GRun.t .own)))), (1, .one (tI v1)), (5, .one (tI v5))]) (.exit 0) (stL 51 [(0, .one (.s .own () 5 (zv0.map (GRun.t .own)))), (1, .one (tI zv1))])
theorem l_markRunS_R0_0 (v0 : List GRun) (v1 : Int) (v5 : Int) (g0 : GRun) (h0 : (decide (v5 < (v0.length : Int))) = true) (h1 : l_markText_F v1 = some (p_l_markText v1)) (h2 : getI v0 v5 = some g0) (h3 : l_markStateS_F g0.f3 (inc (inc (inc (inc v1)))) = some (p_l_markStateS g0.f3 (inc (inc (inc (inc v1)))))) : Round E 59 (lpAt Try.f59 0) (stL 51 [(0, .one (.s .own () 5 (v0.map (GRun.t .own)))), (1, .one (tI v1)), (5, .one (tI v5))]) .normal (stL 51 [(0, .one (.s .own () 5 ((v0.set v5.toNat (GRun.mk (p_l_markText v1) (GSpan.mk (inc v1) (inc (inc v1))) (inc (inc (inc v1))) ((p_l_markStateS g0.f3 (inc (inc (inc (inc v1))))).1))).map (GRun.t .own)))), (1, .one (tI ((p_l_markStateS g0.f3 (inc (inc (inc (inc v1))))).2))), (5, .one (tI (inc v5)))]) :=
  Round.path [.val (.int .i64 (v0.length : Int)), .b true, .ret [(false, [tS (p_l_markText v1)])], .row ((GRun.t .own) g0), .rows ((v0.set v5.toNat (GRun.mk (p_l_markText v1) g0.f1 g0.f2 g0.f3)).map (GRun.t .own)), .row ((GRun.t .own) (GRun.mk (p_l_markText v1) g0.f1 g0.f2 g0.f3)), .rows ((v0.set v5.toNat (GRun.mk (p_l_markText v1) (GSpan.mk (inc v1) g0.f1.f1) g0.f2 g0.f3)).map (GRun.t .own)), .row ((GRun.t .own) (GRun.mk (p_l_markText v1) (GSpan.mk (inc v1) g0.f1.f1) g0.f2 g0.f3)), .rows ((v0.set v5.toNat (GRun.mk (p_l_markText v1) (GSpan.mk (inc v1) (inc (inc v1))) g0.f2 g0.f3)).map (GRun.t .own)), .row ((GRun.t .own) (GRun.mk (p_l_markText v1) (GSpan.mk (inc v1) (inc (inc v1))) g0.f2 g0.f3)), .rows ((v0.set v5.toNat (GRun.mk (p_l_markText v1) (GSpan.mk (inc v1) (inc (inc v1))) (inc (inc (inc v1))) g0.f3)).map (GRun.t .own)), .row ((GRun.t .own) (GRun.mk (p_l_markText v1) (GSpan.mk (inc v1) (inc (inc v1))) (inc (inc (inc v1))) g0.f3)), .row ((GRun.t .own) (GRun.mk (p_l_markText v1) (GSpan.mk (inc v1) (inc (inc v1))) (inc (inc (inc v1))) g0.f3)), .ret [(false, [.s .own () 4 (((p_l_markStateS g0.f3 (inc (inc (inc (inc v1))))).1).map GState.t)]), (false, [tI ((p_l_markStateS g0.f3 (inc (inc (inc (inc v1))))).2)])], .row ((GRun.t .own) (GRun.mk (p_l_markText v1) (GSpan.mk (inc v1) (inc (inc v1))) (inc (inc (inc v1))) g0.f3)), .rows ((v0.set v5.toNat (GRun.mk (p_l_markText v1) (GSpan.mk (inc v1) (inc (inc v1))) (inc (inc (inc v1))) ((p_l_markStateS g0.f3 (inc (inc (inc (inc v1))))).1))).map (GRun.t .own))] [fun _ => ((v0.map (GRun.t .own)).length : Int) = (v0.length : Int), fun _ => (decide (v5 < (v0.length : Int))) = true, fun k => E.C k 81 [.one (tI v1)] = some [(false, [tS (p_l_markText v1)])], fun _ => 0 ≤ v5 ∧ v5 < ((v0.map (GRun.t .own)).length : Int), fun _ => (v0.map (GRun.t .own))[0 + v5.toNat]? = some ((GRun.t .own) g0), fun _ => (v0.map (GRun.t .own)).set (0 + v5.toNat) (spliceAt ((GRun.t .own) g0) 0 [tS (p_l_markText v1)]) = (v0.set v5.toNat (GRun.mk (p_l_markText v1) g0.f1 g0.f2 g0.f3)).map (GRun.t .own), fun _ => 0 ≤ v5 ∧ v5 < (((v0.set v5.toNat (GRun.mk (p_l_markText v1) g0.f1 g0.f2 g0.f3)).map (GRun.t .own)).length : Int), fun _ => ((v0.set v5.toNat (GRun.mk (p_l_markText v1) g0.f1 g0.f2 g0.f3)).map (GRun.t .own))[0 + v5.toNat]? = some ((GRun.t .own) (GRun.mk (p_l_markText v1) g0.f1 g0.f2 g0.f3)), fun _ => ((v0.set v5.toNat (GRun.mk (p_l_markText v1) g0.f1 g0.f2 g0.f3)).map (GRun.t .own)).set (0 + v5.toNat) (spliceAt ((GRun.t .own) (GRun.mk (p_l_markText v1) g0.f1 g0.f2 g0.f3)) 1 [tI (inc v1)]) = (v0.set v5.toNat (GRun.mk (p_l_markText v1) (GSpan.mk (inc v1) g0.f1.f1) g0.f2 g0.f3)).map (GRun.t .own), fun _ => 0 ≤ v5 ∧ v5 < (((v0.set v5.toNat (GRun.mk (p_l_markText v1) (GSpan.mk (inc v1) g0.f1.f1) g0.f2 g0.f3)).map (GRun.t .own)).length : Int), fun _ => ((v0.set v5.toNat (GRun.mk (p_l_markText v1) (GSpan.mk (inc v1) g0.f1.f1) g0.f2 g0.f3)).map (GRun.t .own))[0 + v5.toNat]? = some ((GRun.t .own) (GRun.mk (p_l_markText v1) (GSpan.mk (inc v1) g0.f1.f1) g0.f2 g0.f3)), fun _ => ((v0.set v5.toNat (GRun.mk (p_l_markText v1) (GSpan.mk (inc v1) g0.f1.f1) g0.f2 g0.f3)).map (GRun.t .own)).set (0 + v5.toNat) (spliceAt ((GRun.t .own) (GRun.mk (p_l_markText v1) (GSpan.mk (inc v1) g0.f1.f1) g0.f2 g0.f3)) 2 [tI (inc (inc v1))]) = (v0.set v5.toNat (GRun.mk (p_l_markText v1) (GSpan.mk (inc v1) (inc (inc v1))) g0.f2 g0.f3)).map (GRun.t .own), fun _ => 0 ≤ v5 ∧ v5 < (((v0.set v5.toNat (GRun.mk (p_l_markText v1) (GSpan.mk (inc v1) (inc (inc v1))) g0.f2 g0.f3)).map (GRun.t .own)).length : Int), fun _ => ((v0.set v5.toNat (GRun.mk (p_l_markText v1) (GSpan.mk (inc v1) (inc (inc v1))) g0.f2 g0.f3)).map (GRun.t .own))[0 + v5.toNat]? = some ((GRun.t .own) (GRun.mk (p_l_markText v1) (GSpan.mk (inc v1) (inc (inc v1))) g0.f2 g0.f3)), fun _ => ((v0.set v5.toNat (GRun.mk (p_l_markText v1) (GSpan.mk (inc v1) (inc (inc v1))) g0.f2 g0.f3)).map (GRun.t .own)).set (0 + v5.toNat) (spliceAt ((GRun.t .own) (GRun.mk (p_l_markText v1) (GSpan.mk (inc v1) (inc (inc v1))) g0.f2 g0.f3)) 3 [tI (inc (inc (inc v1)))]) = (v0.set v5.toNat (GRun.mk (p_l_markText v1) (GSpan.mk (inc v1) (inc (inc v1))) (inc (inc (inc v1))) g0.f3)).map (GRun.t .own), fun _ => 0 ≤ v5 ∧ v5 < (((v0.set v5.toNat (GRun.mk (p_l_markText v1) (GSpan.mk (inc v1) (inc (inc v1))) (inc (inc (inc v1))) g0.f3)).map (GRun.t .own)).length : Int), fun _ => ((v0.set v5.toNat (GRun.mk (p_l_markText v1) (GSpan.mk (inc v1) (inc (inc v1))) (inc (inc (inc v1))) g0.f3)).map (GRun.t .own))[0 + v5.toNat]? = some ((GRun.t .own) (GRun.mk (p_l_markText v1) (GSpan.mk (inc v1) (inc (inc v1))) (inc (inc (inc v1))) g0.f3)), fun _ => ((v0.set v5.toNat (GRun.mk (p_l_markText v1) (GSpan.mk (inc v1) (inc (inc v1))) (inc (inc (inc v1))) g0.f3)).map (GRun.t .own))[0 + v5.toNat]? = some ((GRun.t .own) (GRun.mk (p_l_markText v1) (GSpan.mk (inc v1) (inc (inc v1))) (inc (inc (inc v1))) g0.f3)), fun _ => (g0.f3.map GState.t).length = (g0.f3.map GState.t).length, fun k => E.C k 83 [.one (.s .own () 4 (g0.f3.map GState.t)), .one (tI (inc (inc (inc (inc v1)))))] = some [(false, [.s .own () 4 (((p_l_markStateS g0.f3 (inc (inc (inc (inc v1))))).1).map GState.t)]), (false, [tI ((p_l_markStateS g0.f3 (inc (inc (inc (inc v1))))).2)])], fun _ => ((v0.set v5.toNat (GRun.mk (p_l_markText v1) (GSpan.mk (inc v1) (inc (inc v1))) (inc (inc (inc v1))) g0.f3)).map (GRun.t .own))[0 + v5.toNat]? = some ((GRun.t .own) (GRun.mk (p_l_markText v1) (GSpan.mk (inc v1) (inc (inc v1))) (inc (inc (inc v1))) g0.f3)), fun _ => ((v0.set v5.toNat (GRun.mk (p_l_markText v1) (GSpan.mk (inc v1) (inc (inc v1))) (inc (inc (inc v1))) g0.f3)).map (GRun.t .own)).set (0 + v5.toNat) (((GRun.t .own) (GRun.mk (p_l_markText v1) (GSpan.mk (inc v1) (inc (inc v1))) (inc (inc (inc v1))) g0.f3)).set 4 (.s .own () 4 (((p_l_markStateS g0.f3 (inc (inc (inc (inc v1))))).1).map GState.t))) = (v0.set v5.toNat (GRun.mk (p_l_markText v1) (GSpan.mk (inc v1) (inc (inc v1))) (inc (inc (inc v1))) ((p_l_markStateS g0.f3 (inc (inc (inc (inc v1))))).1))).map (GRun.t .own)] (fun k => by kernel_rfl) ⟨Ev.c lenMap, Ev.c h0, T_l_markText v1 h1, Ev.c (getLt h2), Ev.c (getRow0 h2), Ev.c (setMap (by rfl)), Ev.c (getLt (getI_set h2)), Ev.c (getRow0 (getI_set h2)), Ev.c (setMap2 (by rfl)), Ev.c (getLt (getI_set h2)), Ev.c (getRow0 (getI_set h2)), Ev.c (setMap2 (by rfl)), Ev.c (getLt (getI_set h2)), Ev.c (getRow0 (getI_set h2)), Ev.c (setMap2 (by rfl)), Ev.c (getLt (getI_set h2)), Ev.c (getRow0 (getI_set h2)), Ev.c (getRow0 (getI_set h2)), Ev.c rfl, T_l_markStateS g0.f3 (inc (inc (inc (inc v1)))) h3, Ev.c (getRow0 (getI_set h2)), Ev.c (setMap2 (by rfl)), trivial⟩
theorem l_markRunS_R0_1 (v0 : List GRun) (v1 : Int) (v5 : Int) (h0 : (decide (v5 < (v0.length : Int))) = false) : Round E 59 (lpAt Try.f59 0) (stL 51 [(0, .one (.s .own () 5 (v0.map (GRun.t .own)))), (1, .one (tI v1)), (5, .one (tI v5))]) (.exit 0) (stL 51 [(0, .one (.s .own () 5 (v0.map (GRun.t .own)))), (1, .one (tI v1))]) :=
  Round.path [.val (.int .i64 (v0.length : Int)), .b false] [fun _ => ((v0.map (GRun.t .own)).length : Int) = (v0.length : Int), fun _ => (decide (v5 < (v0.length : Int))) = false] (fun k => by kernel_rfl) ⟨Ev.c lenMap, Ev.c h0, trivial⟩
noncomputable def l_markRunS_l0  : List GRun → List GRun → Nat → Int → Option l_markRunS_X0
  | [], done, i, v1 => some (.x0 done v1)
  | hd :: rest, done, i, v1 => if l_markText_F v1 = some (p_l_markText v1) then if l_markStateS_F hd.f3 (inc (inc (inc (inc v1)))) = some (p_l_markStateS hd.f3 (inc (inc (inc (inc v1))))) then l_markRunS_l0 rest (done ++ [(GRun.mk (p_l_markText v1) (GSpan.mk (inc v1) (inc (inc v1))) (inc (inc (inc v1))) ((p_l_markStateS hd.f3 (inc (inc (inc (inc v1))))).1))]) (i + 1) ((p_l_markStateS hd.f3 (inc (inc (inc (inc v1))))).2) else none else none
theorem l_markRunS_L0  (rest : List GRun) : ∀ (done : List GRun) (i : Nat) (v1 : Int), i = done.length → (done ++ rest).length ≤ 9223372036854775807 → Ans (l_markRunS_l0 rest done i v1) (l_markRunS_Q0 (done ++ rest) v1 (i : Int)) := by
  induction rest with
  | nil =>
    intro done i v1 hi hl
    rw [List.append_nil]
    have hb := mapEnd hi
    unfold l_markRunS_l0
    exact Ans.some (Loops.stop (l_markRunS_R0_1 done v1 (i : Int) hb) (by intro h; cases h))
  | cons hd rest ih =>
    intro done i v1 hi hl
    have hb := mapMore (hd := hd) (rest := rest) hi
    have hw := mapNext (hd := hd) (rest := rest) hi hl
    have hg := mapGet (hd := hd) (rest := rest) hi
    unfold l_markRunS_l0
    refine Ans.pre (fun h1 => ?_)
    refine Ans.pre (fun h3 => ?_)
    exact (ih (done ++ [(GRun.mk (p_l_markText v1) (GSpan.mk (inc v1) (inc (inc v1))) (inc (inc (inc v1))) ((p_l_markStateS hd.f3 (inc (inc (inc (inc v1))))).1))]) (i + 1) ((p_l_markStateS hd.f3 (inc (inc (inc (inc v1))))).2) (by simp [hi]) (by simpa using hl)).mono fun y hy => by have r := l_markRunS_R0_0 (done ++ hd :: rest) v1 (i : Int) hd hb h1 hg h3; rw [hw, setSplit hi] at r; cases y <;> exact Loops.next r hy
theorem l_markRunS_P0 (x0 : List GRun) (x1 : Int) (w0_0 : List GRun) (w0_1 : Int) (h0 : Loops E 59 (lpAt Try.f59 0) (stL 51 [(0, .one (.s .own () 5 (x0.map (GRun.t .own)))), (1, .one (tI x1)), (5, .one (tI (0 : Int)))]) (.exit 0) (stL 51 [(0, .one (.s .own () 5 (w0_0.map (GRun.t .own)))), (1, .one (tI w0_1))])) : Does E 59 [.one (.s .own () 5 (x0.map (GRun.t .own))), .one (tI x1)] [(false, [.s .own () 5 (w0_0.map (GRun.t .own))]), (false, [tI w0_1])] :=
  Does.path (fn := Try.f59) [.lp (.exit 0) (stL 51 [(0, .one (.s .own () 5 (w0_0.map (GRun.t .own)))), (1, .one (tI w0_1))])] [fun k => LoopK E 59 (lpAt Try.f59 0) (stL 51 [(0, .one (.s .own () 5 (x0.map (GRun.t .own)))), (1, .one (tI x1)), (5, .one (tI (0 : Int)))]) (.exit 0) (stL 51 [(0, .one (.s .own () 5 (w0_0.map (GRun.t .own)))), (1, .one (tI w0_1))]) k k] rfl rfl (fun k => by kernel_rfl) ⟨Loops.ev h0, trivial⟩
noncomputable def l_markRunS_F (x0 : List GRun) (x1 : Int) : Option ((List GRun) × Int) :=
    if x0.length ≤ 9223372036854775807 then (l_markRunS_l0 x0 [] 0 x1).bind fun y => match y with
      | .x0 w0_0 w0_1 => (some (w0_0, w0_1)) else none
theorem l_markRunS_D (x0 : List GRun) (x1 : Int) : Ans (l_markRunS_F x0 x1) (fun r => Does E 59 [.one (.s .own () 5 (x0.map (GRun.t .own))), .one (tI x1)] [(false, [.s .own () 5 (r.1.map (GRun.t .own))]), (false, [tI r.2])]) := by
  unfold l_markRunS_F
  refine Ans.pre (fun hl1 => ?_)
  refine Ans.bind (fun y hy => ?_)
  replace hy := l_markRunS_L0 x0 [] 0 x1 rfl hl1 y hy
  cases y with
  | x0 w0_0 w0_1 =>
    have h0 := hy
    exact Ans.some (l_markRunS_P0 x0 x1 w0_0 w0_1 h0)
inductive l_heldRunS_X0 where
  | ret (v4 : Int)
  | x0 (v1 : Int)
def l_heldRunS_Q0 {q0 : Kd} (v0 : List GRun) (v1 : Int) (v5 : Int) : l_heldRunS_X0 → Prop
  | .ret zv4 => Loops E 62 (lpAt Try.f62 0) (stL 61 [(0, .one (.s .far () 5 (v0.map (GRun.t q0)))), (1, .one (tI v1)), (5, .one (tI v5))]) .ret (stL 61 [(4, .one (tI zv4))])
  | .x0 zv1 => Loops E 62 (lpAt Try.f62 0) (stL 61 [(0, .one (.s .far () 5 (v0.map (GRun.t q0)))), (1, .one (tI v1)), (5, .one (tI v5))]) (.exit 0) (stL 61 [(1, .one (tI zv1))])
theorem l_heldRunS_R0_0 {q0 : Kd} (v0 : List GRun) (v1 : Int) (v5 : Int) (g0 : GRun) (h0 : (decide (v5 < (v0.length : Int))) = true) (h1 : getI v0 v5 = some g0) (h2 : l_markText_F v1 = some (p_l_markText v1)) (h3 : (!(g0.f0.toList == (p_l_markText v1).toList)) = true) : Round E 62 (lpAt Try.f62 0) (stL 61 [(0, .one (.s .far () 5 (v0.map (GRun.t q0)))), (1, .one (tI v1)), (5, .one (tI v5))]) .ret (stL 61 [(4, .one (tI (-1 : Int)))]) :=
  Round.path [.val (.int .i64 (v0.length : Int)), .b true, .row ((GRun.t q0) g0), .ret [(false, [tS (p_l_markText v1)])], .b true] [fun _ => ((v0.map (GRun.t q0)).length : Int) = (v0.length : Int), fun _ => (decide (v5 < (v0.length : Int))) = true, fun _ => 0 ≤ v5 ∧ (v0.map (GRun.t q0))[v5.toNat]? = some ((GRun.t q0) g0), fun k => E.C k 81 [.one (tI v1)] = some [(false, [tS (p_l_markText v1)])], fun _ => (!(g0.f0.toList == (p_l_markText v1).toList)) = true] (fun k => by kernel_rfl) ⟨Ev.c lenMap, Ev.c h0, Ev.c (getRow h1), T_l_markText v1 h2, Ev.c h3, trivial⟩
theorem l_heldRunS_R0_1 {q0 : Kd} (v0 : List GRun) (v1 : Int) (v5 : Int) (g0 : GRun) (h0 : (decide (v5 < (v0.length : Int))) = true) (h1 : getI v0 v5 = some g0) (h2 : l_markText_F v1 = some (p_l_markText v1)) (h3 : (!(g0.f0.toList == (p_l_markText v1).toList)) = false) (h4 : (g0.f1.f0 != (inc v1)) = true) : Round E 62 (lpAt Try.f62 0) (stL 61 [(0, .one (.s .far () 5 (v0.map (GRun.t q0)))), (1, .one (tI v1)), (5, .one (tI v5))]) .ret (stL 61 [(4, .one (tI (-1 : Int)))]) :=
  Round.path [.val (.int .i64 (v0.length : Int)), .b true, .row ((GRun.t q0) g0), .ret [(false, [tS (p_l_markText v1)])], .b false, .row ((GRun.t q0) g0), .b true] [fun _ => ((v0.map (GRun.t q0)).length : Int) = (v0.length : Int), fun _ => (decide (v5 < (v0.length : Int))) = true, fun _ => 0 ≤ v5 ∧ (v0.map (GRun.t q0))[v5.toNat]? = some ((GRun.t q0) g0), fun k => E.C k 81 [.one (tI v1)] = some [(false, [tS (p_l_markText v1)])], fun _ => (!(g0.f0.toList == (p_l_markText v1).toList)) = false, fun _ => 0 ≤ v5 ∧ (v0.map (GRun.t q0))[v5.toNat]? = some ((GRun.t q0) g0), fun _ => (g0.f1.f0 != (inc v1)) = true] (fun k => by kernel_rfl) ⟨Ev.c lenMap, Ev.c h0, Ev.c (getRow h1), T_l_markText v1 h2, Ev.c h3, Ev.c (getRow h1), Ev.c h4, trivial⟩
theorem l_heldRunS_R0_2 {q0 : Kd} (v0 : List GRun) (v1 : Int) (v5 : Int) (g0 : GRun) (h0 : (decide (v5 < (v0.length : Int))) = true) (h1 : getI v0 v5 = some g0) (h2 : l_markText_F v1 = some (p_l_markText v1)) (h3 : (!(g0.f0.toList == (p_l_markText v1).toList)) = false) (h4 : (g0.f1.f0 != (inc v1)) = false) (h5 : (g0.f1.f1 != (inc (inc v1))) = true) : Round E 62 (lpAt Try.f62 0) (stL 61 [(0, .one (.s .far () 5 (v0.map (GRun.t q0)))), (1, .one (tI v1)), (5, .one (tI v5))]) .ret (stL 61 [(4, .one (tI (-1 : Int)))]) :=
  Round.path [.val (.int .i64 (v0.length : Int)), .b true, .row ((GRun.t q0) g0), .ret [(false, [tS (p_l_markText v1)])], .b false, .row ((GRun.t q0) g0), .b false, .row ((GRun.t q0) g0), .b true] [fun _ => ((v0.map (GRun.t q0)).length : Int) = (v0.length : Int), fun _ => (decide (v5 < (v0.length : Int))) = true, fun _ => 0 ≤ v5 ∧ (v0.map (GRun.t q0))[v5.toNat]? = some ((GRun.t q0) g0), fun k => E.C k 81 [.one (tI v1)] = some [(false, [tS (p_l_markText v1)])], fun _ => (!(g0.f0.toList == (p_l_markText v1).toList)) = false, fun _ => 0 ≤ v5 ∧ (v0.map (GRun.t q0))[v5.toNat]? = some ((GRun.t q0) g0), fun _ => (g0.f1.f0 != (inc v1)) = false, fun _ => 0 ≤ v5 ∧ (v0.map (GRun.t q0))[v5.toNat]? = some ((GRun.t q0) g0), fun _ => (g0.f1.f1 != (inc (inc v1))) = true] (fun k => by kernel_rfl) ⟨Ev.c lenMap, Ev.c h0, Ev.c (getRow h1), T_l_markText v1 h2, Ev.c h3, Ev.c (getRow h1), Ev.c h4, Ev.c (getRow h1), Ev.c h5, trivial⟩
theorem l_heldRunS_R0_3 {q0 : Kd} (v0 : List GRun) (v1 : Int) (v5 : Int) (g0 : GRun) (h0 : (decide (v5 < (v0.length : Int))) = true) (h1 : getI v0 v5 = some g0) (h2 : l_markText_F v1 = some (p_l_markText v1)) (h3 : (!(g0.f0.toList == (p_l_markText v1).toList)) = false) (h4 : (g0.f1.f0 != (inc v1)) = false) (h5 : (g0.f1.f1 != (inc (inc v1))) = false) (h6 : (g0.f2 != (inc (inc (inc v1)))) = true) : Round E 62 (lpAt Try.f62 0) (stL 61 [(0, .one (.s .far () 5 (v0.map (GRun.t q0)))), (1, .one (tI v1)), (5, .one (tI v5))]) .ret (stL 61 [(4, .one (tI (-1 : Int)))]) :=
  Round.path [.val (.int .i64 (v0.length : Int)), .b true, .row ((GRun.t q0) g0), .ret [(false, [tS (p_l_markText v1)])], .b false, .row ((GRun.t q0) g0), .b false, .row ((GRun.t q0) g0), .b false, .row ((GRun.t q0) g0), .b true] [fun _ => ((v0.map (GRun.t q0)).length : Int) = (v0.length : Int), fun _ => (decide (v5 < (v0.length : Int))) = true, fun _ => 0 ≤ v5 ∧ (v0.map (GRun.t q0))[v5.toNat]? = some ((GRun.t q0) g0), fun k => E.C k 81 [.one (tI v1)] = some [(false, [tS (p_l_markText v1)])], fun _ => (!(g0.f0.toList == (p_l_markText v1).toList)) = false, fun _ => 0 ≤ v5 ∧ (v0.map (GRun.t q0))[v5.toNat]? = some ((GRun.t q0) g0), fun _ => (g0.f1.f0 != (inc v1)) = false, fun _ => 0 ≤ v5 ∧ (v0.map (GRun.t q0))[v5.toNat]? = some ((GRun.t q0) g0), fun _ => (g0.f1.f1 != (inc (inc v1))) = false, fun _ => 0 ≤ v5 ∧ (v0.map (GRun.t q0))[v5.toNat]? = some ((GRun.t q0) g0), fun _ => (g0.f2 != (inc (inc (inc v1)))) = true] (fun k => by kernel_rfl) ⟨Ev.c lenMap, Ev.c h0, Ev.c (getRow h1), T_l_markText v1 h2, Ev.c h3, Ev.c (getRow h1), Ev.c h4, Ev.c (getRow h1), Ev.c h5, Ev.c (getRow h1), Ev.c h6, trivial⟩
theorem l_heldRunS_R0_4 {q0 : Kd} (v0 : List GRun) (v1 : Int) (v5 : Int) (g0 : GRun) (h0 : (decide (v5 < (v0.length : Int))) = true) (h1 : getI v0 v5 = some g0) (h2 : l_markText_F v1 = some (p_l_markText v1)) (h3 : (!(g0.f0.toList == (p_l_markText v1).toList)) = false) (h4 : (g0.f1.f0 != (inc v1)) = false) (h5 : (g0.f1.f1 != (inc (inc v1))) = false) (h6 : (g0.f2 != (inc (inc (inc v1)))) = false) (h7 : l_heldStateS_F g0.f3 (inc (inc (inc (inc v1)))) = some (p_l_heldStateS g0.f3 (inc (inc (inc (inc v1)))))) (h8 : (decide ((p_l_heldStateS g0.f3 (inc (inc (inc (inc v1))))) < (0 : Int))) = true) : Round E 62 (lpAt Try.f62 0) (stL 61 [(0, .one (.s .far () 5 (v0.map (GRun.t q0)))), (1, .one (tI v1)), (5, .one (tI v5))]) .ret (stL 61 [(4, .one (tI (-1 : Int)))]) :=
  Round.path [.val (.int .i64 (v0.length : Int)), .b true, .row ((GRun.t q0) g0), .ret [(false, [tS (p_l_markText v1)])], .b false, .row ((GRun.t q0) g0), .b false, .row ((GRun.t q0) g0), .b false, .row ((GRun.t q0) g0), .b false, .row ((GRun.t q0) g0), .ret [(false, [tI (p_l_heldStateS g0.f3 (inc (inc (inc (inc v1)))))])], .b true] [fun _ => ((v0.map (GRun.t q0)).length : Int) = (v0.length : Int), fun _ => (decide (v5 < (v0.length : Int))) = true, fun _ => 0 ≤ v5 ∧ (v0.map (GRun.t q0))[v5.toNat]? = some ((GRun.t q0) g0), fun k => E.C k 81 [.one (tI v1)] = some [(false, [tS (p_l_markText v1)])], fun _ => (!(g0.f0.toList == (p_l_markText v1).toList)) = false, fun _ => 0 ≤ v5 ∧ (v0.map (GRun.t q0))[v5.toNat]? = some ((GRun.t q0) g0), fun _ => (g0.f1.f0 != (inc v1)) = false, fun _ => 0 ≤ v5 ∧ (v0.map (GRun.t q0))[v5.toNat]? = some ((GRun.t q0) g0), fun _ => (g0.f1.f1 != (inc (inc v1))) = false, fun _ => 0 ≤ v5 ∧ (v0.map (GRun.t q0))[v5.toNat]? = some ((GRun.t q0) g0), fun _ => (g0.f2 != (inc (inc (inc v1)))) = false, fun _ => 0 ≤ v5 ∧ (v0.map (GRun.t q0))[v5.toNat]? = some ((GRun.t q0) g0), fun k => E.C k 85 [.one (.s .far () 4 (g0.f3.map GState.t)), .one (tI (inc (inc (inc (inc v1)))))] = some [(false, [tI (p_l_heldStateS g0.f3 (inc (inc (inc (inc v1)))))])], fun _ => (decide ((p_l_heldStateS g0.f3 (inc (inc (inc (inc v1))))) < (0 : Int))) = true] (fun k => by kernel_rfl) ⟨Ev.c lenMap, Ev.c h0, Ev.c (getRow h1), T_l_markText v1 h2, Ev.c h3, Ev.c (getRow h1), Ev.c h4, Ev.c (getRow h1), Ev.c h5, Ev.c (getRow h1), Ev.c h6, Ev.c (getRow h1), T_l_heldStateS g0.f3 (inc (inc (inc (inc v1)))) h7, Ev.c h8, trivial⟩
theorem l_heldRunS_R0_5 {q0 : Kd} (v0 : List GRun) (v1 : Int) (v5 : Int) (g0 : GRun) (h0 : (decide (v5 < (v0.length : Int))) = true) (h1 : getI v0 v5 = some g0) (h2 : l_markText_F v1 = some (p_l_markText v1)) (h3 : (!(g0.f0.toList == (p_l_markText v1).toList)) = false) (h4 : (g0.f1.f0 != (inc v1)) = false) (h5 : (g0.f1.f1 != (inc (inc v1))) = false) (h6 : (g0.f2 != (inc (inc (inc v1)))) = false) (h7 : l_heldStateS_F g0.f3 (inc (inc (inc (inc v1)))) = some (p_l_heldStateS g0.f3 (inc (inc (inc (inc v1)))))) (h8 : (decide ((p_l_heldStateS g0.f3 (inc (inc (inc (inc v1))))) < (0 : Int))) = false) : Round E 62 (lpAt Try.f62 0) (stL 61 [(0, .one (.s .far () 5 (v0.map (GRun.t q0)))), (1, .one (tI v1)), (5, .one (tI v5))]) .normal (stL 61 [(0, .one (.s .far () 5 (v0.map (GRun.t q0)))), (1, .one (tI (p_l_heldStateS g0.f3 (inc (inc (inc (inc v1))))))), (5, .one (tI (inc v5)))]) :=
  Round.path [.val (.int .i64 (v0.length : Int)), .b true, .row ((GRun.t q0) g0), .ret [(false, [tS (p_l_markText v1)])], .b false, .row ((GRun.t q0) g0), .b false, .row ((GRun.t q0) g0), .b false, .row ((GRun.t q0) g0), .b false, .row ((GRun.t q0) g0), .ret [(false, [tI (p_l_heldStateS g0.f3 (inc (inc (inc (inc v1)))))])], .b false] [fun _ => ((v0.map (GRun.t q0)).length : Int) = (v0.length : Int), fun _ => (decide (v5 < (v0.length : Int))) = true, fun _ => 0 ≤ v5 ∧ (v0.map (GRun.t q0))[v5.toNat]? = some ((GRun.t q0) g0), fun k => E.C k 81 [.one (tI v1)] = some [(false, [tS (p_l_markText v1)])], fun _ => (!(g0.f0.toList == (p_l_markText v1).toList)) = false, fun _ => 0 ≤ v5 ∧ (v0.map (GRun.t q0))[v5.toNat]? = some ((GRun.t q0) g0), fun _ => (g0.f1.f0 != (inc v1)) = false, fun _ => 0 ≤ v5 ∧ (v0.map (GRun.t q0))[v5.toNat]? = some ((GRun.t q0) g0), fun _ => (g0.f1.f1 != (inc (inc v1))) = false, fun _ => 0 ≤ v5 ∧ (v0.map (GRun.t q0))[v5.toNat]? = some ((GRun.t q0) g0), fun _ => (g0.f2 != (inc (inc (inc v1)))) = false, fun _ => 0 ≤ v5 ∧ (v0.map (GRun.t q0))[v5.toNat]? = some ((GRun.t q0) g0), fun k => E.C k 85 [.one (.s .far () 4 (g0.f3.map GState.t)), .one (tI (inc (inc (inc (inc v1)))))] = some [(false, [tI (p_l_heldStateS g0.f3 (inc (inc (inc (inc v1)))))])], fun _ => (decide ((p_l_heldStateS g0.f3 (inc (inc (inc (inc v1))))) < (0 : Int))) = false] (fun k => by kernel_rfl) ⟨Ev.c lenMap, Ev.c h0, Ev.c (getRow h1), T_l_markText v1 h2, Ev.c h3, Ev.c (getRow h1), Ev.c h4, Ev.c (getRow h1), Ev.c h5, Ev.c (getRow h1), Ev.c h6, Ev.c (getRow h1), T_l_heldStateS g0.f3 (inc (inc (inc (inc v1)))) h7, Ev.c h8, trivial⟩
theorem l_heldRunS_R0_6 {q0 : Kd} (v0 : List GRun) (v1 : Int) (v5 : Int) (h0 : (decide (v5 < (v0.length : Int))) = false) : Round E 62 (lpAt Try.f62 0) (stL 61 [(0, .one (.s .far () 5 (v0.map (GRun.t q0)))), (1, .one (tI v1)), (5, .one (tI v5))]) (.exit 0) (stL 61 [(1, .one (tI v1))]) :=
  Round.path [.val (.int .i64 (v0.length : Int)), .b false] [fun _ => ((v0.map (GRun.t q0)).length : Int) = (v0.length : Int), fun _ => (decide (v5 < (v0.length : Int))) = false] (fun k => by kernel_rfl) ⟨Ev.c lenMap, Ev.c h0, trivial⟩
noncomputable def l_heldRunS_l0  : List GRun → Nat → Int → Option l_heldRunS_X0
  | [], i, v1 => some (.x0 v1)
  | hd :: rest, i, v1 => if l_markText_F v1 = some (p_l_markText v1) then cond (!(hd.f0.toList == (p_l_markText v1).toList))
    (some (.ret (-1 : Int)))
    (cond (hd.f1.f0 != (inc v1))
      (some (.ret (-1 : Int)))
      (cond (hd.f1.f1 != (inc (inc v1)))
        (some (.ret (-1 : Int)))
        (cond (hd.f2 != (inc (inc (inc v1))))
          (some (.ret (-1 : Int)))
          (if l_heldStateS_F hd.f3 (inc (inc (inc (inc v1)))) = some (p_l_heldStateS hd.f3 (inc (inc (inc (inc v1))))) then cond (decide ((p_l_heldStateS hd.f3 (inc (inc (inc (inc v1))))) < (0 : Int)))
            (some (.ret (-1 : Int)))
            (l_heldRunS_l0 rest (i + 1) (p_l_heldStateS hd.f3 (inc (inc (inc (inc v1)))))) else none)))) else none
theorem l_heldRunS_L0 {q0 : Kd} (v0 : List GRun) (rest : List GRun) : ∀ (i : Nat) (v1 : Int), (v0).drop i = rest → v0.length ≤ 9223372036854775807 → Ans (l_heldRunS_l0 rest i v1) (l_heldRunS_Q0 (q0 := q0) v0 v1 (i : Int)) := by
  induction rest with
  | nil =>
    intro i v1 hE hl
    have hb := foldEnd hE
    unfold l_heldRunS_l0
    exact Ans.some (Loops.stop (l_heldRunS_R0_6 (q0 := q0) v0 v1 (i : Int) hb) (by intro h; cases h))
  | cons hd rest ih =>
    intro i v1 hE hl
    have hb := foldMore hE
    have hw := foldNext hE hl
    have hE2 := foldRest hE
    have hg := foldGet hE
    unfold l_heldRunS_l0
    refine Ans.pre (fun h2 => ?_)
    refine Ans.ite (fun h3 => ?_) (fun h3 => ?_)
    · exact Ans.some (Loops.stop (l_heldRunS_R0_0 (q0 := q0) v0 v1 (i : Int) hd hb hg h2 h3) (by intro h; cases h))
    · refine Ans.ite (fun h4 => ?_) (fun h4 => ?_)
      · exact Ans.some (Loops.stop (l_heldRunS_R0_1 (q0 := q0) v0 v1 (i : Int) hd hb hg h2 h3 h4) (by intro h; cases h))
      · refine Ans.ite (fun h5 => ?_) (fun h5 => ?_)
        · exact Ans.some (Loops.stop (l_heldRunS_R0_2 (q0 := q0) v0 v1 (i : Int) hd hb hg h2 h3 h4 h5) (by intro h; cases h))
        · refine Ans.ite (fun h6 => ?_) (fun h6 => ?_)
          · exact Ans.some (Loops.stop (l_heldRunS_R0_3 (q0 := q0) v0 v1 (i : Int) hd hb hg h2 h3 h4 h5 h6) (by intro h; cases h))
          · refine Ans.pre (fun h7 => ?_)
            refine Ans.ite (fun h8 => ?_) (fun h8 => ?_)
            · exact Ans.some (Loops.stop (l_heldRunS_R0_4 (q0 := q0) v0 v1 (i : Int) hd hb hg h2 h3 h4 h5 h6 h7 h8) (by intro h; cases h))
            · exact (ih (i + 1) (p_l_heldStateS hd.f3 (inc (inc (inc (inc v1))))) hE2 hl).mono fun y hy => by have r := l_heldRunS_R0_5 (q0 := q0) v0 v1 (i : Int) hd hb hg h2 h3 h4 h5 h6 h7 h8; rw [hw] at r; cases y <;> exact Loops.next r hy
theorem l_heldRunS_P0 {q0 : Kd} (x0 : List GRun) (x1 : Int) (w0_4 : Int) (h0 : Loops E 62 (lpAt Try.f62 0) (stL 61 [(0, .one (.s .far () 5 (x0.map (GRun.t q0)))), (1, .one (tI x1)), (5, .one (tI (0 : Int)))]) .ret (stL 61 [(4, .one (tI w0_4))])) : Does E 62 [.one (.s .far () 5 (x0.map (GRun.t q0))), .one (tI x1)] [(false, [tI w0_4])] :=
  Does.path (fn := Try.f62) [.lp .ret (stL 61 [(4, .one (tI w0_4))])] [fun k => LoopK E 62 (lpAt Try.f62 0) (stL 61 [(0, .one (.s .far () 5 (x0.map (GRun.t q0)))), (1, .one (tI x1)), (5, .one (tI (0 : Int)))]) .ret (stL 61 [(4, .one (tI w0_4))]) k k] rfl rfl (fun k => by kernel_rfl) ⟨Loops.ev h0, trivial⟩
theorem l_heldRunS_P1 {q0 : Kd} (x0 : List GRun) (x1 : Int) (w0_1 : Int) (h0 : Loops E 62 (lpAt Try.f62 0) (stL 61 [(0, .one (.s .far () 5 (x0.map (GRun.t q0)))), (1, .one (tI x1)), (5, .one (tI (0 : Int)))]) (.exit 0) (stL 61 [(1, .one (tI w0_1))])) : Does E 62 [.one (.s .far () 5 (x0.map (GRun.t q0))), .one (tI x1)] [(false, [tI w0_1])] :=
  Does.path (fn := Try.f62) [.lp (.exit 0) (stL 61 [(1, .one (tI w0_1))])] [fun k => LoopK E 62 (lpAt Try.f62 0) (stL 61 [(0, .one (.s .far () 5 (x0.map (GRun.t q0)))), (1, .one (tI x1)), (5, .one (tI (0 : Int)))]) (.exit 0) (stL 61 [(1, .one (tI w0_1))]) k k] rfl rfl (fun k => by kernel_rfl) ⟨Loops.ev h0, trivial⟩
noncomputable def l_heldRunS_F (x0 : List GRun) (x1 : Int) : Option (Int) :=
    if x0.length ≤ 9223372036854775807 then (l_heldRunS_l0 x0 0 x1).bind fun y => match y with
      | .ret w0_4 => (some (w0_4))
      | .x0 w0_1 => (some (w0_1)) else none
theorem l_heldRunS_D {q0 : Kd} (x0 : List GRun) (x1 : Int) : Ans (l_heldRunS_F x0 x1) (fun r => Does E 62 [.one (.s .far () 5 (x0.map (GRun.t q0))), .one (tI x1)] [(false, [tI r])]) := by
  unfold l_heldRunS_F
  refine Ans.pre (fun hl1 => ?_)
  refine Ans.bind (fun y hy => ?_)
  replace hy := l_heldRunS_L0 (q0 := q0) x0 x0 0 x1 rfl hl1 y hy
  cases y with
  | ret w0_4 =>
    have h0 := hy
    exact Ans.some (l_heldRunS_P0 (q0 := q0) x0 x1 w0_4 h0)
  | x0 w0_1 =>
    have h0 := hy
    exact Ans.some (l_heldRunS_P1 (q0 := q0) x0 x1 w0_1 h0)
noncomputable def p_l_markRunS (x : List GRun) (k : Int) : (List GRun) × Int := (l_markRunS_F x k).getD ([], 0)
noncomputable def p_l_heldRunS (x : List GRun) (k : Int) : Int := (l_heldRunS_F x k).getD (-1)
theorem T_l_markRunS (x0 : List GRun) (x1 : Int) (h : l_markRunS_F x0 x1 = some (p_l_markRunS x0 x1)) : Does E 59 [.one (.s .own () 5 (x0.map (GRun.t .own))), .one (tI x1)] [(false, [.s .own () 5 (((p_l_markRunS x0 x1).1).map (GRun.t .own))]), (false, [tI ((p_l_markRunS x0 x1).2)])] := by
  exact l_markRunS_D x0 x1 _ h
theorem T_l_heldRunS {q0 : Kd} (x0 : List GRun) (x1 : Int) (h : l_heldRunS_F x0 x1 = some (p_l_heldRunS x0 x1)) : Does E 62 [.one (.s .far () 5 (x0.map (GRun.t q0))), .one (tI x1)] [(false, [tI (p_l_heldRunS x0 x1)])] := by
  exact l_heldRunS_D x0 x1 _ h
theorem mk_l_markRunS : ∀ (rest done : List GRun) (i : Nat) (k : Int), (∀ y ∈ rest, Small.sm y) → 0 ≤ k → k + 4200004 * (rest.length : Int) ≤ 4611686018427387904 →
    ∃ new m, l_markRunS_l0 rest done i k = some (.x0 (done ++ new) m) ∧ k ≤ m ∧ m ≤ k + 4200004 * (rest.length : Int) ∧ new.length = rest.length ∧ (∀ y ∈ new, Small.sm y) ∧ ∀ j, l_heldRunS_l0 new j k = some (.x0 m)
  | [], done, i, k, _, h0, _ => ⟨[], k, by unfold l_markRunS_l0; rw [List.append_nil], by omega, by simp, rfl, fun y hy => (by cases hy), fun j => rfl⟩
  | x :: rest, done, i, k, h, h0, h1 => by
    have hx := h x (by simp)
    rw [List.length_cons] at h1 ⊢
    have t1 := ok_l_markText k (by omega)
    have w1 : inc k = k + 1 := inc_id _ (by omega) (by omega)
    have w2 : inc (k + 1) = (k + 1) + 1 := inc_id _ (by omega) (by omega)
    have w3 : inc ((k + 1) + 1) = ((k + 1) + 1) + 1 := inc_id _ (by omega) (by omega)
    have w4 : inc (((k + 1) + 1) + 1) = (((k + 1) + 1) + 1) + 1 := inc_id _ (by omega) (by omega)
    have a5 := ok_l_markStateS x.f3 ((((k + 1) + 1) + 1) + 1) hx.2.2 (by omega) (by omega)
    have d5 : decide ((p_l_markStateS x.f3 ((((k + 1) + 1) + 1) + 1)).2 < (0 : Int)) = false := decide_eq_false (by omega)
    obtain ⟨new, m, g1, g2, g3, g4, g5, g6⟩ := mk_l_markRunS rest (done ++ [(GRun.mk (p_l_markText k) (GSpan.mk (k + 1) ((k + 1) + 1)) (((k + 1) + 1) + 1) (p_l_markStateS x.f3 ((((k + 1) + 1) + 1) + 1)).1)]) (i + 1) ((p_l_markStateS x.f3 ((((k + 1) + 1) + 1) + 1)).2) (fun y hy => h y (by simp [hy])) (by omega) (by omega)
    refine ⟨(GRun.mk (p_l_markText k) (GSpan.mk (k + 1) ((k + 1) + 1)) (((k + 1) + 1) + 1) (p_l_markStateS x.f3 ((((k + 1) + 1) + 1) + 1)).1) :: new, m, ?_, by omega, by omega, by simp [g4], ?_, fun j => ?_⟩
    · unfold l_markRunS_l0
      simp only [t1.1, w1, w2, w3, w4, a5.1, a5.2.1, a5.2.2.1, d5, if_true, g1, List.append_assoc, List.singleton_append]
    · intro y hy
      rcases List.mem_cons.1 hy with rfl | hy
      · exact ⟨t1.2, trivial, a5.2.2.2.2.2⟩
      · exact g5 y hy
    · unfold l_heldRunS_l0
      simp only [t1.1, w1, w2, w3, w4, a5.1, a5.2.1, a5.2.2.1, d5, if_true, bne_self_eq_false, BEq.rfl, Bool.not_true, cond_false, cond_true, g6]
theorem ok_l_markRunS (l : List GRun) (k : Int) (h : Small.sm l) (h0 : 0 ≤ k) (h1 : k + 4410004200000 ≤ 4611686018427387904) : l_markRunS_F l k = some (p_l_markRunS l k) ∧ l_heldRunS_F (p_l_markRunS l k).1 k = some (p_l_heldRunS (p_l_markRunS l k).1 k) ∧ p_l_heldRunS (p_l_markRunS l k).1 k = (p_l_markRunS l k).2 ∧ k ≤ (p_l_markRunS l k).2 ∧ (p_l_markRunS l k).2 ≤ k + 4410004200000 ∧ Small.sm (p_l_markRunS l k).1 := by
  have hl := h.1
  obtain ⟨new, m, g1, g2, g3, g4, g5, g6⟩ := mk_l_markRunS l [] 0 k h.2 h0 (by omega)
  have e : l_markRunS_F l k = some (new, m) := by unfold l_markRunS_F; rw [if_pos (sm_wf_len h), g1]; rfl
  have p : p_l_markRunS l k = (new, m) := by unfold p_l_markRunS; rw [e]; rfl
  have e2 : l_heldRunS_F new k = some m := by unfold l_heldRunS_F; rw [if_pos (by omega), g6]; rfl
  have p2 : p_l_heldRunS new k = m := by unfold p_l_heldRunS; rw [e2]; rfl
  rw [p, p2]
  exact ⟨e, e2, rfl, g2, by omega, ⟨by show new.length ≤ 1050000; omega, g5⟩⟩
theorem l_markBoard_P0 (x0 : GBoard) (x1 : Int) (h0 : l_markSessionS_F x0.f0 x1 = some (p_l_markSessionS x0.f0 x1)) (h1 : l_markPlanS_F x0.f1 ((p_l_markSessionS x0.f0 x1).2) = some (p_l_markPlanS x0.f1 ((p_l_markSessionS x0.f0 x1).2))) (h2 : l_markRunS_F x0.f2 ((p_l_markPlanS x0.f1 ((p_l_markSessionS x0.f0 x1).2)).2) = some (p_l_markRunS x0.f2 ((p_l_markPlanS x0.f1 ((p_l_markSessionS x0.f0 x1).2)).2))) : Does E 29 [.agg (GBoard.t .own .own x0), .one (tI x1)] [(true, GBoard.t .own .own (GBoard.mk ((p_l_markSessionS x0.f0 x1).1) ((p_l_markPlanS x0.f1 ((p_l_markSessionS x0.f0 x1).2)).1) ((p_l_markRunS x0.f2 ((p_l_markPlanS x0.f1 ((p_l_markSessionS x0.f0 x1).2)).2)).1) x0.f3 x0.f4)), (false, [tI ((p_l_markRunS x0.f2 ((p_l_markPlanS x0.f1 ((p_l_markSessionS x0.f0 x1).2)).2)).2)])] :=
  Does.path (fn := Try.f29) [.ret [(false, [.s .own () 3 (((p_l_markSessionS x0.f0 x1).1).map GSession.t)]), (false, [tI ((p_l_markSessionS x0.f0 x1).2)])], .ret [(false, [.s .own () 9 (((p_l_markPlanS x0.f1 ((p_l_markSessionS x0.f0 x1).2)).1).map (GPlan.t .own .own))]), (false, [tI ((p_l_markPlanS x0.f1 ((p_l_markSessionS x0.f0 x1).2)).2)])], .ret [(false, [.s .own () 5 (((p_l_markRunS x0.f2 ((p_l_markPlanS x0.f1 ((p_l_markSessionS x0.f0 x1).2)).2)).1).map (GRun.t .own))]), (false, [tI ((p_l_markRunS x0.f2 ((p_l_markPlanS x0.f1 ((p_l_markSessionS x0.f0 x1).2)).2)).2)])]] [fun k => E.C k 57 [.one (.s .own () 3 (x0.f0.map GSession.t)), .one (tI x1)] = some [(false, [.s .own () 3 (((p_l_markSessionS x0.f0 x1).1).map GSession.t)]), (false, [tI ((p_l_markSessionS x0.f0 x1).2)])], fun k => E.C k 58 [.one (.s .own () 9 (x0.f1.map (GPlan.t .own .own))), .one (tI ((p_l_markSessionS x0.f0 x1).2))] = some [(false, [.s .own () 9 (((p_l_markPlanS x0.f1 ((p_l_markSessionS x0.f0 x1).2)).1).map (GPlan.t .own .own))]), (false, [tI ((p_l_markPlanS x0.f1 ((p_l_markSessionS x0.f0 x1).2)).2)])], fun k => E.C k 59 [.one (.s .own () 5 (x0.f2.map (GRun.t .own))), .one (tI ((p_l_markPlanS x0.f1 ((p_l_markSessionS x0.f0 x1).2)).2))] = some [(false, [.s .own () 5 (((p_l_markRunS x0.f2 ((p_l_markPlanS x0.f1 ((p_l_markSessionS x0.f0 x1).2)).2)).1).map (GRun.t .own))]), (false, [tI ((p_l_markRunS x0.f2 ((p_l_markPlanS x0.f1 ((p_l_markSessionS x0.f0 x1).2)).2)).2)])]] rfl rfl (fun k => by kernel_rfl) ⟨T_l_markSessionS x0.f0 x1 h0, T_l_markPlanS x0.f1 ((p_l_markSessionS x0.f0 x1).2) h1, T_l_markRunS x0.f2 ((p_l_markPlanS x0.f1 ((p_l_markSessionS x0.f0 x1).2)).2) h2, trivial⟩
noncomputable def l_markBoard_F (x0 : GBoard) (x1 : Int) : Option (GBoard × Int) :=
    if l_markSessionS_F x0.f0 x1 = some (p_l_markSessionS x0.f0 x1) then if l_markPlanS_F x0.f1 ((p_l_markSessionS x0.f0 x1).2) = some (p_l_markPlanS x0.f1 ((p_l_markSessionS x0.f0 x1).2)) then if l_markRunS_F x0.f2 ((p_l_markPlanS x0.f1 ((p_l_markSessionS x0.f0 x1).2)).2) = some (p_l_markRunS x0.f2 ((p_l_markPlanS x0.f1 ((p_l_markSessionS x0.f0 x1).2)).2)) then some ((GBoard.mk ((p_l_markSessionS x0.f0 x1).1) ((p_l_markPlanS x0.f1 ((p_l_markSessionS x0.f0 x1).2)).1) ((p_l_markRunS x0.f2 ((p_l_markPlanS x0.f1 ((p_l_markSessionS x0.f0 x1).2)).2)).1) x0.f3 x0.f4), (p_l_markRunS x0.f2 ((p_l_markPlanS x0.f1 ((p_l_markSessionS x0.f0 x1).2)).2)).2) else none else none else none
theorem l_markBoard_D (x0 : GBoard) (x1 : Int) : Ans (l_markBoard_F x0 x1) (fun r => Does E 29 [.agg (GBoard.t .own .own x0), .one (tI x1)] [(true, GBoard.t .own .own r.1), (false, [tI r.2])]) := by
  unfold l_markBoard_F
  refine Ans.pre (fun h0 => ?_)
  refine Ans.pre (fun h1 => ?_)
  refine Ans.pre (fun h2 => ?_)
  exact Ans.some (l_markBoard_P0 x0 x1 h0 h1 h2)
theorem l_heldBoard_P0 {q0 : Kd} (x0 : GBoard) (x1 : Int) (h0 : l_heldSessionS_F x0.f0 x1 = some (p_l_heldSessionS x0.f0 x1)) (h1 : (decide ((p_l_heldSessionS x0.f0 x1) < (0 : Int))) = true) : Does E 30 [.agg (GBoard.t .far q0 x0), .one (tI x1)] [(false, [tI (-1 : Int)])] :=
  Does.path (fn := Try.f30) [.ret [(false, [tI (p_l_heldSessionS x0.f0 x1)])], .b true] [fun k => E.C k 60 [.one (.s .far () 3 (x0.f0.map GSession.t)), .one (tI x1)] = some [(false, [tI (p_l_heldSessionS x0.f0 x1)])], fun _ => (decide ((p_l_heldSessionS x0.f0 x1) < (0 : Int))) = true] rfl rfl (fun k => by kernel_rfl) ⟨T_l_heldSessionS x0.f0 x1 h0, Ev.c h1, trivial⟩
theorem l_heldBoard_P1 {q0 : Kd} (x0 : GBoard) (x1 : Int) (h0 : l_heldSessionS_F x0.f0 x1 = some (p_l_heldSessionS x0.f0 x1)) (h1 : (decide ((p_l_heldSessionS x0.f0 x1) < (0 : Int))) = false) (h2 : l_heldPlanS_F x0.f1 (p_l_heldSessionS x0.f0 x1) = some (p_l_heldPlanS x0.f1 (p_l_heldSessionS x0.f0 x1))) (h3 : (decide ((p_l_heldPlanS x0.f1 (p_l_heldSessionS x0.f0 x1)) < (0 : Int))) = true) : Does E 30 [.agg (GBoard.t .far q0 x0), .one (tI x1)] [(false, [tI (-1 : Int)])] :=
  Does.path (fn := Try.f30) [.ret [(false, [tI (p_l_heldSessionS x0.f0 x1)])], .b false, .ret [(false, [tI (p_l_heldPlanS x0.f1 (p_l_heldSessionS x0.f0 x1))])], .b true] [fun k => E.C k 60 [.one (.s .far () 3 (x0.f0.map GSession.t)), .one (tI x1)] = some [(false, [tI (p_l_heldSessionS x0.f0 x1)])], fun _ => (decide ((p_l_heldSessionS x0.f0 x1) < (0 : Int))) = false, fun k => E.C k 61 [.one (.s .far () 9 (x0.f1.map (GPlan.t q0 q0))), .one (tI (p_l_heldSessionS x0.f0 x1))] = some [(false, [tI (p_l_heldPlanS x0.f1 (p_l_heldSessionS x0.f0 x1))])], fun _ => (decide ((p_l_heldPlanS x0.f1 (p_l_heldSessionS x0.f0 x1)) < (0 : Int))) = true] rfl rfl (fun k => by kernel_rfl) ⟨T_l_heldSessionS x0.f0 x1 h0, Ev.c h1, T_l_heldPlanS x0.f1 (p_l_heldSessionS x0.f0 x1) h2, Ev.c h3, trivial⟩
theorem l_heldBoard_P2 {q0 : Kd} (x0 : GBoard) (x1 : Int) (h0 : l_heldSessionS_F x0.f0 x1 = some (p_l_heldSessionS x0.f0 x1)) (h1 : (decide ((p_l_heldSessionS x0.f0 x1) < (0 : Int))) = false) (h2 : l_heldPlanS_F x0.f1 (p_l_heldSessionS x0.f0 x1) = some (p_l_heldPlanS x0.f1 (p_l_heldSessionS x0.f0 x1))) (h3 : (decide ((p_l_heldPlanS x0.f1 (p_l_heldSessionS x0.f0 x1)) < (0 : Int))) = false) (h4 : l_heldRunS_F x0.f2 (p_l_heldPlanS x0.f1 (p_l_heldSessionS x0.f0 x1)) = some (p_l_heldRunS x0.f2 (p_l_heldPlanS x0.f1 (p_l_heldSessionS x0.f0 x1)))) (h5 : (decide ((p_l_heldRunS x0.f2 (p_l_heldPlanS x0.f1 (p_l_heldSessionS x0.f0 x1))) < (0 : Int))) = true) : Does E 30 [.agg (GBoard.t .far q0 x0), .one (tI x1)] [(false, [tI (-1 : Int)])] :=
  Does.path (fn := Try.f30) [.ret [(false, [tI (p_l_heldSessionS x0.f0 x1)])], .b false, .ret [(false, [tI (p_l_heldPlanS x0.f1 (p_l_heldSessionS x0.f0 x1))])], .b false, .ret [(false, [tI (p_l_heldRunS x0.f2 (p_l_heldPlanS x0.f1 (p_l_heldSessionS x0.f0 x1)))])], .b true] [fun k => E.C k 60 [.one (.s .far () 3 (x0.f0.map GSession.t)), .one (tI x1)] = some [(false, [tI (p_l_heldSessionS x0.f0 x1)])], fun _ => (decide ((p_l_heldSessionS x0.f0 x1) < (0 : Int))) = false, fun k => E.C k 61 [.one (.s .far () 9 (x0.f1.map (GPlan.t q0 q0))), .one (tI (p_l_heldSessionS x0.f0 x1))] = some [(false, [tI (p_l_heldPlanS x0.f1 (p_l_heldSessionS x0.f0 x1))])], fun _ => (decide ((p_l_heldPlanS x0.f1 (p_l_heldSessionS x0.f0 x1)) < (0 : Int))) = false, fun k => E.C k 62 [.one (.s .far () 5 (x0.f2.map (GRun.t q0))), .one (tI (p_l_heldPlanS x0.f1 (p_l_heldSessionS x0.f0 x1)))] = some [(false, [tI (p_l_heldRunS x0.f2 (p_l_heldPlanS x0.f1 (p_l_heldSessionS x0.f0 x1)))])], fun _ => (decide ((p_l_heldRunS x0.f2 (p_l_heldPlanS x0.f1 (p_l_heldSessionS x0.f0 x1))) < (0 : Int))) = true] rfl rfl (fun k => by kernel_rfl) ⟨T_l_heldSessionS x0.f0 x1 h0, Ev.c h1, T_l_heldPlanS x0.f1 (p_l_heldSessionS x0.f0 x1) h2, Ev.c h3, T_l_heldRunS x0.f2 (p_l_heldPlanS x0.f1 (p_l_heldSessionS x0.f0 x1)) h4, Ev.c h5, trivial⟩
theorem l_heldBoard_P3 {q0 : Kd} (x0 : GBoard) (x1 : Int) (h0 : l_heldSessionS_F x0.f0 x1 = some (p_l_heldSessionS x0.f0 x1)) (h1 : (decide ((p_l_heldSessionS x0.f0 x1) < (0 : Int))) = false) (h2 : l_heldPlanS_F x0.f1 (p_l_heldSessionS x0.f0 x1) = some (p_l_heldPlanS x0.f1 (p_l_heldSessionS x0.f0 x1))) (h3 : (decide ((p_l_heldPlanS x0.f1 (p_l_heldSessionS x0.f0 x1)) < (0 : Int))) = false) (h4 : l_heldRunS_F x0.f2 (p_l_heldPlanS x0.f1 (p_l_heldSessionS x0.f0 x1)) = some (p_l_heldRunS x0.f2 (p_l_heldPlanS x0.f1 (p_l_heldSessionS x0.f0 x1)))) (h5 : (decide ((p_l_heldRunS x0.f2 (p_l_heldPlanS x0.f1 (p_l_heldSessionS x0.f0 x1))) < (0 : Int))) = false) : Does E 30 [.agg (GBoard.t .far q0 x0), .one (tI x1)] [(false, [tI (p_l_heldRunS x0.f2 (p_l_heldPlanS x0.f1 (p_l_heldSessionS x0.f0 x1)))])] :=
  Does.path (fn := Try.f30) [.ret [(false, [tI (p_l_heldSessionS x0.f0 x1)])], .b false, .ret [(false, [tI (p_l_heldPlanS x0.f1 (p_l_heldSessionS x0.f0 x1))])], .b false, .ret [(false, [tI (p_l_heldRunS x0.f2 (p_l_heldPlanS x0.f1 (p_l_heldSessionS x0.f0 x1)))])], .b false] [fun k => E.C k 60 [.one (.s .far () 3 (x0.f0.map GSession.t)), .one (tI x1)] = some [(false, [tI (p_l_heldSessionS x0.f0 x1)])], fun _ => (decide ((p_l_heldSessionS x0.f0 x1) < (0 : Int))) = false, fun k => E.C k 61 [.one (.s .far () 9 (x0.f1.map (GPlan.t q0 q0))), .one (tI (p_l_heldSessionS x0.f0 x1))] = some [(false, [tI (p_l_heldPlanS x0.f1 (p_l_heldSessionS x0.f0 x1))])], fun _ => (decide ((p_l_heldPlanS x0.f1 (p_l_heldSessionS x0.f0 x1)) < (0 : Int))) = false, fun k => E.C k 62 [.one (.s .far () 5 (x0.f2.map (GRun.t q0))), .one (tI (p_l_heldPlanS x0.f1 (p_l_heldSessionS x0.f0 x1)))] = some [(false, [tI (p_l_heldRunS x0.f2 (p_l_heldPlanS x0.f1 (p_l_heldSessionS x0.f0 x1)))])], fun _ => (decide ((p_l_heldRunS x0.f2 (p_l_heldPlanS x0.f1 (p_l_heldSessionS x0.f0 x1))) < (0 : Int))) = false] rfl rfl (fun k => by kernel_rfl) ⟨T_l_heldSessionS x0.f0 x1 h0, Ev.c h1, T_l_heldPlanS x0.f1 (p_l_heldSessionS x0.f0 x1) h2, Ev.c h3, T_l_heldRunS x0.f2 (p_l_heldPlanS x0.f1 (p_l_heldSessionS x0.f0 x1)) h4, Ev.c h5, trivial⟩
noncomputable def l_heldBoard_F (x0 : GBoard) (x1 : Int) : Option (Int) :=
    if l_heldSessionS_F x0.f0 x1 = some (p_l_heldSessionS x0.f0 x1) then cond (decide ((p_l_heldSessionS x0.f0 x1) < (0 : Int)))
      (some ((-1 : Int)))
      (if l_heldPlanS_F x0.f1 (p_l_heldSessionS x0.f0 x1) = some (p_l_heldPlanS x0.f1 (p_l_heldSessionS x0.f0 x1)) then cond (decide ((p_l_heldPlanS x0.f1 (p_l_heldSessionS x0.f0 x1)) < (0 : Int)))
        (some ((-1 : Int)))
        (if l_heldRunS_F x0.f2 (p_l_heldPlanS x0.f1 (p_l_heldSessionS x0.f0 x1)) = some (p_l_heldRunS x0.f2 (p_l_heldPlanS x0.f1 (p_l_heldSessionS x0.f0 x1))) then cond (decide ((p_l_heldRunS x0.f2 (p_l_heldPlanS x0.f1 (p_l_heldSessionS x0.f0 x1))) < (0 : Int)))
          (some ((-1 : Int)))
          (some (p_l_heldRunS x0.f2 (p_l_heldPlanS x0.f1 (p_l_heldSessionS x0.f0 x1)))) else none) else none) else none
theorem l_heldBoard_D {q0 : Kd} (x0 : GBoard) (x1 : Int) : Ans (l_heldBoard_F x0 x1) (fun r => Does E 30 [.agg (GBoard.t .far q0 x0), .one (tI x1)] [(false, [tI r])]) := by
  unfold l_heldBoard_F
  refine Ans.pre (fun h0 => ?_)
  refine Ans.ite (fun h1 => ?_) (fun h1 => ?_)
  · exact Ans.some (l_heldBoard_P0 (q0 := q0) x0 x1 h0 h1)
  · refine Ans.pre (fun h2 => ?_)
    refine Ans.ite (fun h3 => ?_) (fun h3 => ?_)
    · exact Ans.some (l_heldBoard_P1 (q0 := q0) x0 x1 h0 h1 h2 h3)
    · refine Ans.pre (fun h4 => ?_)
      refine Ans.ite (fun h5 => ?_) (fun h5 => ?_)
      · exact Ans.some (l_heldBoard_P2 (q0 := q0) x0 x1 h0 h1 h2 h3 h4 h5)
      · exact Ans.some (l_heldBoard_P3 (q0 := q0) x0 x1 h0 h1 h2 h3 h4 h5)
noncomputable def p_l_markBoard (x : GBoard) (k : Int) : GBoard × Int := (l_markBoard_F x k).getD (x, 0)
noncomputable def p_l_heldBoard (x : GBoard) (k : Int) : Int := (l_heldBoard_F x k).getD (-1)
theorem T_l_markBoard (x0 : GBoard) (x1 : Int) (h : l_markBoard_F x0 x1 = some (p_l_markBoard x0 x1)) : Does E 29 [.agg (GBoard.t .own .own x0), .one (tI x1)] [(true, GBoard.t .own .own ((p_l_markBoard x0 x1).1)), (false, [tI ((p_l_markBoard x0 x1).2)])] := by
  exact l_markBoard_D x0 x1 _ h
theorem T_l_heldBoard {q0 : Kd} (x0 : GBoard) (x1 : Int) (h : l_heldBoard_F x0 x1 = some (p_l_heldBoard x0 x1)) : Does E 30 [.agg (GBoard.t .far q0 x0), .one (tI x1)] [(false, [tI (p_l_heldBoard x0 x1)])] := by
  exact l_heldBoard_D x0 x1 _ h
theorem ok_l_markBoard (x : GBoard) (k : Int) (h : Small.sm x) (h0 : 0 ≤ k) (h1 : k + 1157633820015750000 ≤ 4611686018427387904) : l_markBoard_F x k = some (p_l_markBoard x k) ∧ l_heldBoard_F (p_l_markBoard x k).1 k = some (p_l_heldBoard (p_l_markBoard x k).1 k) ∧ p_l_heldBoard (p_l_markBoard x k).1 k = (p_l_markBoard x k).2 ∧ k ≤ (p_l_markBoard x k).2 ∧ (p_l_markBoard x k).2 ≤ k + 1157633820015750000 ∧ Small.sm (p_l_markBoard x k).1 ∧ (GBoard.mk (((p_l_markBoard x k).1).f0) (((p_l_markBoard x k).1).f1) (((p_l_markBoard x k).1).f2) x.f3 x.f4) = (p_l_markBoard x k).1 := by
  obtain ⟨hx0, hx1, hx2⟩ := h
  have a1 := ok_l_markSessionS x.f0 k hx0 (by omega) (by omega)
  have d1 : decide ((p_l_markSessionS x.f0 k).2 < (0 : Int)) = false := decide_eq_false (by omega)
  have a2 := ok_l_markPlanS x.f1 ((p_l_markSessionS x.f0 k).2) hx1 (by omega) (by omega)
  have d2 : decide ((p_l_markPlanS x.f1 ((p_l_markSessionS x.f0 k).2)).2 < (0 : Int)) = false := decide_eq_false (by omega)
  have a3 := ok_l_markRunS x.f2 ((p_l_markPlanS x.f1 ((p_l_markSessionS x.f0 k).2)).2) hx2 (by omega) (by omega)
  have d3 : decide ((p_l_markRunS x.f2 ((p_l_markPlanS x.f1 ((p_l_markSessionS x.f0 k).2)).2)).2 < (0 : Int)) = false := decide_eq_false (by omega)
  have e : l_markBoard_F x k = some ((GBoard.mk (p_l_markSessionS x.f0 k).1 (p_l_markPlanS x.f1 ((p_l_markSessionS x.f0 k).2)).1 (p_l_markRunS x.f2 ((p_l_markPlanS x.f1 ((p_l_markSessionS x.f0 k).2)).2)).1 x.f3 x.f4), ((p_l_markRunS x.f2 ((p_l_markPlanS x.f1 ((p_l_markSessionS x.f0 k).2)).2)).2)) := by unfold l_markBoard_F; simp only [a1.1, a1.2.1, a1.2.2.1, d1, a2.1, a2.2.1, a2.2.2.1, d2, a3.1, a3.2.1, a3.2.2.1, d3, if_true]
  have p : p_l_markBoard x k = ((GBoard.mk (p_l_markSessionS x.f0 k).1 (p_l_markPlanS x.f1 ((p_l_markSessionS x.f0 k).2)).1 (p_l_markRunS x.f2 ((p_l_markPlanS x.f1 ((p_l_markSessionS x.f0 k).2)).2)).1 x.f3 x.f4), ((p_l_markRunS x.f2 ((p_l_markPlanS x.f1 ((p_l_markSessionS x.f0 k).2)).2)).2)) := by unfold p_l_markBoard; rw [e]; rfl
  have e2 : l_heldBoard_F (GBoard.mk (p_l_markSessionS x.f0 k).1 (p_l_markPlanS x.f1 ((p_l_markSessionS x.f0 k).2)).1 (p_l_markRunS x.f2 ((p_l_markPlanS x.f1 ((p_l_markSessionS x.f0 k).2)).2)).1 x.f3 x.f4) k = some ((p_l_markRunS x.f2 ((p_l_markPlanS x.f1 ((p_l_markSessionS x.f0 k).2)).2)).2) := by unfold l_heldBoard_F; simp only [a1.1, a1.2.1, a1.2.2.1, d1, a2.1, a2.2.1, a2.2.2.1, d2, a3.1, a3.2.1, a3.2.2.1, d3, if_true, cond_false]
  have p2 : p_l_heldBoard (GBoard.mk (p_l_markSessionS x.f0 k).1 (p_l_markPlanS x.f1 ((p_l_markSessionS x.f0 k).2)).1 (p_l_markRunS x.f2 ((p_l_markPlanS x.f1 ((p_l_markSessionS x.f0 k).2)).2)).1 x.f3 x.f4) k = ((p_l_markRunS x.f2 ((p_l_markPlanS x.f1 ((p_l_markSessionS x.f0 k).2)).2)).2) := by unfold p_l_heldBoard; rw [e2]; rfl
  rw [p, p2]
  exact ⟨e, e2, rfl, by omega, by omega, ⟨a1.2.2.2.2.2, a2.2.2.2.2.2, a3.2.2.2.2.2⟩, by first | rfl | simp only [a1.1, a1.2.1, a1.2.2.1, d1, a2.1, a2.2.1, a2.2.2.1, d2, a3.1, a3.2.1, a3.2.2.1, d3, if_true]⟩
end Go.Proofs.Ytohlonlaadmikaa.Am
