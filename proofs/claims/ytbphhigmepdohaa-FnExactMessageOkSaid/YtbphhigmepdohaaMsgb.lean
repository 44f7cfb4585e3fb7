/- What the small functions under MessageOk do. Conditions: none. -/
import Derived.Test.YtbphhigmepdohaaMsga
namespace Go.Proofs.Ytbphhigmepdohaa.Am
set_option linter.unusedVariables false
set_option linter.unusedSimpArgs false
open Go Go.Proofs Classical
set_option maxRecDepth 100000
set_option linter.unusedVariables false
def inRange (x a b : Int) : Bool := decide (x ≥ a) && decide (x ≤ b)
-- function 71: loop.example/g00188/spec.l01In
theorem L71_0 (x0 : Int) (x1 : Int) (x2 : Int) (h0 : (decide (x0 ≥ x1)) = true) : Does E 71 [.one (tI x0), .one (tI x1), .one (tI x2)] [(false, [tB (decide (x0 ≤ x2))])] :=
  Does.path (fn := Try.f71) [.b true] [fun _ => (decide (x0 ≥ x1)) = true] rfl rfl (fun k => by kernel_rfl) ⟨Ev.c h0, trivial⟩
theorem L71_1 (x0 : Int) (x1 : Int) (x2 : Int) (h0 : (decide (x0 ≥ x1)) = false) : Does E 71 [.one (tI x0), .one (tI x1), .one (tI x2)] [(false, [tB false])] :=
  Does.path (fn := Try.f71) [.b false] [fun _ => (decide (x0 ≥ x1)) = false] rfl rfl (fun k => by kernel_rfl) ⟨Ev.c h0, trivial⟩
noncomputable def sem71 (x0 : Int) (x1 : Int) (x2 : Int) : Option (Bool) :=
    cond (decide (x0 ≥ x1))
      (some (decide (x0 ≤ x2)))
      (some (false))
theorem D71 (x0 : Int) (x1 : Int) (x2 : Int) : Ans (sem71 x0 x1 x2) (fun r => Does E 71 [.one (tI x0), .one (tI x1), .one (tI x2)] [(false, [tB r])]) := by
  unfold sem71
  refine Ans.ite (fun h0 => ?_) (fun h0 => ?_)
  · exact Ans.some (L71_0 x0 x1 x2 h0)
  · exact Ans.some (L71_1 x0 x1 x2 h0)
-- function 72: loop.example/g00188/impl.inRange
theorem L72_0 (x0 : Int) (x1 : Int) (x2 : Int) (h0 : (decide (x0 ≥ x1)) = true) : Does E 72 [.one (tI x0), .one (tI x1), .one (tI x2)] [(false, [tB (decide (x0 ≤ x2))])] :=
  Does.path (fn := Try.f72) [.b true] [fun _ => (decide (x0 ≥ x1)) = true] rfl rfl (fun k => by kernel_rfl) ⟨Ev.c h0, trivial⟩
theorem L72_1 (x0 : Int) (x1 : Int) (x2 : Int) (h0 : (decide (x0 ≥ x1)) = false) : Does E 72 [.one (tI x0), .one (tI x1), .one (tI x2)] [(false, [tB false])] :=
  Does.path (fn := Try.f72) [.b false] [fun _ => (decide (x0 ≥ x1)) = false] rfl rfl (fun k => by kernel_rfl) ⟨Ev.c h0, trivial⟩
noncomputable def sem72 (x0 : Int) (x1 : Int) (x2 : Int) : Option (Bool) :=
    cond (decide (x0 ≥ x1))
      (some (decide (x0 ≤ x2)))
      (some (false))
theorem D72 (x0 : Int) (x1 : Int) (x2 : Int) : Ans (sem72 x0 x1 x2) (fun r => Does E 72 [.one (tI x0), .one (tI x1), .one (tI x2)] [(false, [tB r])]) := by
  unfold sem72
  refine Ans.ite (fun h0 => ?_) (fun h0 => ?_)
  · exact Ans.some (L72_0 x0 x1 x2 h0)
  · exact Ans.some (L72_1 x0 x1 x2 h0)
theorem T71 (x a b : Int) : Does E 71 [.one (tI x), .one (tI a), .one (tI b)] [(false, [tB (inRange x a b)])] := D71 x a b _ (by unfold sem71 inRange; cases decide (x ≥ a) <;> rfl)
theorem T72 (x a b : Int) : Does E 72 [.one (tI x), .one (tI a), .one (tI b)] [(false, [tB (inRange x a b)])] := D72 x a b _ (by unfold sem72 inRange; cases decide (x ≥ a) <;> rfl)
def isIndex (x : Int) : Bool := inRange x 0 1000000
def isNode (x : Int) : Bool := inRange x 1 4
def isTerm (x : Int) : Bool := inRange x 0 100000
-- function 74: loop.example/g00188/impl.isIndex
theorem L74_0 (x0 : Int)  : Does E 74 [.one (tI x0)] [(false, [tB (inRange x0 (0 : Int) (1000000 : Int))])] :=
  Does.path (fn := Try.f74) [.ret [(false, [tB (inRange x0 (0 : Int) (1000000 : Int))])]] [fun k => E.C k 72 [.one (tI x0), .one (tI (0 : Int)), .one (tI (1000000 : Int))] = some [(false, [tB (inRange x0 (0 : Int) (1000000 : Int))])]] rfl rfl (fun k => by kernel_rfl) ⟨T72 x0 (0 : Int) (1000000 : Int), trivial⟩
noncomputable def sem74 (x0 : Int) : Option (Bool) :=
    some (inRange x0 (0 : Int) (1000000 : Int))
theorem D74 (x0 : Int) : Ans (sem74 x0) (fun r => Does E 74 [.one (tI x0)] [(false, [tB r])]) := by
  unfold sem74
  exact Ans.some (L74_0 x0)
-- function 117: loop.example/g00188/impl.isNode
theorem L117_0 (x0 : Int)  : Does E 117 [.one (tI x0)] [(false, [tB (inRange x0 (1 : Int) (4 : Int))])] :=
  Does.path (fn := Try.f117) [.ret [(false, [tB (inRange x0 (1 : Int) (4 : Int))])]] [fun k => E.C k 72 [.one (tI x0), .one (tI (1 : Int)), .one (tI (4 : Int))] = some [(false, [tB (inRange x0 (1 : Int) (4 : Int))])]] rfl rfl (fun k => by kernel_rfl) ⟨T72 x0 (1 : Int) (4 : Int), trivial⟩
noncomputable def sem117 (x0 : Int) : Option (Bool) :=
    some (inRange x0 (1 : Int) (4 : Int))
theorem D117 (x0 : Int) : Ans (sem117 x0) (fun r => Does E 117 [.one (tI x0)] [(false, [tB r])]) := by
  unfold sem117
  exact Ans.some (L117_0 x0)
-- function 118: loop.example/g00188/impl.isTerm
theorem L118_0 (x0 : Int)  : Does E 118 [.one (tI x0)] [(false, [tB (inRange x0 (0 : Int) (100000 : Int))])] :=
  Does.path (fn := Try.f118) [.ret [(false, [tB (inRange x0 (0 : Int) (100000 : Int))])]] [fun k => E.C k 72 [.one (tI x0), .one (tI (0 : Int)), .one (tI (100000 : Int))] = some [(false, [tB (inRange x0 (0 : Int) (100000 : Int))])]] rfl rfl (fun k => by kernel_rfl) ⟨T72 x0 (0 : Int) (100000 : Int), trivial⟩
noncomputable def sem118 (x0 : Int) : Option (Bool) :=
    some (inRange x0 (0 : Int) (100000 : Int))
theorem D118 (x0 : Int) : Ans (sem118 x0) (fun r => Does E 118 [.one (tI x0)] [(false, [tB r])]) := by
  unfold sem118
  exact Ans.some (L118_0 x0)
theorem T74 (x : Int) : Does E 74 [.one (tI x)] [(false, [tB (isIndex x)])] := D74 x _ rfl
theorem T117 (x : Int) : Does E 117 [.one (tI x)] [(false, [tB (isNode x)])] := D117 x _ rfl
theorem T118 (x : Int) : Does E 118 [.one (tI x)] [(false, [tB (isTerm x)])] := D118 x _ rfl
-- function 149: loop.example/g00188/spec.l05Rise
inductive X149_0 where
  | ret (v6 : Bool)
  | x0 
noncomputable def loop149_0 : Nat → (List Int) → Int → Int → Int → Option X149_0
  | 0, _, _, _, _ => none
  | n + 1, v0, v1, v2, v7 => cond (decide (v7 < (v0.length : Int)))
    ((getI v0 v7).bind fun g0 => cond (inRange g0 v1 v2)
      (cond (decide (v7 > (0 : Int)))
        ((getI v0 (IntKind.wrap .i64 (v7 - (1 : Int)))).bind fun g1 => cond (decide (g1 ≥ g0))
          (some (.ret false))
          (loop149_0 n v0 v1 v2 (IntKind.wrap .i64 (v7 + (1 : Int)))))
        (loop149_0 n v0 v1 v2 (IntKind.wrap .i64 (v7 + (1 : Int)))))
      (some (.ret false)))
    (some (.x0))
def Q149_0 (v0 : List Int) (v1 : Int) (v2 : Int) (v7 : Int) : X149_0 → Prop
  | .ret zv6 => Loops E 149 (lpAt Try.f149 0) (stL 38 [(0, .one (.s .far () 1 (v0.map etI))), (1, .one (tI v1)), (2, .one (tI v2)), (7, .one (tI v7))]) .ret (stL 38 [(6, .one (tB zv6))])
  | .x0 => Loops E 149 (lpAt Try.f149 0) (stL 38 [(0, .one (.s .far () 1 (v0.map etI))), (1, .one (tI v1)), (2, .one (tI v2)), (7, .one (tI v7))]) (.exit 0) (stL 38 [])
theorem R149_0_0 (v0 : List Int) (v1 : Int) (v2 : Int) (v7 : Int) (g0 : Int) (g1 : Int) (h0 : (decide (v7 < (v0.length : Int))) = true) (h1 : getI v0 v7 = some g0) (h2 : (inRange g0 v1 v2) = true) (h3 : (decide (v7 > (0 : Int))) = true) (h4 : getI v0 (IntKind.wrap .i64 (v7 - (1 : Int))) = some g1) (h5 : (decide (g1 ≥ g0)) = true) : Round E 149 (lpAt Try.f149 0) (stL 38 [(0, .one (.s .far () 1 (v0.map etI))), (1, .one (tI v1)), (2, .one (tI v2)), (7, .one (tI v7))]) .ret (stL 38 [(6, .one (tB false))]) :=
  Round.path [.val (.int .i64 (v0.length : Int)), .b true, .row (etI g0), .ret [(false, [tB true])], .b true, .row (etI g1), .row (etI g0), .b true] [fun _ => ((v0.map etI).length : Int) = (v0.length : Int), fun _ => (decide (v7 < (v0.length : Int))) = true, fun _ => 0 ≤ v7 ∧ (v0.map etI)[v7.toNat]? = some (etI g0), fun k => E.C k 71 [.one (tI g0), .one (tI v1), .one (tI v2)] = some [(false, [tB true])], fun _ => (decide (v7 > (0 : Int))) = true, fun _ => 0 ≤ (IntKind.wrap .i64 (v7 - (1 : Int))) ∧ (v0.map etI)[(IntKind.wrap .i64 (v7 - (1 : Int))).toNat]? = some (etI g1), fun _ => 0 ≤ v7 ∧ (v0.map etI)[v7.toNat]? = some (etI g0), fun _ => (decide (g1 ≥ g0)) = true] (fun k => by kernel_rfl) ⟨Ev.c lenMap, Ev.c h0, Ev.c (getRow h1), Does.to (T71 g0 v1 v2) (by rw [h2]), Ev.c h3, Ev.c (getRow h4), Ev.c (getRow h1), Ev.c h5, trivial⟩
theorem R149_0_1 (v0 : List Int) (v1 : Int) (v2 : Int) (v7 : Int) (g0 : Int) (g1 : Int) (h0 : (decide (v7 < (v0.length : Int))) = true) (h1 : getI v0 v7 = some g0) (h2 : (inRange g0 v1 v2) = true) (h3 : (decide (v7 > (0 : Int))) = true) (h4 : getI v0 (IntKind.wrap .i64 (v7 - (1 : Int))) = some g1) (h5 : (decide (g1 ≥ g0)) = false) : Round E 149 (lpAt Try.f149 0) (stL 38 [(0, .one (.s .far () 1 (v0.map etI))), (1, .one (tI v1)), (2, .one (tI v2)), (7, .one (tI v7))]) .normal (stL 38 [(0, .one (.s .far () 1 (v0.map etI))), (1, .one (tI v1)), (2, .one (tI v2)), (7, .one (tI (IntKind.wrap .i64 (v7 + (1 : Int)))))]) :=
  Round.path [.val (.int .i64 (v0.length : Int)), .b true, .row (etI g0), .ret [(false, [tB true])], .b true, .row (etI g1), .row (etI g0), .b false] [fun _ => ((v0.map etI).length : Int) = (v0.length : Int), fun _ => (decide (v7 < (v0.length : Int))) = true, fun _ => 0 ≤ v7 ∧ (v0.map etI)[v7.toNat]? = some (etI g0), fun k => E.C k 71 [.one (tI g0), .one (tI v1), .one (tI v2)] = some [(false, [tB true])], fun _ => (decide (v7 > (0 : Int))) = true, fun _ => 0 ≤ (IntKind.wrap .i64 (v7 - (1 : Int))) ∧ (v0.map etI)[(IntKind.wrap .i64 (v7 - (1 : Int))).toNat]? = some (etI g1), fun _ => 0 ≤ v7 ∧ (v0.map etI)[v7.toNat]? = some (etI g0), fun _ => (decide (g1 ≥ g0)) = false] (fun k => by kernel_rfl) ⟨Ev.c lenMap, Ev.c h0, Ev.c (getRow h1), Does.to (T71 g0 v1 v2) (by rw [h2]), Ev.c h3, Ev.c (getRow h4), Ev.c (getRow h1), Ev.c h5, trivial⟩
theorem R149_0_2 (v0 : List Int) (v1 : Int) (v2 : Int) (v7 : Int) (g0 : Int) (h0 : (decide (v7 < (v0.length : Int))) = true) (h1 : getI v0 v7 = some g0) (h2 : (inRange g0 v1 v2) = true) (h3 : (decide (v7 > (0 : Int))) = false) : Round E 149 (lpAt Try.f149 0) (stL 38 [(0, .one (.s .far () 1 (v0.map etI))), (1, .one (tI v1)), (2, .one (tI v2)), (7, .one (tI v7))]) .normal (stL 38 [(0, .one (.s .far () 1 (v0.map etI))), (1, .one (tI v1)), (2, .one (tI v2)), (7, .one (tI (IntKind.wrap .i64 (v7 + (1 : Int)))))]) :=
  Round.path [.val (.int .i64 (v0.length : Int)), .b true, .row (etI g0), .ret [(false, [tB true])], .b false] [fun _ => ((v0.map etI).length : Int) = (v0.length : Int), fun _ => (decide (v7 < (v0.length : Int))) = true, fun _ => 0 ≤ v7 ∧ (v0.map etI)[v7.toNat]? = some (etI g0), fun k => E.C k 71 [.one (tI g0), .one (tI v1), .one (tI v2)] = some [(false, [tB true])], fun _ => (decide (v7 > (0 : Int))) = false] (fun k => by kernel_rfl) ⟨Ev.c lenMap, Ev.c h0, Ev.c (getRow h1), Does.to (T71 g0 v1 v2) (by rw [h2]), Ev.c h3, trivial⟩
theorem R149_0_3 (v0 : List Int) (v1 : Int) (v2 : Int) (v7 : Int) (g0 : Int) (h0 : (decide (v7 < (v0.length : Int))) = true) (h1 : getI v0 v7 = some g0) (h2 : (inRange g0 v1 v2) = false) : Round E 149 (lpAt Try.f149 0) (stL 38 [(0, .one (.s .far () 1 (v0.map etI))), (1, .one (tI v1)), (2, .one (tI v2)), (7, .one (tI v7))]) .ret (stL 38 [(6, .one (tB false))]) :=
  Round.path [.val (.int .i64 (v0.length : Int)), .b true, .row (etI g0), .ret [(false, [tB false])]] [fun _ => ((v0.map etI).length : Int) = (v0.length : Int), fun _ => (decide (v7 < (v0.length : Int))) = true, fun _ => 0 ≤ v7 ∧ (v0.map etI)[v7.toNat]? = some (etI g0), fun k => E.C k 71 [.one (tI g0), .one (tI v1), .one (tI v2)] = some [(false, [tB false])]] (fun k => by kernel_rfl) ⟨Ev.c lenMap, Ev.c h0, Ev.c (getRow h1), Does.to (T71 g0 v1 v2) (by rw [h2]), trivial⟩
theorem R149_0_4 (v0 : List Int) (v1 : Int) (v2 : Int) (v7 : Int) (h0 : (decide (v7 < (v0.length : Int))) = false) : Round E 149 (lpAt Try.f149 0) (stL 38 [(0, .one (.s .far () 1 (v0.map etI))), (1, .one (tI v1)), (2, .one (tI v2)), (7, .one (tI v7))]) (.exit 0) (stL 38 []) :=
  Round.path [.val (.int .i64 (v0.length : Int)), .b false] [fun _ => ((v0.map etI).length : Int) = (v0.length : Int), fun _ => (decide (v7 < (v0.length : Int))) = false] (fun k => by kernel_rfl) ⟨Ev.c lenMap, Ev.c h0, trivial⟩
theorem L149_0 (n : Nat) : ∀ (v0 : List Int) (v1 : Int) (v2 : Int) (v7 : Int), Ans (loop149_0 n v0 v1 v2 v7) (Q149_0 v0 v1 v2 v7) := by
  induction n with
  | zero => intros; exact Ans.none
  | succ n ih =>
    intro v0 v1 v2 v7
    unfold loop149_0
    refine Ans.ite (fun h0 => ?_) (fun h0 => ?_)
    · refine Ans.bind (fun g0 h1 => ?_)
      refine Ans.ite (fun h2 => ?_) (fun h2 => ?_)
      · refine Ans.ite (fun h3 => ?_) (fun h3 => ?_)
        · refine Ans.bind (fun g1 h4 => ?_)
          refine Ans.ite (fun h5 => ?_) (fun h5 => ?_)
          · exact Ans.some (Loops.stop (R149_0_0 v0 v1 v2 v7 g0 g1 h0 h1 h2 h3 h4 h5) (by intro h; cases h))
          · exact (ih v0 v1 v2 (IntKind.wrap .i64 (v7 + (1 : Int)))).mono fun y hy => by cases y <;> exact Loops.next (R149_0_1 v0 v1 v2 v7 g0 g1 h0 h1 h2 h3 h4 h5) hy
        · exact (ih v0 v1 v2 (IntKind.wrap .i64 (v7 + (1 : Int)))).mono fun y hy => by cases y <;> exact Loops.next (R149_0_2 v0 v1 v2 v7 g0 h0 h1 h2 h3) hy
      · exact Ans.some (Loops.stop (R149_0_3 v0 v1 v2 v7 g0 h0 h1 h2) (by intro h; cases h))
    · exact Ans.some (Loops.stop (R149_0_4 v0 v1 v2 v7 h0) (by intro h; cases h))
theorem P149_0 (x0 : List Int) (x1 : Int) (x2 : Int) (w0_6 : Bool) (h0 : Loops E 149 (lpAt Try.f149 0) (stL 38 [(0, .one (.s .far () 1 (x0.map etI))), (1, .one (tI x1)), (2, .one (tI x2)), (7, .one (tI (0 : Int)))]) .ret (stL 38 [(6, .one (tB w0_6))])) : Does E 149 [.one (.s .far () 1 (x0.map etI)), .one (tI x1), .one (tI x2)] [(false, [tB w0_6])] :=
  Does.path (fn := Try.f149) [.lp .ret (stL 38 [(6, .one (tB w0_6))])] [fun k => LoopK E 149 (lpAt Try.f149 0) (stL 38 [(0, .one (.s .far () 1 (x0.map etI))), (1, .one (tI x1)), (2, .one (tI x2)), (7, .one (tI (0 : Int)))]) .ret (stL 38 [(6, .one (tB w0_6))]) k k] rfl rfl (fun k => by kernel_rfl) ⟨Loops.ev h0, trivial⟩
theorem P149_1 (x0 : List Int) (x1 : Int) (x2 : Int) (h0 : Loops E 149 (lpAt Try.f149 0) (stL 38 [(0, .one (.s .far () 1 (x0.map etI))), (1, .one (tI x1)), (2, .one (tI x2)), (7, .one (tI (0 : Int)))]) (.exit 0) (stL 38 [])) : Does E 149 [.one (.s .far () 1 (x0.map etI)), .one (tI x1), .one (tI x2)] [(false, [tB true])] :=
  Does.path (fn := Try.f149) [.lp (.exit 0) (stL 38 [])] [fun k => LoopK E 149 (lpAt Try.f149 0) (stL 38 [(0, .one (.s .far () 1 (x0.map etI))), (1, .one (tI x1)), (2, .one (tI x2)), (7, .one (tI (0 : Int)))]) (.exit 0) (stL 38 []) k k] rfl rfl (fun k => by kernel_rfl) ⟨Loops.ev h0, trivial⟩
noncomputable def sem149 (n : Nat) (x0 : List Int) (x1 : Int) (x2 : Int) : Option (Bool) :=
    (loop149_0 n x0 x1 x2 (0 : Int)).bind fun y => match y with
      | .ret w0_6 => (some (w0_6))
      | .x0 => (some (true))
theorem D149 (n : Nat) (x0 : List Int) (x1 : Int) (x2 : Int) : Ans (sem149 n x0 x1 x2) (fun r => Does E 149 [.one (.s .far () 1 (x0.map etI)), .one (tI x1), .one (tI x2)] [(false, [tB r])]) := by
  unfold sem149
  refine Ans.bind (fun y hy => ?_)
  replace hy := L149_0 n x0 x1 x2 (0 : Int) y hy
  cases y with
  | ret w0_6 =>
    have h0 := hy
    exact Ans.some (P149_0 x0 x1 x2 w0_6 h0)
  | x0 =>
    have h0 := hy
    exact Ans.some (P149_1 x0 x1 x2 h0)
/-- A number in range, larger than the one ahead of it. -/
def stepOk (a b : Int) (l : List Int) (i : Nat) : Bool := inRange (l.getD i 0) a b && (decide (i = 0) || !decide (l.getD (i - 1) 0 ≥ l.getD i 0))
def risesAt (a b : Int) (l : List Int) (i : Nat) : Nat → Bool
  | 0 => true
  | d + 1 => stepOk a b l i && risesAt a b l (i + 1) d
def rises (l : List Int) (a b : Int) : Bool := risesAt a b l 0 l.length
theorem getD_get {l : List Int} {i : Nat} (h : i < l.length) : l[i]? = some (l.getD i 0) := by rw [List.getElem?_eq_getElem h, List.getD_eq_getElem?_getD, List.getElem?_eq_getElem h]; rfl
theorem loop149_ok (l : List Int) (a b : Int) (hl : l.length ≤ 1048576) : ∀ (d i n : Nat), i + d = l.length → d < n → loop149_0 n l a b i = some (cond (risesAt a b l i d) .x0 (.ret false))
  | 0, i, n, hi, hn => by
    obtain ⟨n, rfl⟩ : ∃ m, n = m + 1 := ⟨n - 1, by omega⟩
    simp only [loop149_0, risesAt]
    rw [show decide ((i : Int) < (l.length : Int)) = false from decide_eq_false (by omega)]
    rfl
  | d + 1, i, n, hi, hn => by
    obtain ⟨n, rfl⟩ : ∃ m, n = m + 1 := ⟨n - 1, by omega⟩
    have ih := loop149_ok l a b hl d (i + 1) n (by omega) (by omega)
    simp only [loop149_0, risesAt, stepOk]
    rw [show decide ((i : Int) < (l.length : Int)) = true from decide_eq_true (by omega), getI_nat, getD_get (by omega), wrap1 i (by omega), ih]
    simp only [cond_true, Option.bind_some]
    cases inRange (l.getD i 0) a b
    · rfl
    · cases i with
      | zero => simp
      | succ i =>
        rw [show decide (((i + 1 : Nat) : Int) > 0) = true from decide_eq_true (by omega), show IntKind.wrap .i64 (((i + 1 : Nat) : Int) - 1) = (i : Int) by rw [wrap_id _ (by omega) (by omega)]; omega, getI_nat, getD_get (by omega)]
        simp only [cond_true, Option.bind_some, Nat.add_sub_cancel, Bool.true_and]
        rw [show decide (i + 1 = 0) = false from decide_eq_false (by omega)]
        cases decide (l.getD i 0 ≥ l.getD (i + 1) 0) <;> rfl
theorem T149 (l : List Int) (a b : Int) (hl : l.length ≤ 1048576) : Does E 149 [.one (.s .far () 1 (l.map etI)), .one (tI a), .one (tI b)] [(false, [tB (rises l a b)])] := D149 (l.length + 1) l a b _ (by
  unfold sem149 rises
  rw [show (0 : Int) = ((0 : Nat) : Int) from rfl, loop149_ok l a b hl l.length 0 _ (by omega) (by omega)]
  cases risesAt a b l 0 l.length <;> rfl)
/-- What rises from one to four has at most four. -/
theorem rises_le : ∀ (l : List Int) (d i : Nat), 0 < i → l.getD (i - 1) 0 ≤ 4 → risesAt 1 4 l i d = true → (d : Int) ≤ 4 - l.getD (i - 1) 0
  | l, 0, i, h0, h1, h => by omega
  | l, d + 1, i, h0, h1, h => by
    simp only [risesAt, stepOk, inRange, Bool.and_eq_true, decide_eq_true_eq, Bool.or_eq_true, Bool.not_eq_true', decide_eq_false_iff_not] at h
    obtain ⟨⟨⟨a, b⟩, c⟩, e⟩ := h
    have := rises_le l d (i + 1) (by omega) (by simpa using b) e
    simp only [Nat.add_sub_cancel] at this
    omega
theorem rises_four {l : List Int} (h : rises l 1 4 = true) : l.length ≤ 4 := by
  unfold rises at h
  cases hl : l.length with
  | zero => omega
  | succ d =>
    rw [hl] at h
    simp only [risesAt, stepOk, inRange, Bool.and_eq_true, decide_eq_true_eq] at h
    obtain ⟨⟨⟨a, b⟩, c⟩, e⟩ := h
    have := rises_le l d 1 (by omega) b e
    simp only [Nat.sub_self] at this
    omega
def confOk (l : List Int) : Bool := inRange (l.length : Int) 1 4 && rises l 1 4
-- function 114: loop.example/g00188/spec.ConfOk
theorem L114_0 (x0 : List Int) (h0 : (inRange (x0.length : Int) (1 : Int) (4 : Int)) = true) (h1 : x0.length ≤ 1048576) : Does E 114 [.one (.s .far () 1 (x0.map etI))] [(false, [tB (rises x0 (1 : Int) (4 : Int))])] :=
  Does.path (fn := Try.f114) [.val (.int .i64 (x0.length : Int)), .ret [(false, [tB true])], .ret [(false, [tB (rises x0 (1 : Int) (4 : Int))])]] [fun _ => ((x0.map etI).length : Int) = (x0.length : Int), fun k => E.C k 71 [.one (tI (x0.length : Int)), .one (tI (1 : Int)), .one (tI (4 : Int))] = some [(false, [tB true])], fun k => E.C k 149 [.one (.s .far () 1 (x0.map etI)), .one (tI (1 : Int)), .one (tI (4 : Int))] = some [(false, [tB (rises x0 (1 : Int) (4 : Int))])]] rfl rfl (fun k => by kernel_rfl) ⟨Ev.c lenMap, Does.to (T71 (x0.length : Int) (1 : Int) (4 : Int)) (by rw [h0]), T149 x0 (1 : Int) (4 : Int) h1, trivial⟩
theorem L114_1 (x0 : List Int) (h0 : (inRange (x0.length : Int) (1 : Int) (4 : Int)) = false) : Does E 114 [.one (.s .far () 1 (x0.map etI))] [(false, [tB false])] :=
  Does.path (fn := Try.f114) [.val (.int .i64 (x0.length : Int)), .ret [(false, [tB false])]] [fun _ => ((x0.map etI).length : Int) = (x0.length : Int), fun k => E.C k 71 [.one (tI (x0.length : Int)), .one (tI (1 : Int)), .one (tI (4 : Int))] = some [(false, [tB false])]] rfl rfl (fun k => by kernel_rfl) ⟨Ev.c lenMap, Does.to (T71 (x0.length : Int) (1 : Int) (4 : Int)) (by rw [h0]), trivial⟩
noncomputable def sem114 (x0 : List Int) : Option (Bool) :=
    cond (inRange (x0.length : Int) (1 : Int) (4 : Int))
      (if x0.length ≤ 1048576 then some (rises x0 (1 : Int) (4 : Int)) else none)
      (some (false))
theorem D114 (x0 : List Int) : Ans (sem114 x0) (fun r => Does E 114 [.one (.s .far () 1 (x0.map etI))] [(false, [tB r])]) := by
  unfold sem114
  refine Ans.ite (fun h0 => ?_) (fun h0 => ?_)
  · refine Ans.pre (fun h1 => ?_)
    exact Ans.some (L114_0 x0 h0 h1)
  · exact Ans.some (L114_1 x0 h0)
theorem T114 (l : List Int) (hl : l.length ≤ 1048576) : Does E 114 [.one (.s .far () 1 (l.map etI))] [(false, [tB (confOk l)])] := D114 l _ (by
  unfold sem114 confOk
  simp only [if_pos hl]
  cases inRange (l.length : Int) 1 4 <;> rfl)
def nodesOk (l : List Int) : Bool := rises l 1 4
-- function 152: loop.example/g00188/impl.areNodes
inductive X152_0 where
  | ret (v2 : Bool)
  | x0 
noncomputable def loop152_0 : Nat → (List Int) → (List Int) → Int → Int → Option X152_0
  | 0, _, _, _, _ => none
  | n + 1, v0, v5, v6, v7 => cond (decide (v7 < v6))
    ((getI v5 v7).bind fun g0 => cond (isNode g0)
      (cond (decide (v7 > (0 : Int)))
        ((getI v0 (IntKind.wrap .i64 (v7 - (1 : Int)))).bind fun g1 => cond (decide (g0 ≤ g1))
          (some (.ret false))
          (loop152_0 n v0 v5 v6 (IntKind.wrap .i64 (v7 + (1 : Int)))))
        (loop152_0 n v0 v5 v6 (IntKind.wrap .i64 (v7 + (1 : Int)))))
      (some (.ret false)))
    (some (.x0))
def Q152_0 (v0 : List Int) (v5 : List Int) (v6 : Int) (v7 : Int) : X152_0 → Prop
  | .ret zv2 => Loops E 152 (lpAt Try.f152 0) (stL 29 [(0, .one (.s .far () 1 (v0.map etI))), (5, .one (.s .far () 1 (v5.map etI))), (6, .one (tI v6)), (7, .one (tI v7))]) .ret (stL 29 [(2, .one (tB zv2))])
  | .x0 => Loops E 152 (lpAt Try.f152 0) (stL 29 [(0, .one (.s .far () 1 (v0.map etI))), (5, .one (.s .far () 1 (v5.map etI))), (6, .one (tI v6)), (7, .one (tI v7))]) (.exit 0) (stL 29 [])
theorem R152_0_0 (v0 : List Int) (v5 : List Int) (v6 : Int) (v7 : Int) (g0 : Int) (g1 : Int) (h0 : (decide (v7 < v6)) = true) (h1 : getI v5 v7 = some g0) (h2 : (isNode g0) = true) (h3 : (decide (v7 > (0 : Int))) = true) (h4 : getI v0 (IntKind.wrap .i64 (v7 - (1 : Int))) = some g1) (h5 : (decide (g0 ≤ g1)) = true) : Round E 152 (lpAt Try.f152 0) (stL 29 [(0, .one (.s .far () 1 (v0.map etI))), (5, .one (.s .far () 1 (v5.map etI))), (6, .one (tI v6)), (7, .one (tI v7))]) .ret (stL 29 [(2, .one (tB false))]) :=
  Round.path [.b true, .row (etI g0), .ret [(false, [tB true])], .b true, .row (etI g1), .b true] [fun _ => (decide (v7 < v6)) = true, fun _ => 0 ≤ v7 ∧ (v5.map etI)[v7.toNat]? = some (etI g0), fun k => E.C k 117 [.one (tI g0)] = some [(false, [tB true])], fun _ => (decide (v7 > (0 : Int))) = true, fun _ => 0 ≤ (IntKind.wrap .i64 (v7 - (1 : Int))) ∧ (v0.map etI)[(IntKind.wrap .i64 (v7 - (1 : Int))).toNat]? = some (etI g1), fun _ => (decide (g0 ≤ g1)) = true] (fun k => by kernel_rfl) ⟨Ev.c h0, Ev.c (getRow h1), Does.to (T117 g0) (by rw [h2]), Ev.c h3, Ev.c (getRow h4), Ev.c h5, trivial⟩
theorem R152_0_1 (v0 : List Int) (v5 : List Int) (v6 : Int) (v7 : Int) (g0 : Int) (g1 : Int) (h0 : (decide (v7 < v6)) = true) (h1 : getI v5 v7 = some g0) (h2 : (isNode g0) = true) (h3 : (decide (v7 > (0 : Int))) = true) (h4 : getI v0 (IntKind.wrap .i64 (v7 - (1 : Int))) = some g1) (h5 : (decide (g0 ≤ g1)) = false) : Round E 152 (lpAt Try.f152 0) (stL 29 [(0, .one (.s .far () 1 (v0.map etI))), (5, .one (.s .far () 1 (v5.map etI))), (6, .one (tI v6)), (7, .one (tI v7))]) .normal (stL 29 [(0, .one (.s .far () 1 (v0.map etI))), (5, .one (.s .far () 1 (v5.map etI))), (6, .one (tI v6)), (7, .one (tI (IntKind.wrap .i64 (v7 + (1 : Int)))))]) :=
  Round.path [.b true, .row (etI g0), .ret [(false, [tB true])], .b true, .row (etI g1), .b false] [fun _ => (decide (v7 < v6)) = true, fun _ => 0 ≤ v7 ∧ (v5.map etI)[v7.toNat]? = some (etI g0), fun k => E.C k 117 [.one (tI g0)] = some [(false, [tB true])], fun _ => (decide (v7 > (0 : Int))) = true, fun _ => 0 ≤ (IntKind.wrap .i64 (v7 - (1 : Int))) ∧ (v0.map etI)[(IntKind.wrap .i64 (v7 - (1 : Int))).toNat]? = some (etI g1), fun _ => (decide (g0 ≤ g1)) = false] (fun k => by kernel_rfl) ⟨Ev.c h0, Ev.c (getRow h1), Does.to (T117 g0) (by rw [h2]), Ev.c h3, Ev.c (getRow h4), Ev.c h5, trivial⟩
theorem R152_0_2 (v0 : List Int) (v5 : List Int) (v6 : Int) (v7 : Int) (g0 : Int) (h0 : (decide (v7 < v6)) = true) (h1 : getI v5 v7 = some g0) (h2 : (isNode g0) = true) (h3 : (decide (v7 > (0 : Int))) = false) : Round E 152 (lpAt Try.f152 0) (stL 29 [(0, .one (.s .far () 1 (v0.map etI))), (5, .one (.s .far () 1 (v5.map etI))), (6, .one (tI v6)), (7, .one (tI v7))]) .normal (stL 29 [(0, .one (.s .far () 1 (v0.map etI))), (5, .one (.s .far () 1 (v5.map etI))), (6, .one (tI v6)), (7, .one (tI (IntKind.wrap .i64 (v7 + (1 : Int)))))]) :=
  Round.path [.b true, .row (etI g0), .ret [(false, [tB true])], .b false] [fun _ => (decide (v7 < v6)) = true, fun _ => 0 ≤ v7 ∧ (v5.map etI)[v7.toNat]? = some (etI g0), fun k => E.C k 117 [.one (tI g0)] = some [(false, [tB true])], fun _ => (decide (v7 > (0 : Int))) = false] (fun k => by kernel_rfl) ⟨Ev.c h0, Ev.c (getRow h1), Does.to (T117 g0) (by rw [h2]), Ev.c h3, trivial⟩
theorem R152_0_3 (v0 : List Int) (v5 : List Int) (v6 : Int) (v7 : Int) (g0 : Int) (h0 : (decide (v7 < v6)) = true) (h1 : getI v5 v7 = some g0) (h2 : (isNode g0) = false) : Round E 152 (lpAt Try.f152 0) (stL 29 [(0, .one (.s .far () 1 (v0.map etI))), (5, .one (.s .far () 1 (v5.map etI))), (6, .one (tI v6)), (7, .one (tI v7))]) .ret (stL 29 [(2, .one (tB false))]) :=
  Round.path [.b true, .row (etI g0), .ret [(false, [tB false])]] [fun _ => (decide (v7 < v6)) = true, fun _ => 0 ≤ v7 ∧ (v5.map etI)[v7.toNat]? = some (etI g0), fun k => E.C k 117 [.one (tI g0)] = some [(false, [tB false])]] (fun k => by kernel_rfl) ⟨Ev.c h0, Ev.c (getRow h1), Does.to (T117 g0) (by rw [h2]), trivial⟩
theorem R152_0_4 (v0 : List Int) (v5 : List Int) (v6 : Int) (v7 : Int) (h0 : (decide (v7 < v6)) = false) : Round E 152 (lpAt Try.f152 0) (stL 29 [(0, .one (.s .far () 1 (v0.map etI))), (5, .one (.s .far () 1 (v5.map etI))), (6, .one (tI v6)), (7, .one (tI v7))]) (.exit 0) (stL 29 []) :=
  Round.path [.b false] [fun _ => (decide (v7 < v6)) = false] (fun k => by kernel_rfl) ⟨Ev.c h0, trivial⟩
theorem L152_0 (n : Nat) : ∀ (v0 : List Int) (v5 : List Int) (v6 : Int) (v7 : Int), Ans (loop152_0 n v0 v5 v6 v7) (Q152_0 v0 v5 v6 v7) := by
  induction n with
  | zero => intros; exact Ans.none
  | succ n ih =>
    intro v0 v5 v6 v7
    unfold loop152_0
    refine Ans.ite (fun h0 => ?_) (fun h0 => ?_)
    · refine Ans.bind (fun g0 h1 => ?_)
      refine Ans.ite (fun h2 => ?_) (fun h2 => ?_)
      · refine Ans.ite (fun h3 => ?_) (fun h3 => ?_)
        · refine Ans.bind (fun g1 h4 => ?_)
          refine Ans.ite (fun h5 => ?_) (fun h5 => ?_)
          · exact Ans.some (Loops.stop (R152_0_0 v0 v5 v6 v7 g0 g1 h0 h1 h2 h3 h4 h5) (by intro h; cases h))
          · exact (ih v0 v5 v6 (IntKind.wrap .i64 (v7 + (1 : Int)))).mono fun y hy => by cases y <;> exact Loops.next (R152_0_1 v0 v5 v6 v7 g0 g1 h0 h1 h2 h3 h4 h5) hy
        · exact (ih v0 v5 v6 (IntKind.wrap .i64 (v7 + (1 : Int)))).mono fun y hy => by cases y <;> exact Loops.next (R152_0_2 v0 v5 v6 v7 g0 h0 h1 h2 h3) hy
      · exact Ans.some (Loops.stop (R152_0_3 v0 v5 v6 v7 g0 h0 h1 h2) (by intro h; cases h))
    · exact Ans.some (Loops.stop (R152_0_4 v0 v5 v6 v7 h0) (by intro h; cases h))
theorem P152_0 (x0 : List Int) (w0_2 : Bool) (h0 : Loops E 152 (lpAt Try.f152 0) (stL 29 [(0, .one (.s .far () 1 (x0.map etI))), (5, .one (.s .far () 1 (x0.map etI))), (6, .one (tI (x0.length : Int))), (7, .one (tI (0 : Int)))]) .ret (stL 29 [(2, .one (tB w0_2))])) : Does E 152 [.one (.s .far () 1 (x0.map etI))] [(false, [tB w0_2])] :=
  Does.path (fn := Try.f152) [.val (.int .i64 (x0.length : Int)), .lp .ret (stL 29 [(2, .one (tB w0_2))])] [fun _ => ((x0.map etI).length : Int) = (x0.length : Int), fun k => LoopK E 152 (lpAt Try.f152 0) (stL 29 [(0, .one (.s .far () 1 (x0.map etI))), (5, .one (.s .far () 1 (x0.map etI))), (6, .one (tI (x0.length : Int))), (7, .one (tI (0 : Int)))]) .ret (stL 29 [(2, .one (tB w0_2))]) k k] rfl rfl (fun k => by kernel_rfl) ⟨Ev.c lenMap, Loops.ev h0, trivial⟩
theorem P152_1 (x0 : List Int) (h0 : Loops E 152 (lpAt Try.f152 0) (stL 29 [(0, .one (.s .far () 1 (x0.map etI))), (5, .one (.s .far () 1 (x0.map etI))), (6, .one (tI (x0.length : Int))), (7, .one (tI (0 : Int)))]) (.exit 0) (stL 29 [])) : Does E 152 [.one (.s .far () 1 (x0.map etI))] [(false, [tB true])] :=
  Does.path (fn := Try.f152) [.val (.int .i64 (x0.length : Int)), .lp (.exit 0) (stL 29 [])] [fun _ => ((x0.map etI).length : Int) = (x0.length : Int), fun k => LoopK E 152 (lpAt Try.f152 0) (stL 29 [(0, .one (.s .far () 1 (x0.map etI))), (5, .one (.s .far () 1 (x0.map etI))), (6, .one (tI (x0.length : Int))), (7, .one (tI (0 : Int)))]) (.exit 0) (stL 29 []) k k] rfl rfl (fun k => by kernel_rfl) ⟨Ev.c lenMap, Loops.ev h0, trivial⟩
noncomputable def sem152 (n : Nat) (x0 : List Int) : Option (Bool) :=
    (loop152_0 n x0 x0 (x0.length : Int) (0 : Int)).bind fun y => match y with
      | .ret w0_2 => (some (w0_2))
      | .x0 => (some (true))
theorem D152 (n : Nat) (x0 : List Int) : Ans (sem152 n x0) (fun r => Does E 152 [.one (.s .far () 1 (x0.map etI))] [(false, [tB r])]) := by
  unfold sem152
  refine Ans.bind (fun y hy => ?_)
  replace hy := L152_0 n x0 x0 (x0.length : Int) (0 : Int) y hy
  cases y with
  | ret w0_2 =>
    have h0 := hy
    exact Ans.some (P152_0 x0 w0_2 h0)
  | x0 =>
    have h0 := hy
    exact Ans.some (P152_1 x0 h0)
theorem loop152_ok (l : List Int) (hl : l.length ≤ 1048576) : ∀ (d i n : Nat), i + d = l.length → d < n → loop152_0 n l l (l.length : Int) i = some (cond (risesAt 1 4 l i d) .x0 (.ret false))
  | 0, i, n, hi, hn => by
    obtain ⟨n, rfl⟩ : ∃ m, n = m + 1 := ⟨n - 1, by omega⟩
    simp only [loop152_0, risesAt]
    rw [show decide ((i : Int) < (l.length : Int)) = false from decide_eq_false (by omega)]
    rfl
  | d + 1, i, n, hi, hn => by
    obtain ⟨n, rfl⟩ : ∃ m, n = m + 1 := ⟨n - 1, by omega⟩
    have ih := loop152_ok l hl d (i + 1) n (by omega) (by omega)
    simp only [loop152_0, risesAt, stepOk, isNode]
    rw [show decide ((i : Int) < (l.length : Int)) = true from decide_eq_true (by omega), getI_nat, getD_get (by omega), wrap1 i (by omega), ih]
    simp only [cond_true, Option.bind_some]
    cases inRange (l.getD i 0) 1 4
    · rfl
    · cases i with
      | zero => simp
      | succ i =>
        rw [show decide (((i + 1 : Nat) : Int) > 0) = true from decide_eq_true (by omega), show IntKind.wrap .i64 (((i + 1 : Nat) : Int) - 1) = (i : Int) by rw [wrap_id _ (by omega) (by omega)]; omega, getI_nat, getD_get (by omega)]
        simp only [cond_true, Option.bind_some, Nat.add_sub_cancel, Bool.true_and]
        rw [show decide (i + 1 = 0) = false from decide_eq_false (by omega)]
        change cond (decide (l.getD i 0 ≥ l.getD (i + 1) 0)) _ _ = _
        cases decide (l.getD i 0 ≥ l.getD (i + 1) 0) <;> rfl
theorem T152 (l : List Int) (hl : l.length ≤ 1048576) : Does E 152 [.one (.s .far () 1 (l.map etI))] [(false, [tB (nodesOk l)])] := D152 (l.length + 1) l _ (by
  unfold sem152 nodesOk rises
  rw [show (0 : Int) = ((0 : Nat) : Int) from rfl, loop152_ok l hl l.length 0 _ (by omega) (by omega)]
  cases risesAt 1 4 l 0 l.length <;> rfl)
-- function 120: loop.example/g00188/impl.ConfOk
theorem L120_0 (x0 : List Int) (h0 : (decide ((x0.length : Int) > (0 : Int))) = true) (h1 : x0.length ≤ 1048576) : Does E 120 [.one (.s .far () 1 (x0.map etI))] [(false, [tB (nodesOk x0)])] :=
  Does.path (fn := Try.f120) [.val (.int .i64 (x0.length : Int)), .b true, .ret [(false, [tB (nodesOk x0)])]] [fun _ => ((x0.map etI).length : Int) = (x0.length : Int), fun _ => (decide ((x0.length : Int) > (0 : Int))) = true, fun k => E.C k 152 [.one (.s .far () 1 (x0.map etI))] = some [(false, [tB (nodesOk x0)])]] rfl rfl (fun k => by kernel_rfl) ⟨Ev.c lenMap, Ev.c h0, T152 x0 h1, trivial⟩
theorem L120_1 (x0 : List Int) (h0 : (decide ((x0.length : Int) > (0 : Int))) = false) : Does E 120 [.one (.s .far () 1 (x0.map etI))] [(false, [tB false])] :=
  Does.path (fn := Try.f120) [.val (.int .i64 (x0.length : Int)), .b false] [fun _ => ((x0.map etI).length : Int) = (x0.length : Int), fun _ => (decide ((x0.length : Int) > (0 : Int))) = false] rfl rfl (fun k => by kernel_rfl) ⟨Ev.c lenMap, Ev.c h0, trivial⟩
noncomputable def sem120 (x0 : List Int) : Option (Bool) :=
    cond (decide ((x0.length : Int) > (0 : Int)))
      (if x0.length ≤ 1048576 then some (nodesOk x0) else none)
      (some (false))
theorem D120 (x0 : List Int) : Ans (sem120 x0) (fun r => Does E 120 [.one (.s .far () 1 (x0.map etI))] [(false, [tB r])]) := by
  unfold sem120
  refine Ans.ite (fun h0 => ?_) (fun h0 => ?_)
  · refine Ans.pre (fun h1 => ?_)
    exact Ans.some (L120_0 x0 h0 h1)
  · exact Ans.some (L120_1 x0 h0)
theorem T120 (l : List Int) (hl : l.length ≤ 1048576) : Does E 120 [.one (.s .far () 1 (l.map etI))] [(false, [tB (confOk l)])] := D120 l _ (by
  unfold sem120 confOk nodesOk
  simp only [if_pos hl]
  cases h : rises l 1 4
  · cases decide ((l.length : Int) > 0) <;> simp
  · have := rises_four h
    unfold inRange
    rw [show decide ((l.length : Int) ≤ 4) = true from decide_eq_true (by omega)]
    by_cases h0 : (l.length : Int) > 0
    · rw [decide_eq_true h0, show decide ((l.length : Int) ≥ 1) = true from decide_eq_true (by omega)]; rfl
    · rw [decide_eq_false h0, show decide ((l.length : Int) ≥ 1) = false from decide_eq_false (by omega)]; rfl)
/-- The nodes that a text tells. -/
def readConf (s : ByteArray) : List Int × Bool := cond (confOk (strNums s)) (strNums s, true) ([], false)
theorem strNums_length (s : ByteArray) : (strNums s).length = s.size := by unfold strNums; simp
theorem strNums_get (s : ByteArray) (i : Nat) (h : i < s.size) : (strNums s)[i]? = some (bytAt s (i : Int)) := by
  unfold strNums bytAt
  rw [List.getElem?_map, Array.getElem?_toList, Int.toNat_natCast]
  have h1 : i < s.data.size := h
  have e : s[i]? = some s[i] := getElem?_pos s i h
  rw [e, Array.getElem?_eq_getElem h1]
  rfl
theorem strNums_lt (s : ByteArray) : ∀ n ∈ strNums s, IntKind.wrap .i64 n = n := by
  intro n hn
  unfold strNums at hn
  obtain ⟨b, _, rfl⟩ := List.mem_map.1 hn
  have := b.toNat_lt
  exact wrap_id _ (by omega) (by omega)
-- function 124: loop.example/g00188/spec.ReadConf
inductive X124_0 where
  | x0 (v4 : List Int)
noncomputable def loop124_0 : Nat → ByteArray → (List Int) → Int → Option X124_0
  | 0, _, _, _ => none
  | n + 1, v0, v4, v5 => cond (decide (v5 < (v0.size : Int)))
    (cond (decide (v5 ≤ (4 : Int)))
      (if 0 ≤ v5 ∧ v5 < (v0.size : Int) then if (v4.length + ([IntKind.wrap .i64 (bytAt v0 v5)]).length) * 8 ≤ 140737488355328 ∧ v4.length + ([IntKind.wrap .i64 (bytAt v0 v5)]).length ≤ 4611686018427387904 then loop124_0 n v0 (v4 ++ ([IntKind.wrap .i64 (bytAt v0 v5)])) (IntKind.wrap .i64 (v5 + (1 : Int))) else none else none)
      (some (.x0 v4)))
    (some (.x0 v4))
def Q124_0 (v0 : ByteArray) (v4 : List Int) (v5 : Int) : X124_0 → Prop
  | .x0 zv4 => Loops E 124 (lpAt Try.f124 0) (stL 36 [(0, .one (tS v0)), (4, .one (.s .own () 1 (v4.map etI))), (5, .one (tI v5))]) (.exit 0) (stL 36 [(0, .one (tS v0)), (4, .one (.s .own () 1 (zv4.map etI)))])
theorem R124_0_0 (v0 : ByteArray) (v4 : List Int) (v5 : Int) (h0 : (decide (v5 < (v0.size : Int))) = true) (h1 : (decide (v5 ≤ (4 : Int))) = true) (h2 : 0 ≤ v5 ∧ v5 < (v0.size : Int)) (h3 : (v4.length + ([IntKind.wrap .i64 (bytAt v0 v5)]).length) * 8 ≤ 140737488355328 ∧ v4.length + ([IntKind.wrap .i64 (bytAt v0 v5)]).length ≤ 4611686018427387904) : Round E 124 (lpAt Try.f124 0) (stL 36 [(0, .one (tS v0)), (4, .one (.s .own () 1 (v4.map etI))), (5, .one (tI v5))]) .normal (stL 36 [(0, .one (tS v0)), (4, .one (.s .own () 1 ((v4 ++ ([IntKind.wrap .i64 (bytAt v0 v5)])).map etI))), (5, .one (tI (IntKind.wrap .i64 (v5 + (1 : Int)))))]) :=
  Round.path [.b true, .b true, .rows ((v4 ++ ([IntKind.wrap .i64 (bytAt v0 v5)])).map etI)] [fun _ => (decide (v5 < (v0.size : Int))) = true, fun _ => (decide (v5 ≤ (4 : Int))) = true, fun _ => 0 ≤ v5 ∧ v5 < (v0.size : Int), fun _ => (((([IntKind.wrap .i64 (bytAt v0 v5)]).map etI).drop 0).take (([IntKind.wrap .i64 (bytAt v0 v5)]).map etI).length).all (fun r => r.all T.flat) = true ∧ ((v4.map etI).length + (((([IntKind.wrap .i64 (bytAt v0 v5)]).map etI).drop 0).take (([IntKind.wrap .i64 (bytAt v0 v5)]).map etI).length).length) * 8 ≤ 140737488355328 ∧ (v4.map etI).length + (((([IntKind.wrap .i64 (bytAt v0 v5)]).map etI).drop 0).take (([IntKind.wrap .i64 (bytAt v0 v5)]).map etI).length).length ≤ 4611686018427387904, fun _ => (v4.map etI) ++ (((([IntKind.wrap .i64 (bytAt v0 v5)]).map etI).drop 0).take (([IntKind.wrap .i64 (bytAt v0 v5)]).map etI).length) = (v4 ++ ([IntKind.wrap .i64 (bytAt v0 v5)])).map etI] (fun k => by kernel_rfl) ⟨Ev.c h0, Ev.c h1, Ev.c h2, Ev.c (by simp only [List.take_length, List.drop_zero]; exact appOk (fun x => rfl) h3), Ev.c (by simp only [List.take_length, List.drop_zero]; exact appMap), trivial⟩
theorem R124_0_1 (v0 : ByteArray) (v4 : List Int) (v5 : Int) (h0 : (decide (v5 < (v0.size : Int))) = true) (h1 : (decide (v5 ≤ (4 : Int))) = false) : Round E 124 (lpAt Try.f124 0) (stL 36 [(0, .one (tS v0)), (4, .one (.s .own () 1 (v4.map etI))), (5, .one (tI v5))]) (.exit 0) (stL 36 [(0, .one (tS v0)), (4, .one (.s .own () 1 (v4.map etI)))]) :=
  Round.path [.b true, .b false] [fun _ => (decide (v5 < (v0.size : Int))) = true, fun _ => (decide (v5 ≤ (4 : Int))) = false] (fun k => by kernel_rfl) ⟨Ev.c h0, Ev.c h1, trivial⟩
theorem R124_0_2 (v0 : ByteArray) (v4 : List Int) (v5 : Int) (h0 : (decide (v5 < (v0.size : Int))) = false) : Round E 124 (lpAt Try.f124 0) (stL 36 [(0, .one (tS v0)), (4, .one (.s .own () 1 (v4.map etI))), (5, .one (tI v5))]) (.exit 0) (stL 36 [(0, .one (tS v0)), (4, .one (.s .own () 1 (v4.map etI)))]) :=
  Round.path [.b false] [fun _ => (decide (v5 < (v0.size : Int))) = false] (fun k => by kernel_rfl) ⟨Ev.c h0, trivial⟩
theorem L124_0 (n : Nat) : ∀ (v0 : ByteArray) (v4 : List Int) (v5 : Int), Ans (loop124_0 n v0 v4 v5) (Q124_0 v0 v4 v5) := by
  induction n with
  | zero => intros; exact Ans.none
  | succ n ih =>
    intro v0 v4 v5
    unfold loop124_0
    refine Ans.ite (fun h0 => ?_) (fun h0 => ?_)
    · refine Ans.ite (fun h1 => ?_) (fun h1 => ?_)
      · refine Ans.pre (fun h2 => ?_)
        refine Ans.pre (fun h3 => ?_)
        exact (ih v0 (v4 ++ ([IntKind.wrap .i64 (bytAt v0 v5)])) (IntKind.wrap .i64 (v5 + (1 : Int)))).mono fun y hy => by cases y <;> exact Loops.next (R124_0_0 v0 v4 v5 h0 h1 h2 h3) hy
      · exact Ans.some (Loops.stop (R124_0_1 v0 v4 v5 h0 h1) (by intro h; cases h))
    · exact Ans.some (Loops.stop (R124_0_2 v0 v4 v5 h0) (by intro h; cases h))
theorem P124_0 (x0 : ByteArray) (w0_4 : List Int) (h0 : Loops E 124 (lpAt Try.f124 0) (stL 36 [(0, .one (tS x0)), (4, .one (.s .own () 1 (([] : List Int).map etI))), (5, .one (tI (0 : Int)))]) (.exit 0) (stL 36 [(0, .one (tS x0)), (4, .one (.s .own () 1 (w0_4.map etI)))])) (h1 : ((w0_4.length : Int) != (x0.size : Int)) = true) : Does E 124 [.one (tS x0)] [(false, [.s .own () 1 (([] : List Int).map etI)]), (false, [tB false])] :=
  Does.path (fn := Try.f124) [.lp (.exit 0) (stL 36 [(0, .one (tS x0)), (4, .one (.s .own () 1 (w0_4.map etI)))]), .val (.int .i64 (w0_4.length : Int)), .b true] [fun k => LoopK E 124 (lpAt Try.f124 0) (stL 36 [(0, .one (tS x0)), (4, .one (.s .own () 1 (([] : List Int).map etI))), (5, .one (tI (0 : Int)))]) (.exit 0) (stL 36 [(0, .one (tS x0)), (4, .one (.s .own () 1 (w0_4.map etI)))]) k k, fun _ => ((w0_4.map etI).length : Int) = (w0_4.length : Int), fun _ => ((w0_4.length : Int) != (x0.size : Int)) = true] rfl rfl (fun k => by kernel_rfl) ⟨Loops.ev h0, Ev.c lenMap, Ev.c h1, trivial⟩
theorem P124_1 (x0 : ByteArray) (w0_4 : List Int) (h0 : Loops E 124 (lpAt Try.f124 0) (stL 36 [(0, .one (tS x0)), (4, .one (.s .own () 1 (([] : List Int).map etI))), (5, .one (tI (0 : Int)))]) (.exit 0) (stL 36 [(0, .one (tS x0)), (4, .one (.s .own () 1 (w0_4.map etI)))])) (h1 : ((w0_4.length : Int) != (x0.size : Int)) = false) (h2 : w0_4.length ≤ 1048576) (h3 : (confOk w0_4) = true) : Does E 124 [.one (tS x0)] [(false, [.s .own () 1 (w0_4.map etI)]), (false, [tB true])] :=
  Does.path (fn := Try.f124) [.lp (.exit 0) (stL 36 [(0, .one (tS x0)), (4, .one (.s .own () 1 (w0_4.map etI)))]), .val (.int .i64 (w0_4.length : Int)), .b false, .ret [(false, [tB true])]] [fun k => LoopK E 124 (lpAt Try.f124 0) (stL 36 [(0, .one (tS x0)), (4, .one (.s .own () 1 (([] : List Int).map etI))), (5, .one (tI (0 : Int)))]) (.exit 0) (stL 36 [(0, .one (tS x0)), (4, .one (.s .own () 1 (w0_4.map etI)))]) k k, fun _ => ((w0_4.map etI).length : Int) = (w0_4.length : Int), fun _ => ((w0_4.length : Int) != (x0.size : Int)) = false, fun k => E.C k 114 [.one (.s .far () 1 (((w0_4.map etI).drop 0).take (w0_4.map etI).length))] = some [(false, [tB true])]] rfl rfl (fun k => by kernel_rfl) ⟨Loops.ev h0, Ev.c lenMap, Ev.c h1, Does.args (by simp only [List.take_length, List.drop_zero]) (Does.to (T114 w0_4 h2) (by rw [h3])), trivial⟩
theorem P124_2 (x0 : ByteArray) (w0_4 : List Int) (h0 : Loops E 124 (lpAt Try.f124 0) (stL 36 [(0, .one (tS x0)), (4, .one (.s .own () 1 (([] : List Int).map etI))), (5, .one (tI (0 : Int)))]) (.exit 0) (stL 36 [(0, .one (tS x0)), (4, .one (.s .own () 1 (w0_4.map etI)))])) (h1 : ((w0_4.length : Int) != (x0.size : Int)) = false) (h2 : w0_4.length ≤ 1048576) (h3 : (confOk w0_4) = false) : Does E 124 [.one (tS x0)] [(false, [.s .own () 1 (([] : List Int).map etI)]), (false, [tB false])] :=
  Does.path (fn := Try.f124) [.lp (.exit 0) (stL 36 [(0, .one (tS x0)), (4, .one (.s .own () 1 (w0_4.map etI)))]), .val (.int .i64 (w0_4.length : Int)), .b false, .ret [(false, [tB false])]] [fun k => LoopK E 124 (lpAt Try.f124 0) (stL 36 [(0, .one (tS x0)), (4, .one (.s .own () 1 (([] : List Int).map etI))), (5, .one (tI (0 : Int)))]) (.exit 0) (stL 36 [(0, .one (tS x0)), (4, .one (.s .own () 1 (w0_4.map etI)))]) k k, fun _ => ((w0_4.map etI).length : Int) = (w0_4.length : Int), fun _ => ((w0_4.length : Int) != (x0.size : Int)) = false, fun k => E.C k 114 [.one (.s .far () 1 (((w0_4.map etI).drop 0).take (w0_4.map etI).length))] = some [(false, [tB false])]] rfl rfl (fun k => by kernel_rfl) ⟨Loops.ev h0, Ev.c lenMap, Ev.c h1, Does.args (by simp only [List.take_length, List.drop_zero]) (Does.to (T114 w0_4 h2) (by rw [h3])), trivial⟩
noncomputable def sem124 (n : Nat) (x0 : ByteArray) : Option ((List Int) × Bool) :=
    (loop124_0 n x0 ([]) (0 : Int)).bind fun y => match y with
      | .x0 w0_4 => (cond ((w0_4.length : Int) != (x0.size : Int))
        (some (([] : List Int), false))
        (if w0_4.length ≤ 1048576 then cond (confOk w0_4)
          (some (w0_4, true))
          (some (([] : List Int), false)) else none))
theorem D124 (n : Nat) (x0 : ByteArray) : Ans (sem124 n x0) (fun r => Does E 124 [.one (tS x0)] [(false, [.s .own () 1 (r.1.map etI)]), (false, [tB r.2])]) := by
  unfold sem124
  refine Ans.bind (fun y hy => ?_)
  replace hy := L124_0 n x0 ([]) (0 : Int) y hy
  cases y with
  | x0 w0_4 =>
    have h0 := hy
    refine Ans.ite (fun h1 => ?_) (fun h1 => ?_)
    · exact Ans.some (P124_0 x0 w0_4 h0 h1)
    · refine Ans.pre (fun h2 => ?_)
      refine Ans.ite (fun h3 => ?_) (fun h3 => ?_)
      · exact Ans.some (P124_1 x0 w0_4 h0 h1 h2 h3)
      · exact Ans.some (P124_2 x0 w0_4 h0 h1 h2 h3)
theorem loop124_ok (s : ByteArray) : ∀ (d i n : Nat), i + d = 5 → d < n → i ≤ s.size → loop124_0 n s ((strNums s).take i) i = some (.x0 ((strNums s).take 5))
  | 0, i, n, hi, hn, hs => by
    obtain ⟨n, rfl⟩ : ∃ m, n = m + 1 := ⟨n - 1, by omega⟩
    obtain rfl : i = 5 := by omega
    simp only [loop124_0]
    rw [show decide (((5 : Nat) : Int) ≤ 4) = false from decide_eq_false (by omega)]
    cases decide (((5 : Nat) : Int) < (s.size : Int)) <;> rfl
  | d + 1, i, n, hi, hn, hs => by
    obtain ⟨n, rfl⟩ : ∃ m, n = m + 1 := ⟨n - 1, by omega⟩
    simp only [loop124_0]
    by_cases h : i < s.size
    · rw [show decide ((i : Int) < (s.size : Int)) = true from decide_eq_true (by omega), show decide ((i : Int) ≤ 4) = true from decide_eq_true (by omega), if_pos ⟨by omega, by omega⟩, wrap1 i (by omega)]
      simp only [cond_true]
      have hg := strNums_get s i h
      rw [strNums_lt s _ (List.mem_of_getElem? hg), if_pos (by constructor <;> (simp [strNums_length]; omega))]
      have e : (strNums s).take i ++ [bytAt s (i : Int)] = (strNums s).take (i + 1) := by rw [List.take_add_one, hg]; rfl
      rw [e]
      exact loop124_ok s d (i + 1) n (by omega) (by omega) (by omega)
    · rw [show decide ((i : Int) < (s.size : Int)) = false from decide_eq_false (by omega)]
      simp only [cond_false]
      rw [List.take_of_length_le (by rw [strNums_length]; omega), List.take_of_length_le (by rw [strNums_length]; omega)]
theorem confOk_four {l : List Int} (h : confOk l = true) : l.length ≤ 4 := by
  unfold confOk at h
  rw [Bool.and_eq_true] at h
  exact rises_four h.2
theorem T124 (s : ByteArray) : Does E 124 [.one (tS s)] [(false, [.s .own () 1 ((readConf s).1.map etI)]), (false, [tB (readConf s).2])] := D124 6 s (readConf s) (by
  unfold sem124 readConf
  rw [show ([] : List Int) = (strNums s).take 0 from rfl, show (0 : Int) = ((0 : Nat) : Int) from rfl, loop124_ok s 5 0 6 (by omega) (by omega) (by omega)]
  simp only [Option.bind_some]
  by_cases h : s.size ≤ 5
  · rw [List.take_of_length_le (by rw [strNums_length]; omega), strNums_length]
    simp only [bne_self_eq_false, cond_false]
    rw [if_pos (by omega)]
    cases confOk (strNums s) <;> rfl
  · have hb : (((List.take 5 (strNums s)).length : Int) != (s.size : Int)) = true := by
      rw [bne_iff_ne, List.length_take, strNums_length]; omega
    rw [hb]
    cases hc : confOk (strNums s)
    · rfl
    · have := confOk_four hc
      rw [strNums_length] at this
      omega)
-- function 155: loop.example/g00188/impl.numbers
inductive X155_0 where
  | x0 (v3 : List Int)
noncomputable def loop155_0 : Nat → (List Int) → (List Int) → Int → Int → Option X155_0
  | 0, _, _, _, _ => none
  | n + 1, v3, v7, v8, v9 => cond (decide (v9 < v8))
    ((getI v7 v9).bind fun g0 => if (v3.length + ([IntKind.wrap .i64 g0]).length) * 8 ≤ 140737488355328 ∧ v3.length + ([IntKind.wrap .i64 g0]).length ≤ 4611686018427387904 then loop155_0 n (v3 ++ ([IntKind.wrap .i64 g0])) v7 v8 (IntKind.wrap .i64 (v9 + (1 : Int))) else none)
    (some (.x0 v3))
def Q155_0 (v3 : List Int) (v7 : List Int) (v8 : Int) (v9 : Int) : X155_0 → Prop
  | .x0 zv3 => Loops E 155 (lpAt Try.f155 0) (stL 20 [(3, .one (.s .own () 1 (v3.map etI))), (7, .one (.s .own () 1 (v7.map etY))), (8, .one (tI v8)), (9, .one (tI v9))]) (.exit 0) (stL 20 [(3, .one (.s .own () 1 (zv3.map etI)))])
theorem R155_0_0 (v3 : List Int) (v7 : List Int) (v8 : Int) (v9 : Int) (g0 : Int) (h0 : (decide (v9 < v8)) = true) (h1 : getI v7 v9 = some g0) (h2 : (v3.length + ([IntKind.wrap .i64 g0]).length) * 8 ≤ 140737488355328 ∧ v3.length + ([IntKind.wrap .i64 g0]).length ≤ 4611686018427387904) : Round E 155 (lpAt Try.f155 0) (stL 20 [(3, .one (.s .own () 1 (v3.map etI))), (7, .one (.s .own () 1 (v7.map etY))), (8, .one (tI v8)), (9, .one (tI v9))]) .normal (stL 20 [(3, .one (.s .own () 1 ((v3 ++ ([IntKind.wrap .i64 g0])).map etI))), (7, .one (.s .own () 1 (v7.map etY))), (8, .one (tI v8)), (9, .one (tI (IntKind.wrap .i64 (v9 + (1 : Int)))))]) :=
  Round.path [.b true, .row (etY g0), .rows ((v3 ++ ([IntKind.wrap .i64 g0])).map etI)] [fun _ => (decide (v9 < v8)) = true, fun _ => 0 ≤ v9 ∧ v9 < ((v7.map etY).length : Int), fun _ => (v7.map etY)[0 + v9.toNat]? = some (etY g0), fun _ => (((([IntKind.wrap .i64 g0]).map etI).drop 0).take (([IntKind.wrap .i64 g0]).map etI).length).all (fun r => r.all T.flat) = true ∧ ((v3.map etI).length + (((([IntKind.wrap .i64 g0]).map etI).drop 0).take (([IntKind.wrap .i64 g0]).map etI).length).length) * 8 ≤ 140737488355328 ∧ (v3.map etI).length + (((([IntKind.wrap .i64 g0]).map etI).drop 0).take (([IntKind.wrap .i64 g0]).map etI).length).length ≤ 4611686018427387904, fun _ => (v3.map etI) ++ (((([IntKind.wrap .i64 g0]).map etI).drop 0).take (([IntKind.wrap .i64 g0]).map etI).length) = (v3 ++ ([IntKind.wrap .i64 g0])).map etI] (fun k => by kernel_rfl) ⟨Ev.c h0, Ev.c (getLt h1), Ev.c (getRow0 h1), Ev.c (by simp only [List.take_length, List.drop_zero]; exact appOk (fun x => rfl) h2), Ev.c (by simp only [List.take_length, List.drop_zero]; exact appMap), trivial⟩
theorem R155_0_1 (v3 : List Int) (v7 : List Int) (v8 : Int) (v9 : Int) (h0 : (decide (v9 < v8)) = false) : Round E 155 (lpAt Try.f155 0) (stL 20 [(3, .one (.s .own () 1 (v3.map etI))), (7, .one (.s .own () 1 (v7.map etY))), (8, .one (tI v8)), (9, .one (tI v9))]) (.exit 0) (stL 20 [(3, .one (.s .own () 1 (v3.map etI)))]) :=
  Round.path [.b false] [fun _ => (decide (v9 < v8)) = false] (fun k => by kernel_rfl) ⟨Ev.c h0, trivial⟩
theorem L155_0 (n : Nat) : ∀ (v3 : List Int) (v7 : List Int) (v8 : Int) (v9 : Int), Ans (loop155_0 n v3 v7 v8 v9) (Q155_0 v3 v7 v8 v9) := by
  induction n with
  | zero => intros; exact Ans.none
  | succ n ih =>
    intro v3 v7 v8 v9
    unfold loop155_0
    refine Ans.ite (fun h0 => ?_) (fun h0 => ?_)
    · refine Ans.bind (fun g0 h1 => ?_)
      refine Ans.pre (fun h2 => ?_)
      exact (ih (v3 ++ ([IntKind.wrap .i64 g0])) v7 v8 (IntKind.wrap .i64 (v9 + (1 : Int)))).mono fun y hy => by cases y <;> exact Loops.next (R155_0_0 v3 v7 v8 v9 g0 h0 h1 h2) hy
    · exact Ans.some (Loops.stop (R155_0_1 v3 v7 v8 v9 h0) (by intro h; cases h))
theorem P155_0 (x0 : ByteArray) (w0_3 : List Int) (h0 : Loops E 155 (lpAt Try.f155 0) (stL 20 [(3, .one (.s .own () 1 (([] : List Int).map etI))), (7, .one (.s .own () 1 ((strNums x0).map etY))), (8, .one (tI ((strNums x0).length : Int))), (9, .one (tI (0 : Int)))]) (.exit 0) (stL 20 [(3, .one (.s .own () 1 (w0_3.map etI)))])) : Does E 155 [.one (tS x0)] [(false, [.s .own () 1 (w0_3.map etI)])] :=
  Does.path (fn := Try.f155) [.rows ((strNums x0).map etY), .val (.int .i64 ((strNums x0).length : Int)), .lp (.exit 0) (stL 20 [(3, .one (.s .own () 1 (w0_3.map etI)))])] [fun _ => (strRows x0 : List (List (T Unit))) = (strNums x0).map etY, fun _ => (((strNums x0).map etY).length : Int) = ((strNums x0).length : Int), fun k => LoopK E 155 (lpAt Try.f155 0) (stL 20 [(3, .one (.s .own () 1 (([] : List Int).map etI))), (7, .one (.s .own () 1 ((strNums x0).map etY))), (8, .one (tI ((strNums x0).length : Int))), (9, .one (tI (0 : Int)))]) (.exit 0) (stL 20 [(3, .one (.s .own () 1 (w0_3.map etI)))]) k k] rfl rfl (fun k => by kernel_rfl) ⟨Ev.c strRows_map, Ev.c lenMap, Loops.ev h0, trivial⟩
noncomputable def sem155 (n : Nat) (x0 : ByteArray) : Option ((List Int)) :=
    (loop155_0 n ([]) (strNums x0) ((strNums x0).length : Int) (0 : Int)).bind fun y => match y with
      | .x0 w0_3 => (some (w0_3))
theorem D155 (n : Nat) (x0 : ByteArray) : Ans (sem155 n x0) (fun r => Does E 155 [.one (tS x0)] [(false, [.s .own () 1 (r.map etI)])]) := by
  unfold sem155
  refine Ans.bind (fun y hy => ?_)
  replace hy := L155_0 n ([]) (strNums x0) ((strNums x0).length : Int) (0 : Int) y hy
  cases y with
  | x0 w0_3 =>
    have h0 := hy
    exact Ans.some (P155_0 x0 w0_3 h0)
theorem loop155_ok (s : ByteArray) (hs : s.size ≤ 1048576) : ∀ (d i n : Nat), i + d = s.size → d < n → loop155_0 n ((strNums s).take i) (strNums s) (s.size : Int) i = some (.x0 (strNums s))
  | 0, i, n, hi, hn => by
    obtain ⟨n, rfl⟩ : ∃ m, n = m + 1 := ⟨n - 1, by omega⟩
    simp only [loop155_0]
    rw [show decide ((i : Int) < (s.size : Int)) = false from decide_eq_false (by omega), List.take_of_length_le (by rw [strNums_length]; omega)]
    rfl
  | d + 1, i, n, hi, hn => by
    obtain ⟨n, rfl⟩ : ∃ m, n = m + 1 := ⟨n - 1, by omega⟩
    simp only [loop155_0]
    have hg := strNums_get s i (by omega)
    rw [show decide ((i : Int) < (s.size : Int)) = true from decide_eq_true (by omega), getI_nat, hg, wrap1 i (by omega)]
    simp only [cond_true, Option.bind_some]
    rw [strNums_lt s _ (List.mem_of_getElem? hg), if_pos (by constructor <;> (simp [strNums_length]; omega))]
    have e : (strNums s).take i ++ [bytAt s (i : Int)] = (strNums s).take (i + 1) := by rw [List.take_add_one, hg]; rfl
    rw [e]
    exact loop155_ok s hs d (i + 1) n (by omega) (by omega)
theorem T155 (s : ByteArray) (hs : s.size ≤ 1048576) : Does E 155 [.one (tS s)] [(false, [.s .own () 1 ((strNums s).map etI)])] := D155 (s.size + 1) s _ (by
  unfold sem155
  rw [strNums_length]
  rw [show ([] : List Int) = (strNums s).take 0 from rfl, show (0 : Int) = ((0 : Nat) : Int) from rfl, loop155_ok s hs s.size 0 _ (by omega) (by omega)]
  rfl)
-- function 127: loop.example/g00188/impl.ReadConf
theorem L127_0 (x0 : ByteArray) (h0 : (decide ((x0.size : Int) > (4 : Int))) = true) : Does E 127 [.one (tS x0)] [(false, [.s .own () 1 (([] : List Int).map etI)]), (false, [tB false])] :=
  Does.path (fn := Try.f127) [.b true] [fun _ => (decide ((x0.size : Int) > (4 : Int))) = true] rfl rfl (fun k => by kernel_rfl) ⟨Ev.c h0, trivial⟩
theorem L127_1 (x0 : ByteArray) (h0 : (decide ((x0.size : Int) > (4 : Int))) = false) (h1 : x0.size ≤ 1048576) (h2 : (strNums x0).length ≤ 1048576) (h3 : (confOk (strNums x0)) = true) : Does E 127 [.one (tS x0)] [(false, [.s .own () 1 ((strNums x0).map etI)]), (false, [tB true])] :=
  Does.path (fn := Try.f127) [.b false, .ret [(false, [.s .own () 1 ((strNums x0).map etI)])], .ret [(false, [tB true])]] [fun _ => (decide ((x0.size : Int) > (4 : Int))) = false, fun k => E.C k 155 [.one (tS x0)] = some [(false, [.s .own () 1 ((strNums x0).map etI)])], fun k => E.C k 120 [.one (.s .far () 1 ((((strNums x0).map etI).drop 0).take ((strNums x0).map etI).length))] = some [(false, [tB true])]] rfl rfl (fun k => by kernel_rfl) ⟨Ev.c h0, T155 x0 h1, Does.args (by simp only [List.take_length, List.drop_zero]) (Does.to (T120 (strNums x0) h2) (by rw [h3])), trivial⟩
theorem L127_2 (x0 : ByteArray) (h0 : (decide ((x0.size : Int) > (4 : Int))) = false) (h1 : x0.size ≤ 1048576) (h2 : (strNums x0).length ≤ 1048576) (h3 : (confOk (strNums x0)) = false) : Does E 127 [.one (tS x0)] [(false, [.s .own () 1 (([] : List Int).map etI)]), (false, [tB false])] :=
  Does.path (fn := Try.f127) [.b false, .ret [(false, [.s .own () 1 ((strNums x0).map etI)])], .ret [(false, [tB false])]] [fun _ => (decide ((x0.size : Int) > (4 : Int))) = false, fun k => E.C k 155 [.one (tS x0)] = some [(false, [.s .own () 1 ((strNums x0).map etI)])], fun k => E.C k 120 [.one (.s .far () 1 ((((strNums x0).map etI).drop 0).take ((strNums x0).map etI).length))] = some [(false, [tB false])]] rfl rfl (fun k => by kernel_rfl) ⟨Ev.c h0, T155 x0 h1, Does.args (by simp only [List.take_length, List.drop_zero]) (Does.to (T120 (strNums x0) h2) (by rw [h3])), trivial⟩
noncomputable def sem127 (x0 : ByteArray) : Option ((List Int) × Bool) :=
    cond (decide ((x0.size : Int) > (4 : Int)))
      (some (([] : List Int), false))
      (if x0.size ≤ 1048576 then if (strNums x0).length ≤ 1048576 then cond (confOk (strNums x0))
        (some (strNums x0, true))
        (some (([] : List Int), false)) else none else none)
theorem D127 (x0 : ByteArray) : Ans (sem127 x0) (fun r => Does E 127 [.one (tS x0)] [(false, [.s .own () 1 (r.1.map etI)]), (false, [tB r.2])]) := by
  unfold sem127
  refine Ans.ite (fun h0 => ?_) (fun h0 => ?_)
  · exact Ans.some (L127_0 x0 h0)
  · refine Ans.pre (fun h1 => ?_)
    refine Ans.pre (fun h2 => ?_)
    refine Ans.ite (fun h3 => ?_) (fun h3 => ?_)
    · exact Ans.some (L127_1 x0 h0 h1 h2 h3)
    · exact Ans.some (L127_2 x0 h0 h1 h2 h3)
theorem T127 (s : ByteArray) : Does E 127 [.one (tS s)] [(false, [.s .own () 1 ((readConf s).1.map etI)]), (false, [tB (readConf s).2])] := D127 s (readConf s) (by
  unfold sem127 readConf
  by_cases h : s.size ≤ 4
  · rw [show decide ((s.size : Int) > 4) = false from decide_eq_false (by omega), cond_false, if_pos (by omega), if_pos (by rw [strNums_length]; omega)]
    cases confOk (strNums s) <;> rfl
  · rw [show decide ((s.size : Int) > 4) = true from decide_eq_true (by omega), cond_true]
    cases hc : confOk (strNums s)
    · rfl
    · have := confOk_four hc
      rw [strNums_length] at this
      omega)
-- function 113: loop.example/g00188/spec.EntryOk
theorem L113_0 (x0 : S152) (h0 : (inRange x0.f0 (0 : Int) (100000 : Int)) = true) (h1 : (x0.f1 == (1 : Int)) = true) : Does E 113 [.agg (S152.t x0)] [(false, [tB (x0.f2.toList == ByteArray.empty.toList)])] :=
  Does.path (fn := Try.f113) [.ret [(false, [tB true])], .b true] [fun k => E.C k 71 [.one (tI x0.f0), .one (tI (0 : Int)), .one (tI (100000 : Int))] = some [(false, [tB true])], fun _ => (x0.f1 == (1 : Int)) = true] rfl rfl (fun k => by kernel_rfl) ⟨Does.to (T71 x0.f0 (0 : Int) (100000 : Int)) (by rw [h0]), Ev.c h1, trivial⟩
theorem L113_1 (x0 : S152) (h0 : (inRange x0.f0 (0 : Int) (100000 : Int)) = true) (h1 : (x0.f1 == (1 : Int)) = false) (h2 : (x0.f1 == (2 : Int)) = true) : Does E 113 [.agg (S152.t x0)] [(false, [tB ((readConf x0.f2).2)])] :=
  Does.path (fn := Try.f113) [.ret [(false, [tB true])], .b false, .b true, .ret [(false, [.s .own () 1 (((readConf x0.f2).1).map etI)]), (false, [tB ((readConf x0.f2).2)])]] [fun k => E.C k 71 [.one (tI x0.f0), .one (tI (0 : Int)), .one (tI (100000 : Int))] = some [(false, [tB true])], fun _ => (x0.f1 == (1 : Int)) = false, fun _ => (x0.f1 == (2 : Int)) = true, fun k => E.C k 124 [.one (tS x0.f2)] = some [(false, [.s .own () 1 (((readConf x0.f2).1).map etI)]), (false, [tB ((readConf x0.f2).2)])]] rfl rfl (fun k => by kernel_rfl) ⟨Does.to (T71 x0.f0 (0 : Int) (100000 : Int)) (by rw [h0]), Ev.c h1, Ev.c h2, T124 x0.f2, trivial⟩
theorem L113_2 (x0 : S152) (h0 : (inRange x0.f0 (0 : Int) (100000 : Int)) = true) (h1 : (x0.f1 == (1 : Int)) = false) (h2 : (x0.f1 == (2 : Int)) = false) (h3 : (x0.f1 == (3 : Int)) = true) : Does E 113 [.agg (S152.t x0)] [(false, [tB (decide ((x0.f2.size : Int) ≤ (640 : Int)))])] :=
  Does.path (fn := Try.f113) [.ret [(false, [tB true])], .b false, .b false, .b true] [fun k => E.C k 71 [.one (tI x0.f0), .one (tI (0 : Int)), .one (tI (100000 : Int))] = some [(false, [tB true])], fun _ => (x0.f1 == (1 : Int)) = false, fun _ => (x0.f1 == (2 : Int)) = false, fun _ => (x0.f1 == (3 : Int)) = true] rfl rfl (fun k => by kernel_rfl) ⟨Does.to (T71 x0.f0 (0 : Int) (100000 : Int)) (by rw [h0]), Ev.c h1, Ev.c h2, Ev.c h3, trivial⟩
theorem L113_3 (x0 : S152) (h0 : (inRange x0.f0 (0 : Int) (100000 : Int)) = true) (h1 : (x0.f1 == (1 : Int)) = false) (h2 : (x0.f1 == (2 : Int)) = false) (h3 : (x0.f1 == (3 : Int)) = false) : Does E 113 [.agg (S152.t x0)] [(false, [tB false])] :=
  Does.path (fn := Try.f113) [.ret [(false, [tB true])], .b false, .b false, .b false] [fun k => E.C k 71 [.one (tI x0.f0), .one (tI (0 : Int)), .one (tI (100000 : Int))] = some [(false, [tB true])], fun _ => (x0.f1 == (1 : Int)) = false, fun _ => (x0.f1 == (2 : Int)) = false, fun _ => (x0.f1 == (3 : Int)) = false] rfl rfl (fun k => by kernel_rfl) ⟨Does.to (T71 x0.f0 (0 : Int) (100000 : Int)) (by rw [h0]), Ev.c h1, Ev.c h2, Ev.c h3, trivial⟩
theorem L113_4 (x0 : S152) (h0 : (inRange x0.f0 (0 : Int) (100000 : Int)) = false) : Does E 113 [.agg (S152.t x0)] [(false, [tB false])] :=
  Does.path (fn := Try.f113) [.ret [(false, [tB false])]] [fun k => E.C k 71 [.one (tI x0.f0), .one (tI (0 : Int)), .one (tI (100000 : Int))] = some [(false, [tB false])]] rfl rfl (fun k => by kernel_rfl) ⟨Does.to (T71 x0.f0 (0 : Int) (100000 : Int)) (by rw [h0]), trivial⟩
noncomputable def sem113 (x0 : S152) : Option (Bool) :=
    cond (inRange x0.f0 (0 : Int) (100000 : Int))
      (cond (x0.f1 == (1 : Int))
        (some (x0.f2.toList == ByteArray.empty.toList))
        (cond (x0.f1 == (2 : Int))
          (some ((readConf x0.f2).2))
          (cond (x0.f1 == (3 : Int))
            (some (decide ((x0.f2.size : Int) ≤ (640 : Int))))
            (some (false)))))
      (some (false))
theorem D113 (x0 : S152) : Ans (sem113 x0) (fun r => Does E 113 [.agg (S152.t x0)] [(false, [tB r])]) := by
  unfold sem113
  refine Ans.ite (fun h0 => ?_) (fun h0 => ?_)
  · refine Ans.ite (fun h1 => ?_) (fun h1 => ?_)
    · exact Ans.some (L113_0 x0 h0 h1)
    · refine Ans.ite (fun h2 => ?_) (fun h2 => ?_)
      · exact Ans.some (L113_1 x0 h0 h1 h2)
      · refine Ans.ite (fun h3 => ?_) (fun h3 => ?_)
        · exact Ans.some (L113_2 x0 h0 h1 h2 h3)
        · exact Ans.some (L113_3 x0 h0 h1 h2 h3)
  · exact Ans.some (L113_4 x0 h0)
-- function 151: loop.example/g00188/impl.EntryOk
theorem L151_0 (x0 : S152) (h0 : (isTerm x0.f0) = true) (h1 : (x0.f1 == (1 : Int)) = true) : Does E 151 [.agg (S152.t x0)] [(false, [tB (x0.f2.toList == ByteArray.empty.toList)])] :=
  Does.path (fn := Try.f151) [.ret [(false, [tB true])], .b true] [fun k => E.C k 118 [.one (tI x0.f0)] = some [(false, [tB true])], fun _ => (x0.f1 == (1 : Int)) = true] rfl rfl (fun k => by kernel_rfl) ⟨Does.to (T118 x0.f0) (by rw [h0]), Ev.c h1, trivial⟩
theorem L151_1 (x0 : S152) (h0 : (isTerm x0.f0) = true) (h1 : (x0.f1 == (1 : Int)) = false) (h2 : (x0.f1 == (2 : Int)) = true) : Does E 151 [.agg (S152.t x0)] [(false, [tB ((readConf x0.f2).2)])] :=
  Does.path (fn := Try.f151) [.ret [(false, [tB true])], .b false, .b true, .ret [(false, [.s .own () 1 (((readConf x0.f2).1).map etI)]), (false, [tB ((readConf x0.f2).2)])]] [fun k => E.C k 118 [.one (tI x0.f0)] = some [(false, [tB true])], fun _ => (x0.f1 == (1 : Int)) = false, fun _ => (x0.f1 == (2 : Int)) = true, fun k => E.C k 127 [.one (tS x0.f2)] = some [(false, [.s .own () 1 (((readConf x0.f2).1).map etI)]), (false, [tB ((readConf x0.f2).2)])]] rfl rfl (fun k => by kernel_rfl) ⟨Does.to (T118 x0.f0) (by rw [h0]), Ev.c h1, Ev.c h2, T127 x0.f2, trivial⟩
theorem L151_2 (x0 : S152) (h0 : (isTerm x0.f0) = true) (h1 : (x0.f1 == (1 : Int)) = false) (h2 : (x0.f1 == (2 : Int)) = false) (h3 : (x0.f1 == (3 : Int)) = true) : Does E 151 [.agg (S152.t x0)] [(false, [tB (decide ((x0.f2.size : Int) ≤ (640 : Int)))])] :=
  Does.path (fn := Try.f151) [.ret [(false, [tB true])], .b false, .b false, .b true] [fun k => E.C k 118 [.one (tI x0.f0)] = some [(false, [tB true])], fun _ => (x0.f1 == (1 : Int)) = false, fun _ => (x0.f1 == (2 : Int)) = false, fun _ => (x0.f1 == (3 : Int)) = true] rfl rfl (fun k => by kernel_rfl) ⟨Does.to (T118 x0.f0) (by rw [h0]), Ev.c h1, Ev.c h2, Ev.c h3, trivial⟩
theorem L151_3 (x0 : S152) (h0 : (isTerm x0.f0) = true) (h1 : (x0.f1 == (1 : Int)) = false) (h2 : (x0.f1 == (2 : Int)) = false) (h3 : (x0.f1 == (3 : Int)) = false) : Does E 151 [.agg (S152.t x0)] [(false, [tB false])] :=
  Does.path (fn := Try.f151) [.ret [(false, [tB true])], .b false, .b false, .b false] [fun k => E.C k 118 [.one (tI x0.f0)] = some [(false, [tB true])], fun _ => (x0.f1 == (1 : Int)) = false, fun _ => (x0.f1 == (2 : Int)) = false, fun _ => (x0.f1 == (3 : Int)) = false] rfl rfl (fun k => by kernel_rfl) ⟨Does.to (T118 x0.f0) (by rw [h0]), Ev.c h1, Ev.c h2, Ev.c h3, trivial⟩
theorem L151_4 (x0 : S152) (h0 : (isTerm x0.f0) = false) : Does E 151 [.agg (S152.t x0)] [(false, [tB false])] :=
  Does.path (fn := Try.f151) [.ret [(false, [tB false])]] [fun k => E.C k 118 [.one (tI x0.f0)] = some [(false, [tB false])]] rfl rfl (fun k => by kernel_rfl) ⟨Does.to (T118 x0.f0) (by rw [h0]), trivial⟩
noncomputable def sem151 (x0 : S152) : Option (Bool) :=
    cond (isTerm x0.f0)
      (cond (x0.f1 == (1 : Int))
        (some (x0.f2.toList == ByteArray.empty.toList))
        (cond (x0.f1 == (2 : Int))
          (some ((readConf x0.f2).2))
          (cond (x0.f1 == (3 : Int))
            (some (decide ((x0.f2.size : Int) ≤ (640 : Int))))
            (some (false)))))
      (some (false))
theorem D151 (x0 : S152) : Ans (sem151 x0) (fun r => Does E 151 [.agg (S152.t x0)] [(false, [tB r])]) := by
  unfold sem151
  refine Ans.ite (fun h0 => ?_) (fun h0 => ?_)
  · refine Ans.ite (fun h1 => ?_) (fun h1 => ?_)
    · exact Ans.some (L151_0 x0 h0 h1)
    · refine Ans.ite (fun h2 => ?_) (fun h2 => ?_)
      · exact Ans.some (L151_1 x0 h0 h1 h2)
      · refine Ans.ite (fun h3 => ?_) (fun h3 => ?_)
        · exact Ans.some (L151_2 x0 h0 h1 h2 h3)
        · exact Ans.some (L151_3 x0 h0 h1 h2 h3)
  · exact Ans.some (L151_4 x0 h0)
noncomputable def entryOk (x : S152) : Bool := (sem113 x).getD false
theorem sem113_ok (x : S152) : sem113 x = some (entryOk x) := by
  refine Tot.getD ?_ _
  unfold sem113
  repeat' (first | exact Tot.some _ | apply Tot.cond)
theorem T113 (x : S152) : Does E 113 [.agg (S152.t x)] [(false, [tB (entryOk x)])] := D113 x _ (sem113_ok x)
theorem T151 (x : S152) : Does E 151 [.agg (S152.t x)] [(false, [tB (entryOk x)])] := D151 x _ (sem113_ok x)
noncomputable def entriesOk (hi : Int) : List S152 → Int → Bool
  | [], _ => true
  | e :: l, p => entryOk e && (!decide (e.f0 < p) && (!decide (e.f0 > hi) && entriesOk hi l e.f0))
/-- What is known of the entries of a message. -/
noncomputable def sendOk (x : S86) : Bool := entriesOk x.f3 x.f8 x.f5 && (decide ((x.f8.length : Int) ≤ 4) && (x.f0 == 3 || (x.f8.length : Int) == 0))
theorem lstep {α : Type} {a b c d : Bool} {x y : α} : cond a (cond (!b) (cond (!c) (some (cond d x y)) (some y)) (some y)) (some y) = some (cond (a && (!b && (!c && d))) x y) := by
  cases a <;> cases b <;> cases c <;> rfl
end Go.Proofs.Ytbphhigmepdohaa.Am
