/- What the functions under Over do. Conditions: none. -/
import Derived.Test.YtbphhigmepdohaaEnv
namespace Go.Proofs.Ytbphhigmepdohaa.Am
set_option linter.unusedVariables false
set_option linter.unusedSimpArgs false
open Go Go.Proofs Classical
set_option maxRecDepth 100000
set_option linter.unusedVariables false
structure S33 where
  f0 : Int
  f1 : Int
def S33.t (x : S33) : List (T Unit) := [tI x.f0, tI x.f1]
structure S120 where
  f0 : Int
  f1 : Int
  f2 : Int
  f3 : Int
def S120.t (x : S120) : List (T Unit) := [tI x.f0, tI x.f1, tI x.f2, tI x.f3]
structure S36 where
  f0 : ByteArray
  f1 : S33
  f2 : Int
  f3 : List S120
def S36.t (k : Kd) (x : S36) : List (T Unit) := [tS x.f0] ++ S33.t x.f1 ++ [tI x.f2] ++ [.s k () 4 (x.f3.map S120.t)]
structure S42 where
  f0 : ByteArray
  f1 : S33
  f2 : Int
  f3 : List S120
def S42.t (k : Kd) (x : S42) : List (T Unit) := [tS x.f0] ++ S33.t x.f1 ++ [tI x.f2] ++ [.s k () 4 (x.f3.map S120.t)]
def yes {α : Type} (a b : α) : Bool := true
def Tot {α : Type} (o : Option α) : Prop := ∃ b, o = some b
theorem Tot.some {α : Type} (b : α) : Tot (some b) := ⟨b, rfl⟩
theorem Tot.cond {α : Type} {c : Bool} {a b : Option α} (h : Tot a) (g : Tot b) : Tot (cond c a b) := by cases c; exact g; exact h
theorem Tot.getD {α : Type} {o : Option α} (h : Tot o) (d : α) : o = Option.some (o.getD d) := by obtain ⟨b, rfl⟩ := h; rfl
theorem wrap_id (n : Int) (h : -9223372036854775808 ≤ n) (h' : n ≤ 9223372036854775807) : IntKind.wrap .i64 n = n := by
  simp only [IntKind.wrap, IntKind.bits, IntKind.signed]
  simp
  omega
theorem getI_nat {α : Type} (l : List α) (i : Nat) : getI l (i : Int) = l[i]? := by unfold getI; rw [if_pos (by omega)]; simp
theorem wrap1 (i : Nat) (h : i < 4611686018427387904) : IntKind.wrap .i64 ((i : Int) + 1) = ((i + 1 : Nat) : Int) := by rw [wrap_id _ (by omega) (by omega)]; omega
-- function 76: loop.example/g00188/laws.szStateS
theorem L76_0 (x0 : List S120) (x1 : Int) (h0 : (decide ((IntKind.wrap .i64 (x1 - (x0.length : Int))) < (0 : Int))) = true) : Does E 76 [.one (.s .far () 4 (x0.map S120.t)), .one (tI x1)] [(false, [tI (-1 : Int)])] :=
  Does.path (fn := Try.f76) [.val (.int .i64 (x0.length : Int)), .no, .b true] [fun _ => ((x0.map S120.t).length : Int) = (x0.length : Int), fun _ => (decide ((IntKind.wrap .i64 (x1 - (x0.length : Int))) < (0 : Int))) = true] rfl rfl (fun k => by kernel_rfl) ⟨Ev.c lenMap, Ev.c h0, trivial⟩
theorem L76_1 (x0 : List S120) (x1 : Int) (h0 : (decide ((IntKind.wrap .i64 (x1 - (x0.length : Int))) < (0 : Int))) = false) : Does E 76 [.one (.s .far () 4 (x0.map S120.t)), .one (tI x1)] [(false, [tI (IntKind.wrap .i64 (x1 - (x0.length : Int)))])] :=
  Does.path (fn := Try.f76) [.val (.int .i64 (x0.length : Int)), .no, .b false] [fun _ => ((x0.map S120.t).length : Int) = (x0.length : Int), fun _ => (decide ((IntKind.wrap .i64 (x1 - (x0.length : Int))) < (0 : Int))) = false] rfl rfl (fun k => by kernel_rfl) ⟨Ev.c lenMap, Ev.c h0, trivial⟩
noncomputable def sem76 (x0 : List S120) (x1 : Int) : Option (Int) :=
    cond (decide ((IntKind.wrap .i64 (x1 - (x0.length : Int))) < (0 : Int)))
      (some ((-1 : Int)))
      (some (IntKind.wrap .i64 (x1 - (x0.length : Int))))
theorem D76 (x0 : List S120) (x1 : Int) : Ans (sem76 x0 x1) (fun r => Does E 76 [.one (.s .far () 4 (x0.map S120.t)), .one (tI x1)] [(false, [tI r])]) := by
  unfold sem76
  refine Ans.ite (fun h0 => ?_) (fun h0 => ?_)
  · exact Ans.some (L76_0 x0 x1 h0)
  · exact Ans.some (L76_1 x0 x1 h0)
noncomputable def szStates (l : List S120) (n : Int) : Int := (sem76 l n).getD 0
theorem T76 (l : List S120) (n : Int) : Does E 76 [.one (.s .far () 4 (l.map S120.t)), .one (tI n)] [(false, [tI (szStates l n)])] := D76 l n _ (by
  refine Tot.getD ?_ _
  unfold sem76
  repeat' (first | exact Tot.some _ | apply Tot.cond))
-- function 25: loop.example/g00188/laws.szRun
theorem L25_0 (x0 : S36) (x1 : Int) (h0 : (decide ((IntKind.wrap .i64 (x1 - (x0.f0.size : Int))) < (0 : Int))) = true) : Does E 25 [.agg (S36.t .far x0), .one (tI x1)] [(false, [tI (-1 : Int)])] :=
  Does.path (fn := Try.f25) [.no, .b true] [fun _ => (decide ((IntKind.wrap .i64 (x1 - (x0.f0.size : Int))) < (0 : Int))) = true] rfl rfl (fun k => by kernel_rfl) ⟨Ev.c h0, trivial⟩
theorem L25_1 (x0 : S36) (x1 : Int) (h0 : (decide ((IntKind.wrap .i64 (x1 - (x0.f0.size : Int))) < (0 : Int))) = false) (h1 : (decide ((szStates x0.f3 (IntKind.wrap .i64 (x1 - (x0.f0.size : Int)))) < (0 : Int))) = true) : Does E 25 [.agg (S36.t .far x0), .one (tI x1)] [(false, [tI (-1 : Int)])] :=
  Does.path (fn := Try.f25) [.no, .b false, .ret [(false, [tI (szStates x0.f3 (IntKind.wrap .i64 (x1 - (x0.f0.size : Int))))])], .b true] [fun _ => (decide ((IntKind.wrap .i64 (x1 - (x0.f0.size : Int))) < (0 : Int))) = false, fun k => E.C k 76 [.one (.s .far () 4 (x0.f3.map S120.t)), .one (tI (IntKind.wrap .i64 (x1 - (x0.f0.size : Int))))] = some [(false, [tI (szStates x0.f3 (IntKind.wrap .i64 (x1 - (x0.f0.size : Int))))])], fun _ => (decide ((szStates x0.f3 (IntKind.wrap .i64 (x1 - (x0.f0.size : Int)))) < (0 : Int))) = true] rfl rfl (fun k => by kernel_rfl) ⟨Ev.c h0, T76 x0.f3 (IntKind.wrap .i64 (x1 - (x0.f0.size : Int))), Ev.c h1, trivial⟩
theorem L25_2 (x0 : S36) (x1 : Int) (h0 : (decide ((IntKind.wrap .i64 (x1 - (x0.f0.size : Int))) < (0 : Int))) = false) (h1 : (decide ((szStates x0.f3 (IntKind.wrap .i64 (x1 - (x0.f0.size : Int)))) < (0 : Int))) = false) : Does E 25 [.agg (S36.t .far x0), .one (tI x1)] [(false, [tI (szStates x0.f3 (IntKind.wrap .i64 (x1 - (x0.f0.size : Int))))])] :=
  Does.path (fn := Try.f25) [.no, .b false, .ret [(false, [tI (szStates x0.f3 (IntKind.wrap .i64 (x1 - (x0.f0.size : Int))))])], .b false] [fun _ => (decide ((IntKind.wrap .i64 (x1 - (x0.f0.size : Int))) < (0 : Int))) = false, fun k => E.C k 76 [.one (.s .far () 4 (x0.f3.map S120.t)), .one (tI (IntKind.wrap .i64 (x1 - (x0.f0.size : Int))))] = some [(false, [tI (szStates x0.f3 (IntKind.wrap .i64 (x1 - (x0.f0.size : Int))))])], fun _ => (decide ((szStates x0.f3 (IntKind.wrap .i64 (x1 - (x0.f0.size : Int)))) < (0 : Int))) = false] rfl rfl (fun k => by kernel_rfl) ⟨Ev.c h0, T76 x0.f3 (IntKind.wrap .i64 (x1 - (x0.f0.size : Int))), Ev.c h1, trivial⟩
noncomputable def sem25 (x0 : S36) (x1 : Int) : Option (Int) :=
    cond (decide ((IntKind.wrap .i64 (x1 - (x0.f0.size : Int))) < (0 : Int)))
      (some ((-1 : Int)))
      (cond (decide ((szStates x0.f3 (IntKind.wrap .i64 (x1 - (x0.f0.size : Int)))) < (0 : Int)))
        (some ((-1 : Int)))
        (some (szStates x0.f3 (IntKind.wrap .i64 (x1 - (x0.f0.size : Int))))))
theorem D25 (x0 : S36) (x1 : Int) : Ans (sem25 x0 x1) (fun r => Does E 25 [.agg (S36.t .far x0), .one (tI x1)] [(false, [tI r])]) := by
  unfold sem25
  refine Ans.ite (fun h0 => ?_) (fun h0 => ?_)
  · exact Ans.some (L25_0 x0 x1 h0)
  · refine Ans.ite (fun h1 => ?_) (fun h1 => ?_)
    · exact Ans.some (L25_1 x0 x1 h0 h1)
    · exact Ans.some (L25_2 x0 x1 h0 h1)
noncomputable def szRun (x : S36) (n : Int) : Int := (sem25 x n).getD 0
theorem T25 (x : S36) (n : Int) : Does E 25 [.agg (S36.t .far x), .one (tI n)] [(false, [tI (szRun x n)])] := D25 x n _ (by
  refine Tot.getD ?_ _
  unfold sem25
  repeat' (first | exact Tot.some _ | apply Tot.cond))
theorem szRun_short {x : S36} (h0 : x.f0.size ≤ 9223372036854775807) (h3 : x.f3.length ≤ 9223372036854775807) (h : decide (szRun x (1048576 : Int) < (0 : Int)) = false) : x.f3.length ≤ 1048576 := by
  unfold szRun sem25 szStates sem76 at h
  rw [wrap_id _ (by omega) (by omega)] at h
  by_cases h5 : (1048576 : Int) - (x.f0.size : Int) < 0
  · rw [decide_eq_true h5] at h; simp at h
  · rw [decide_eq_false h5, wrap_id _ (by omega) (by omega)] at h
    by_cases h6 : (1048576 : Int) - (x.f0.size : Int) - (x.f3.length : Int) < 0
    · rw [decide_eq_true h6] at h; simp at h
    · omega
-- function 133: loop.example/g00188/laws.toState
theorem L133_0 (x0 : S120)  : Does E 133 [.agg (S120.t x0)] [(true, S120.t x0)] :=
  Does.path (fn := Try.f133) [] [] rfl rfl (fun k => by kernel_rfl) trivial
noncomputable def sem133 (x0 : S120) : Option (S120) :=
    some (x0)
theorem D133 (x0 : S120) : Ans (sem133 x0) (fun r => Does E 133 [.agg (S120.t x0)] [(true, S120.t r)]) := by
  unfold sem133
  exact Ans.some (L133_0 x0)
-- function 77: loop.example/g00188/laws.toSpan
theorem L77_0 (x0 : S33)  : Does E 77 [.agg (S33.t x0)] [(true, S33.t x0)] :=
  Does.path (fn := Try.f77) [] [] rfl rfl (fun k => by kernel_rfl) trivial
noncomputable def sem77 (x0 : S33) : Option (S33) :=
    some (x0)
theorem D77 (x0 : S33) : Ans (sem77 x0) (fun r => Does E 77 [.agg (S33.t x0)] [(true, S33.t r)]) := by
  unfold sem77
  exact Ans.some (L77_0 x0)
theorem T133 (x : S120) : Does E 133 [.agg (S120.t x)] [(true, S120.t (id x))] := D133 x _ rfl
theorem T77 (x : S33) : Does E 77 [.agg (S33.t x)] [(true, S33.t (id x))] := D77 x _ rfl
-- function 78: loop.example/g00188/laws.toStateS
inductive X78_0 where
  | x0 (v3 : List S120)
noncomputable def loop78_0 : Nat → (List S120) → (List S120) → Int → Option X78_0
  | 0, _, _, _ => none
  | n + 1, v0, v3, v4 => cond (decide (v4 < (v0.length : Int)))
    ((getI v0 v4).bind fun g0 => (getI v3 v4).bind fun g1 => loop78_0 n v0 (v3.set v4.toNat (id g0)) (IntKind.wrap .i64 (v4 + (1 : Int))))
    (some (.x0 v3))
def Q78_0 (v0 : List S120) (v3 : List S120) (v4 : Int) : X78_0 → Prop
  | .x0 zv3 => Loops E 78 (lpAt Try.f78 0) (stL 23 [(0, .one (.s .far () 4 (v0.map S120.t))), (3, .one (.s .own () 4 (v3.map S120.t))), (4, .one (tI v4))]) (.exit 0) (stL 23 [(3, .one (.s .own () 4 (zv3.map S120.t)))])
theorem R78_0_0 (v0 : List S120) (v3 : List S120) (v4 : Int) (g0 : S120) (g1 : S120) (h0 : (decide (v4 < (v0.length : Int))) = true) (h1 : getI v0 v4 = some g0) (h2 : getI v3 v4 = some g1) : Round E 78 (lpAt Try.f78 0) (stL 23 [(0, .one (.s .far () 4 (v0.map S120.t))), (3, .one (.s .own () 4 (v3.map S120.t))), (4, .one (tI v4))]) .normal (stL 23 [(0, .one (.s .far () 4 (v0.map S120.t))), (3, .one (.s .own () 4 ((v3.set v4.toNat (id g0)).map S120.t))), (4, .one (tI (IntKind.wrap .i64 (v4 + (1 : Int)))))]) :=
  Round.path [.val (.int .i64 (v0.length : Int)), .b true, .row (S120.t g0), .ret [(true, S120.t (id g0))], .row (S120.t g1), .rows ((v3.set v4.toNat (id g0)).map S120.t)] [fun _ => ((v0.map S120.t).length : Int) = (v0.length : Int), fun _ => (decide (v4 < (v0.length : Int))) = true, fun _ => 0 ≤ v4 ∧ (v0.map S120.t)[v4.toNat]? = some (S120.t g0), fun k => E.C k 133 [.agg (S120.t g0)] = some [(true, S120.t (id g0))], fun _ => 0 ≤ v4 ∧ v4 < ((v3.map S120.t).length : Int), fun _ => (v3.map S120.t)[0 + v4.toNat]? = some (S120.t g1), fun _ => (v3.map S120.t).set (0 + v4.toNat) (spliceAt (S120.t g1) 0 [tI ((id g0).f0), tI ((id g0).f1), tI ((id g0).f2), tI ((id g0).f3)]) = (v3.set v4.toNat (id g0)).map S120.t] (fun k => by kernel_rfl) ⟨Ev.c lenMap, Ev.c h0, Ev.c (getRow h1), T133 g0, Ev.c (getLt h2), Ev.c (getRow0 h2), Ev.c (setMap (by rfl)), trivial⟩
theorem R78_0_1 (v0 : List S120) (v3 : List S120) (v4 : Int) (h0 : (decide (v4 < (v0.length : Int))) = false) : Round E 78 (lpAt Try.f78 0) (stL 23 [(0, .one (.s .far () 4 (v0.map S120.t))), (3, .one (.s .own () 4 (v3.map S120.t))), (4, .one (tI v4))]) (.exit 0) (stL 23 [(3, .one (.s .own () 4 (v3.map S120.t)))]) :=
  Round.path [.val (.int .i64 (v0.length : Int)), .b false] [fun _ => ((v0.map S120.t).length : Int) = (v0.length : Int), fun _ => (decide (v4 < (v0.length : Int))) = false] (fun k => by kernel_rfl) ⟨Ev.c lenMap, Ev.c h0, trivial⟩
theorem L78_0 (n : Nat) : ∀ (v0 : List S120) (v3 : List S120) (v4 : Int), Ans (loop78_0 n v0 v3 v4) (Q78_0 v0 v3 v4) := by
  induction n with
  | zero => intros; exact Ans.none
  | succ n ih =>
    intro v0 v3 v4
    unfold loop78_0
    refine Ans.ite (fun h0 => ?_) (fun h0 => ?_)
    · refine Ans.bind (fun g0 h1 => ?_)
      refine Ans.bind (fun g1 h2 => ?_)
      exact (ih v0 (v3.set v4.toNat (id g0)) (IntKind.wrap .i64 (v4 + (1 : Int)))).mono fun y hy => by cases y <;> exact Loops.next (R78_0_0 v0 v3 v4 g0 g1 h0 h1 h2) hy
    · exact Ans.some (Loops.stop (R78_0_1 v0 v3 v4 h0) (by intro h; cases h))
theorem P78_0 (x0 : List S120) (w0_3 : List S120) (h0 : 0 ≤ (x0.length : Int) ∧ (x0.length : Int) ≤ (x0.length : Int) ∧ ((32 : Nat) : Int) * (x0.length : Int) ≤ 281474976710656 ∧ (x0.length : Int) ≤ 4611686018427387904) (h1 : Loops E 78 (lpAt Try.f78 0) (stL 23 [(0, .one (.s .far () 4 (x0.map S120.t))), (3, .one (.s .own () 4 ((List.replicate (x0.length : Int).toNat (S120.mk (0 : Int) (0 : Int) (0 : Int) (0 : Int))).map S120.t))), (4, .one (tI (0 : Int)))]) (.exit 0) (stL 23 [(3, .one (.s .own () 4 (w0_3.map S120.t)))])) : Does E 78 [.one (.s .far () 4 (x0.map S120.t))] [(false, [.s .own () 4 (w0_3.map S120.t)])] :=
  Does.path (fn := Try.f78) [.val (.int .i64 (x0.length : Int)), .rows ((List.replicate (x0.length : Int).toNat (S120.mk (0 : Int) (0 : Int) (0 : Int) (0 : Int))).map S120.t), .lp (.exit 0) (stL 23 [(3, .one (.s .own () 4 (w0_3.map S120.t)))])] [fun _ => ((x0.map S120.t).length : Int) = (x0.length : Int), fun _ => 0 ≤ (x0.length : Int) ∧ (x0.length : Int) ≤ (x0.length : Int) ∧ ((32 : Nat) : Int) * (x0.length : Int) ≤ 281474976710656 ∧ (x0.length : Int) ≤ 4611686018427387904, fun _ => List.replicate (x0.length : Int).toNat [tI (0 : Int), tI (0 : Int), tI (0 : Int), tI (0 : Int)] = (List.replicate (x0.length : Int).toNat (S120.mk (0 : Int) (0 : Int) (0 : Int) (0 : Int))).map S120.t, fun k => LoopK E 78 (lpAt Try.f78 0) (stL 23 [(0, .one (.s .far () 4 (x0.map S120.t))), (3, .one (.s .own () 4 ((List.replicate (x0.length : Int).toNat (S120.mk (0 : Int) (0 : Int) (0 : Int) (0 : Int))).map S120.t))), (4, .one (tI (0 : Int)))]) (.exit 0) (stL 23 [(3, .one (.s .own () 4 (w0_3.map S120.t)))]) k k] rfl rfl (fun k => by kernel_rfl) ⟨Ev.c lenMap, Ev.c h0, Ev.c (repMap rfl), Loops.ev h1, trivial⟩
noncomputable def sem78 (n : Nat) (x0 : List S120) : Option ((List S120)) :=
    if 0 ≤ (x0.length : Int) ∧ (x0.length : Int) ≤ (x0.length : Int) ∧ ((32 : Nat) : Int) * (x0.length : Int) ≤ 281474976710656 ∧ (x0.length : Int) ≤ 4611686018427387904 then (loop78_0 n x0 (List.replicate (x0.length : Int).toNat (S120.mk (0 : Int) (0 : Int) (0 : Int) (0 : Int))) (0 : Int)).bind fun y => match y with
      | .x0 w0_3 => (some (w0_3)) else none
theorem D78 (n : Nat) (x0 : List S120) : Ans (sem78 n x0) (fun r => Does E 78 [.one (.s .far () 4 (x0.map S120.t))] [(false, [.s .own () 4 (r.map S120.t)])]) := by
  unfold sem78
  refine Ans.pre (fun h0 => ?_)
  refine Ans.bind (fun y hy => ?_)
  replace hy := L78_0 n x0 (List.replicate (x0.length : Int).toNat (S120.mk (0 : Int) (0 : Int) (0 : Int) (0 : Int))) (0 : Int) y hy
  cases y with
  | x0 w0_3 =>
    have h1 := hy
    exact Ans.some (P78_0 x0 w0_3 h0 h1)
theorem take_set {l v : List S120} {i : Nat} (hi : i < l.length) (hv : v.length = l.length) (h : v.take i = l.take i) : (v.set i l[i]).take (i + 1) = l.take (i + 1) := by
  rw [List.take_add_one, List.take_add_one, List.getElem?_set_self (by omega), List.getElem?_eq_getElem hi]
  congr 1
  rw [List.take_set_of_le (Nat.le_refl i)]
  exact h
theorem loop78_ok (l : List S120) (hl : l.length ≤ 1048576) : ∀ (d i n : Nat) (v : List S120), i + d = l.length → d < n → v.length = l.length → v.take i = l.take i → loop78_0 n l v i = some (.x0 l)
  | 0, i, n, v, hi, hn, hv, h => by
    obtain ⟨n, rfl⟩ : ∃ m, n = m + 1 := ⟨n - 1, by omega⟩
    simp only [loop78_0]
    rw [show decide ((i : Int) < (l.length : Int)) = false from decide_eq_false (by omega)]
    have : v = l := by
      have e1 : v.take i = v := List.take_of_length_le (by omega)
      have e2 : l.take i = l := List.take_of_length_le (by omega)
      rw [← e1, h, e2]
    rw [this]; rfl
  | d + 1, i, n, v, hi, hn, hv, h => by
    obtain ⟨n, rfl⟩ : ∃ m, n = m + 1 := ⟨n - 1, by omega⟩
    have hil : i < l.length := by omega
    simp only [loop78_0]
    rw [show decide ((i : Int) < (l.length : Int)) = true from decide_eq_true (by omega), getI_nat, getI_nat, List.getElem?_eq_getElem hil, List.getElem?_eq_getElem (by omega : i < v.length), wrap1 i (by omega)]
    simp only [cond_true, Option.bind_some, Int.toNat_natCast, id]
    exact loop78_ok l hl d (i + 1) n _ (by omega) (by omega) (by simp [hv]) (take_set hil hv h)
theorem T78 (l : List S120) (hl : l.length ≤ 1048576) : Does E 78 [.one (.s .far () 4 (l.map S120.t))] [(false, [.s .own () 4 ((id l).map S120.t)])] := D78 (l.length + 1) l _ (by
  unfold sem78
  rw [if_pos ⟨by omega, by omega, by omega, by omega⟩, show (0 : Int) = ((0 : Nat) : Int) from rfl, loop78_ok l hl l.length 0 _ _ (by omega) (by omega) (by simp) (by simp)]
  rfl)
-- function 27: loop.example/g00188/laws.toRun
theorem L27_0 (x0 : S36) (h0 : x0.f3.length ≤ 1048576) : Does E 27 [.agg (S36.t .far x0)] [(true, S42.t .own (S42.mk x0.f0 (id x0.f1) x0.f2 (id x0.f3)))] :=
  Does.path (fn := Try.f27) [.ret [(true, S33.t (id x0.f1))], .ret [(false, [.s .own () 4 ((id x0.f3).map S120.t)])]] [fun k => E.C k 77 [.agg (S33.t x0.f1)] = some [(true, S33.t (id x0.f1))], fun k => E.C k 78 [.one (.s .far () 4 (x0.f3.map S120.t))] = some [(false, [.s .own () 4 ((id x0.f3).map S120.t)])]] rfl rfl (fun k => by kernel_rfl) ⟨T77 x0.f1, T78 x0.f3 h0, trivial⟩
noncomputable def sem27 (x0 : S36) : Option (S42) :=
    if x0.f3.length ≤ 1048576 then some ((S42.mk x0.f0 (id x0.f1) x0.f2 (id x0.f3))) else none
theorem D27 (x0 : S36) : Ans (sem27 x0) (fun r => Does E 27 [.agg (S36.t .far x0)] [(true, S42.t .own r)]) := by
  unfold sem27
  refine Ans.pre (fun h0 => ?_)
  exact Ans.some (L27_0 x0 h0)
def toRun (x : S36) : S42 := ⟨x.f0, x.f1, x.f2, x.f3⟩
theorem T27 (x : S36) (h : x.f3.length ≤ 1048576) : Does E 27 [.agg (S36.t .far x)] [(true, S42.t .own (toRun x))] := D27 x _ (by unfold sem27; rw [if_pos h]; rfl)
def isOpen (s : S120) : Bool := s.f0 == 0 || s.f0 == 1
def over (x : S42) : Bool := !x.f3.any isOpen
-- function 26: loop.example/g00188/spec.Over
inductive X26_0 where
  | ret (v2 : Bool)
  | x0 
noncomputable def loop26_0 : Nat → ByteArray → Int → Int → Int → (List S120) → Int → Option X26_0
  | 0, _, _, _, _, _, _ => none
  | n + 1, v1_0, v1_1, v1_2, v1_3, v1_4, v3 => cond (decide (v3 < (v1_4.length : Int)))
    ((getI v1_4 v3).bind fun g0 => cond (g0.f0 == (0 : Int))
      (some (.ret false))
      (cond (g0.f0 == (1 : Int))
        (some (.ret false))
        (loop26_0 n v1_0 v1_1 v1_2 v1_3 v1_4 (IntKind.wrap .i64 (v3 + (1 : Int))))))
    (some (.x0))
def Q26_0 (v1_0 : ByteArray) (v1_1 : Int) (v1_2 : Int) (v1_3 : Int) (v1_4 : List S120) (v3 : Int) : X26_0 → Prop
  | .ret zv2 => Loops E 26 (lpAt Try.f26 0) (stL 27 [(1, .box () [tS v1_0, tI v1_1, tI v1_2, tI v1_3, .s .far () 4 (v1_4.map S120.t)]), (3, .one (tI v3))]) .ret (stL 27 [(2, .one (tB zv2))])
  | .x0 => Loops E 26 (lpAt Try.f26 0) (stL 27 [(1, .box () [tS v1_0, tI v1_1, tI v1_2, tI v1_3, .s .far () 4 (v1_4.map S120.t)]), (3, .one (tI v3))]) (.exit 0) (stL 27 [])
theorem R26_0_0 (v1_0 : ByteArray) (v1_1 : Int) (v1_2 : Int) (v1_3 : Int) (v1_4 : List S120) (v3 : Int) (g0 : S120) (h0 : (decide (v3 < (v1_4.length : Int))) = true) (h1 : getI v1_4 v3 = some g0) (h2 : (g0.f0 == (0 : Int)) = true) : Round E 26 (lpAt Try.f26 0) (stL 27 [(1, .box () [tS v1_0, tI v1_1, tI v1_2, tI v1_3, .s .far () 4 (v1_4.map S120.t)]), (3, .one (tI v3))]) .ret (stL 27 [(2, .one (tB false))]) :=
  Round.path [.val (.int .i64 (v1_4.length : Int)), .b true, .row (S120.t g0), .b true] [fun _ => ((v1_4.map S120.t).length : Int) = (v1_4.length : Int), fun _ => (decide (v3 < (v1_4.length : Int))) = true, fun _ => 0 ≤ v3 ∧ (v1_4.map S120.t)[v3.toNat]? = some (S120.t g0), fun _ => (g0.f0 == (0 : Int)) = true] (fun k => by kernel_rfl) ⟨Ev.c lenMap, Ev.c h0, Ev.c (getRow h1), Ev.c h2, trivial⟩
theorem R26_0_1 (v1_0 : ByteArray) (v1_1 : Int) (v1_2 : Int) (v1_3 : Int) (v1_4 : List S120) (v3 : Int) (g0 : S120) (h0 : (decide (v3 < (v1_4.length : Int))) = true) (h1 : getI v1_4 v3 = some g0) (h2 : (g0.f0 == (0 : Int)) = false) (h3 : (g0.f0 == (1 : Int)) = true) : Round E 26 (lpAt Try.f26 0) (stL 27 [(1, .box () [tS v1_0, tI v1_1, tI v1_2, tI v1_3, .s .far () 4 (v1_4.map S120.t)]), (3, .one (tI v3))]) .ret (stL 27 [(2, .one (tB false))]) :=
  Round.path [.val (.int .i64 (v1_4.length : Int)), .b true, .row (S120.t g0), .b false, .row (S120.t g0), .b true] [fun _ => ((v1_4.map S120.t).length : Int) = (v1_4.length : Int), fun _ => (decide (v3 < (v1_4.length : Int))) = true, fun _ => 0 ≤ v3 ∧ (v1_4.map S120.t)[v3.toNat]? = some (S120.t g0), fun _ => (g0.f0 == (0 : Int)) = false, fun _ => 0 ≤ v3 ∧ (v1_4.map S120.t)[v3.toNat]? = some (S120.t g0), fun _ => (g0.f0 == (1 : Int)) = true] (fun k => by kernel_rfl) ⟨Ev.c lenMap, Ev.c h0, Ev.c (getRow h1), Ev.c h2, Ev.c (getRow h1), Ev.c h3, trivial⟩
theorem R26_0_2 (v1_0 : ByteArray) (v1_1 : Int) (v1_2 : Int) (v1_3 : Int) (v1_4 : List S120) (v3 : Int) (g0 : S120) (h0 : (decide (v3 < (v1_4.length : Int))) = true) (h1 : getI v1_4 v3 = some g0) (h2 : (g0.f0 == (0 : Int)) = false) (h3 : (g0.f0 == (1 : Int)) = false) : Round E 26 (lpAt Try.f26 0) (stL 27 [(1, .box () [tS v1_0, tI v1_1, tI v1_2, tI v1_3, .s .far () 4 (v1_4.map S120.t)]), (3, .one (tI v3))]) .normal (stL 27 [(1, .box () [tS v1_0, tI v1_1, tI v1_2, tI v1_3, .s .far () 4 (v1_4.map S120.t)]), (3, .one (tI (IntKind.wrap .i64 (v3 + (1 : Int)))))]) :=
  Round.path [.val (.int .i64 (v1_4.length : Int)), .b true, .row (S120.t g0), .b false, .row (S120.t g0), .b false] [fun _ => ((v1_4.map S120.t).length : Int) = (v1_4.length : Int), fun _ => (decide (v3 < (v1_4.length : Int))) = true, fun _ => 0 ≤ v3 ∧ (v1_4.map S120.t)[v3.toNat]? = some (S120.t g0), fun _ => (g0.f0 == (0 : Int)) = false, fun _ => 0 ≤ v3 ∧ (v1_4.map S120.t)[v3.toNat]? = some (S120.t g0), fun _ => (g0.f0 == (1 : Int)) = false] (fun k => by kernel_rfl) ⟨Ev.c lenMap, Ev.c h0, Ev.c (getRow h1), Ev.c h2, Ev.c (getRow h1), Ev.c h3, trivial⟩
theorem R26_0_3 (v1_0 : ByteArray) (v1_1 : Int) (v1_2 : Int) (v1_3 : Int) (v1_4 : List S120) (v3 : Int) (h0 : (decide (v3 < (v1_4.length : Int))) = false) : Round E 26 (lpAt Try.f26 0) (stL 27 [(1, .box () [tS v1_0, tI v1_1, tI v1_2, tI v1_3, .s .far () 4 (v1_4.map S120.t)]), (3, .one (tI v3))]) (.exit 0) (stL 27 []) :=
  Round.path [.val (.int .i64 (v1_4.length : Int)), .b false] [fun _ => ((v1_4.map S120.t).length : Int) = (v1_4.length : Int), fun _ => (decide (v3 < (v1_4.length : Int))) = false] (fun k => by kernel_rfl) ⟨Ev.c lenMap, Ev.c h0, trivial⟩
theorem L26_0 (n : Nat) : ∀ (v1_0 : ByteArray) (v1_1 : Int) (v1_2 : Int) (v1_3 : Int) (v1_4 : List S120) (v3 : Int), Ans (loop26_0 n v1_0 v1_1 v1_2 v1_3 v1_4 v3) (Q26_0 v1_0 v1_1 v1_2 v1_3 v1_4 v3) := by
  induction n with
  | zero => intros; exact Ans.none
  | succ n ih =>
    intro v1_0 v1_1 v1_2 v1_3 v1_4 v3
    unfold loop26_0
    refine Ans.ite (fun h0 => ?_) (fun h0 => ?_)
    · refine Ans.bind (fun g0 h1 => ?_)
      refine Ans.ite (fun h2 => ?_) (fun h2 => ?_)
      · exact Ans.some (Loops.stop (R26_0_0 v1_0 v1_1 v1_2 v1_3 v1_4 v3 g0 h0 h1 h2) (by intro h; cases h))
      · refine Ans.ite (fun h3 => ?_) (fun h3 => ?_)
        · exact Ans.some (Loops.stop (R26_0_1 v1_0 v1_1 v1_2 v1_3 v1_4 v3 g0 h0 h1 h2 h3) (by intro h; cases h))
        · exact (ih v1_0 v1_1 v1_2 v1_3 v1_4 (IntKind.wrap .i64 (v3 + (1 : Int)))).mono fun y hy => by cases y <;> exact Loops.next (R26_0_2 v1_0 v1_1 v1_2 v1_3 v1_4 v3 g0 h0 h1 h2 h3) hy
    · exact Ans.some (Loops.stop (R26_0_3 v1_0 v1_1 v1_2 v1_3 v1_4 v3 h0) (by intro h; cases h))
theorem P26_0 (x0 : S42) (w0_2 : Bool) (h0 : Loops E 26 (lpAt Try.f26 0) (stL 27 [(1, .box () [tS x0.f0, tI x0.f1.f0, tI x0.f1.f1, tI x0.f2, .s .far () 4 (x0.f3.map S120.t)]), (3, .one (tI (0 : Int)))]) .ret (stL 27 [(2, .one (tB w0_2))])) : Does E 26 [.agg (S42.t .far x0)] [(false, [tB w0_2])] :=
  Does.path (fn := Try.f26) [.lp .ret (stL 27 [(2, .one (tB w0_2))])] [fun k => LoopK E 26 (lpAt Try.f26 0) (stL 27 [(1, .box () [tS x0.f0, tI x0.f1.f0, tI x0.f1.f1, tI x0.f2, .s .far () 4 (x0.f3.map S120.t)]), (3, .one (tI (0 : Int)))]) .ret (stL 27 [(2, .one (tB w0_2))]) k k] rfl rfl (fun k => by kernel_rfl) ⟨Loops.ev h0, trivial⟩
theorem P26_1 (x0 : S42) (h0 : Loops E 26 (lpAt Try.f26 0) (stL 27 [(1, .box () [tS x0.f0, tI x0.f1.f0, tI x0.f1.f1, tI x0.f2, .s .far () 4 (x0.f3.map S120.t)]), (3, .one (tI (0 : Int)))]) (.exit 0) (stL 27 [])) : Does E 26 [.agg (S42.t .far x0)] [(false, [tB true])] :=
  Does.path (fn := Try.f26) [.lp (.exit 0) (stL 27 [])] [fun k => LoopK E 26 (lpAt Try.f26 0) (stL 27 [(1, .box () [tS x0.f0, tI x0.f1.f0, tI x0.f1.f1, tI x0.f2, .s .far () 4 (x0.f3.map S120.t)]), (3, .one (tI (0 : Int)))]) (.exit 0) (stL 27 []) k k] rfl rfl (fun k => by kernel_rfl) ⟨Loops.ev h0, trivial⟩
noncomputable def sem26 (n : Nat) (x0 : S42) : Option (Bool) :=
    (loop26_0 n x0.f0 x0.f1.f0 x0.f1.f1 x0.f2 x0.f3 (0 : Int)).bind fun y => match y with
      | .ret w0_2 => (some (w0_2))
      | .x0 => (some (true))
theorem D26 (n : Nat) (x0 : S42) : Ans (sem26 n x0) (fun r => Does E 26 [.agg (S42.t .far x0)] [(false, [tB r])]) := by
  unfold sem26
  refine Ans.bind (fun y hy => ?_)
  replace hy := L26_0 n x0.f0 x0.f1.f0 x0.f1.f1 x0.f2 x0.f3 (0 : Int) y hy
  cases y with
  | ret w0_2 =>
    have h0 := hy
    exact Ans.some (P26_0 x0 w0_2 h0)
  | x0 =>
    have h0 := hy
    exact Ans.some (P26_1 x0 h0)
theorem loop26_ok (a : ByteArray) (b c d : Int) (l : List S120) (hl : l.length ≤ 1048576) : ∀ (k i n : Nat), i + k = l.length → k < n → loop26_0 n a b c d l i = some (cond ((l.drop i).any isOpen) (.ret false) .x0)
  | 0, i, n, hi, hn => by
    obtain ⟨n, rfl⟩ : ∃ m, n = m + 1 := ⟨n - 1, by omega⟩
    simp only [loop26_0]
    rw [show decide ((i : Int) < (l.length : Int)) = false from decide_eq_false (by omega), List.drop_of_length_le (by omega)]
    rfl
  | k + 1, i, n, hi, hn => by
    obtain ⟨n, rfl⟩ : ∃ m, n = m + 1 := ⟨n - 1, by omega⟩
    have hil : i < l.length := by omega
    have ih := loop26_ok a b c d l hl k (i + 1) n (by omega) (by omega)
    simp only [loop26_0]
    rw [show decide ((i : Int) < (l.length : Int)) = true from decide_eq_true (by omega), getI_nat, List.getElem?_eq_getElem hil, wrap1 i (by omega)]
    simp only [cond_true, Option.bind_some]
    rw [ih, List.drop_eq_getElem_cons hil, List.any_cons]
    unfold isOpen
    cases l[i].f0 == 0 <;> cases l[i].f0 == 1 <;> rfl
theorem T26 (x : S42) (h : x.f3.length ≤ 1048576) : Does E 26 [.agg (S42.t .far x)] [(false, [tB (over x)])] := D26 (x.f3.length + 1) x _ (by
  unfold sem26 over
  rw [show (0 : Int) = ((0 : Nat) : Int) from rfl, loop26_ok _ _ _ _ _ h x.f3.length 0 _ (by omega) (by omega), List.drop_zero]
  cases x.f3.any isOpen <;> rfl)
-- function 80: loop.example/g00188/impl.Over$1
theorem L80_0 (x0 : S120) (h0 : (x0.f0 == (0 : Int)) = true) : Does E 80 [.agg (S120.t x0)] [(false, [tB true])] :=
  Does.path (fn := Try.f80) [.b true] [fun _ => (x0.f0 == (0 : Int)) = true] rfl rfl (fun k => by kernel_rfl) ⟨Ev.c h0, trivial⟩
theorem L80_1 (x0 : S120) (h0 : (x0.f0 == (0 : Int)) = false) : Does E 80 [.agg (S120.t x0)] [(false, [tB (x0.f0 == (1 : Int))])] :=
  Does.path (fn := Try.f80) [.b false] [fun _ => (x0.f0 == (0 : Int)) = false] rfl rfl (fun k => by kernel_rfl) ⟨Ev.c h0, trivial⟩
noncomputable def sem80 (x0 : S120) : Option (Bool) :=
    cond (x0.f0 == (0 : Int))
      (some (true))
      (some (x0.f0 == (1 : Int)))
theorem D80 (x0 : S120) : Ans (sem80 x0) (fun r => Does E 80 [.agg (S120.t x0)] [(false, [tB r])]) := by
  unfold sem80
  refine Ans.ite (fun h0 => ?_) (fun h0 => ?_)
  · exact Ans.some (L80_0 x0 h0)
  · exact Ans.some (L80_1 x0 h0)
theorem T80 (s : S120) : Does E 80 [.agg (S120.t s)] [(false, [tB (isOpen s)])] := D80 s _ (by unfold sem80 isOpen; cases s.f0 == 0 <;> rfl)
/-- Where the first that is open stands. -/
def firstOpen (l : List S120) : Int := if l.any isOpen then (l.findIdx isOpen : Int) else -1
-- function 134_80: slices.IndexFunc[[]loop.example/g00188/impl.State,loop.example/g00188/impl.State]
inductive X134_80_0 where
  | ret (v4 : Int)
  | x0 
noncomputable def loop134_80_0 : Nat → (List S120) → Int → Int → Option X134_80_0
  | 0, _, _, _ => none
  | n + 1, v0, v7, v8 => cond (decide (v8 < v7))
    ((getI v0 v8).bind fun g0 => cond (isOpen g0)
      (some (.ret v8))
      (loop134_80_0 n v0 v7 (IntKind.wrap .i64 (v8 + (1 : Int)))))
    (some (.x0))
def Q134_80_0 (v0 : List S120) (v7 : Int) (v8 : Int) : X134_80_0 → Prop
  | .ret zv4 => Loops E 134 (lpAt Try.f134 0) (stL 19 [(0, .one (.s .far () 4 (v0.map S120.t))), (1, .fni 80 []), (7, .one (tI v7)), (8, .one (tI v8))]) .ret (stL 19 [(4, .one (tI zv4))])
  | .x0 => Loops E 134 (lpAt Try.f134 0) (stL 19 [(0, .one (.s .far () 4 (v0.map S120.t))), (1, .fni 80 []), (7, .one (tI v7)), (8, .one (tI v8))]) (.exit 0) (stL 19 [])
theorem R134_80_0_0 (v0 : List S120) (v7 : Int) (v8 : Int) (g0 : S120) (h0 : (decide (v8 < v7)) = true) (h1 : getI v0 v8 = some g0) (h2 : (isOpen g0) = true) : Round E 134 (lpAt Try.f134 0) (stL 19 [(0, .one (.s .far () 4 (v0.map S120.t))), (1, .fni 80 []), (7, .one (tI v7)), (8, .one (tI v8))]) .ret (stL 19 [(4, .one (tI v8))]) :=
  Round.path [.b true, .row (S120.t g0), .ret [(false, [tB true])]] [fun _ => (decide (v8 < v7)) = true, fun _ => 0 ≤ v8 ∧ (v0.map S120.t)[v8.toNat]? = some (S120.t g0), fun k => E.C k 80 [.agg (S120.t g0)] = some [(false, [tB true])]] (fun k => by kernel_rfl) ⟨Ev.c h0, Ev.c (getRow h1), Does.to (T80 g0) (by rw [h2]), trivial⟩
theorem R134_80_0_1 (v0 : List S120) (v7 : Int) (v8 : Int) (g0 : S120) (h0 : (decide (v8 < v7)) = true) (h1 : getI v0 v8 = some g0) (h2 : (isOpen g0) = false) : Round E 134 (lpAt Try.f134 0) (stL 19 [(0, .one (.s .far () 4 (v0.map S120.t))), (1, .fni 80 []), (7, .one (tI v7)), (8, .one (tI v8))]) .normal (stL 19 [(0, .one (.s .far () 4 (v0.map S120.t))), (1, .fni 80 []), (7, .one (tI v7)), (8, .one (tI (IntKind.wrap .i64 (v8 + (1 : Int)))))]) :=
  Round.path [.b true, .row (S120.t g0), .ret [(false, [tB false])]] [fun _ => (decide (v8 < v7)) = true, fun _ => 0 ≤ v8 ∧ (v0.map S120.t)[v8.toNat]? = some (S120.t g0), fun k => E.C k 80 [.agg (S120.t g0)] = some [(false, [tB false])]] (fun k => by kernel_rfl) ⟨Ev.c h0, Ev.c (getRow h1), Does.to (T80 g0) (by rw [h2]), trivial⟩
theorem R134_80_0_2 (v0 : List S120) (v7 : Int) (v8 : Int) (h0 : (decide (v8 < v7)) = false) : Round E 134 (lpAt Try.f134 0) (stL 19 [(0, .one (.s .far () 4 (v0.map S120.t))), (1, .fni 80 []), (7, .one (tI v7)), (8, .one (tI v8))]) (.exit 0) (stL 19 []) :=
  Round.path [.b false] [fun _ => (decide (v8 < v7)) = false] (fun k => by kernel_rfl) ⟨Ev.c h0, trivial⟩
theorem L134_80_0 (n : Nat) : ∀ (v0 : List S120) (v7 : Int) (v8 : Int), Ans (loop134_80_0 n v0 v7 v8) (Q134_80_0 v0 v7 v8) := by
  induction n with
  | zero => intros; exact Ans.none
  | succ n ih =>
    intro v0 v7 v8
    unfold loop134_80_0
    refine Ans.ite (fun h0 => ?_) (fun h0 => ?_)
    · refine Ans.bind (fun g0 h1 => ?_)
      refine Ans.ite (fun h2 => ?_) (fun h2 => ?_)
      · exact Ans.some (Loops.stop (R134_80_0_0 v0 v7 v8 g0 h0 h1 h2) (by intro h; cases h))
      · exact (ih v0 v7 (IntKind.wrap .i64 (v8 + (1 : Int)))).mono fun y hy => by cases y <;> exact Loops.next (R134_80_0_1 v0 v7 v8 g0 h0 h1 h2) hy
    · exact Ans.some (Loops.stop (R134_80_0_2 v0 v7 v8 h0) (by intro h; cases h))
theorem P134_80_0 (x0 : List S120) (w0_4 : Int) (h0 : Loops E 134 (lpAt Try.f134 0) (stL 19 [(0, .one (.s .far () 4 (x0.map S120.t))), (1, .fni 80 []), (7, .one (tI (x0.length : Int))), (8, .one (tI (0 : Int)))]) .ret (stL 19 [(4, .one (tI w0_4))])) : Does E 134 [.one (.s .far () 4 (x0.map S120.t)), .fni 80 []] [(false, [tI w0_4])] :=
  Does.path (fn := Try.f134) [.val (.int .i64 (x0.length : Int)), .lp .ret (stL 19 [(4, .one (tI w0_4))])] [fun _ => ((x0.map S120.t).length : Int) = (x0.length : Int), fun k => LoopK E 134 (lpAt Try.f134 0) (stL 19 [(0, .one (.s .far () 4 (x0.map S120.t))), (1, .fni 80 []), (7, .one (tI (x0.length : Int))), (8, .one (tI (0 : Int)))]) .ret (stL 19 [(4, .one (tI w0_4))]) k k] rfl rfl (fun k => by kernel_rfl) ⟨Ev.c lenMap, Loops.ev h0, trivial⟩
theorem P134_80_1 (x0 : List S120) (h0 : Loops E 134 (lpAt Try.f134 0) (stL 19 [(0, .one (.s .far () 4 (x0.map S120.t))), (1, .fni 80 []), (7, .one (tI (x0.length : Int))), (8, .one (tI (0 : Int)))]) (.exit 0) (stL 19 [])) : Does E 134 [.one (.s .far () 4 (x0.map S120.t)), .fni 80 []] [(false, [tI (-1 : Int)])] :=
  Does.path (fn := Try.f134) [.val (.int .i64 (x0.length : Int)), .lp (.exit 0) (stL 19 [])] [fun _ => ((x0.map S120.t).length : Int) = (x0.length : Int), fun k => LoopK E 134 (lpAt Try.f134 0) (stL 19 [(0, .one (.s .far () 4 (x0.map S120.t))), (1, .fni 80 []), (7, .one (tI (x0.length : Int))), (8, .one (tI (0 : Int)))]) (.exit 0) (stL 19 []) k k] rfl rfl (fun k => by kernel_rfl) ⟨Ev.c lenMap, Loops.ev h0, trivial⟩
noncomputable def sem134_80 (n : Nat) (x0 : List S120) : Option (Int) :=
    (loop134_80_0 n x0 (x0.length : Int) (0 : Int)).bind fun y => match y with
      | .ret w0_4 => (some (w0_4))
      | .x0 => (some ((-1 : Int)))
theorem D134_80 (n : Nat) (x0 : List S120) : Ans (sem134_80 n x0) (fun r => Does E 134 [.one (.s .far () 4 (x0.map S120.t)), .fni 80 []] [(false, [tI r])]) := by
  unfold sem134_80
  refine Ans.bind (fun y hy => ?_)
  replace hy := L134_80_0 n x0 (x0.length : Int) (0 : Int) y hy
  cases y with
  | ret w0_4 =>
    have h0 := hy
    exact Ans.some (P134_80_0 x0 w0_4 h0)
  | x0 =>
    have h0 := hy
    exact Ans.some (P134_80_1 x0 h0)
theorem loop134_ok (l : List S120) (hl : l.length ≤ 1048576) : ∀ (k i n : Nat), i + k = l.length → k < n → loop134_80_0 n l (l.length : Int) i = some (cond ((l.drop i).any isOpen) (.ret (i + (l.drop i).findIdx isOpen : Nat)) .x0)
  | 0, i, n, hi, hn => by
    obtain ⟨n, rfl⟩ : ∃ m, n = m + 1 := ⟨n - 1, by omega⟩
    simp only [loop134_80_0]
    rw [show decide ((i : Int) < (l.length : Int)) = false from decide_eq_false (by omega), List.drop_of_length_le (by omega)]
    rfl
  | k + 1, i, n, hi, hn => by
    obtain ⟨n, rfl⟩ : ∃ m, n = m + 1 := ⟨n - 1, by omega⟩
    have hil : i < l.length := by omega
    have ih := loop134_ok l hl k (i + 1) n (by omega) (by omega)
    simp only [loop134_80_0]
    rw [show decide ((i : Int) < (l.length : Int)) = true from decide_eq_true (by omega), getI_nat, List.getElem?_eq_getElem hil, wrap1 i (by omega)]
    simp only [cond_true, Option.bind_some]
    rw [ih, List.drop_eq_getElem_cons hil, List.any_cons, List.findIdx_cons]
    cases isOpen l[i]
    · simp only [cond_false, Bool.false_or]
      cases (List.drop (i + 1) l).any isOpen
      · rfl
      · simp only [cond_true, Option.some.injEq, X134_80_0.ret.injEq]; omega
    · simp
theorem T134_80 (l : List S120) (h : l.length ≤ 1048576) : Does E 134 [.one (.s .far () 4 (l.map S120.t)), .fni 80 []] [(false, [tI (firstOpen l)])] := D134_80 (l.length + 1) l _ (by
  unfold sem134_80 firstOpen
  rw [show (0 : Int) = ((0 : Nat) : Int) from rfl, loop134_ok l h l.length 0 _ (by omega) (by omega), List.drop_zero]
  cases l.any isOpen
  · rfl
  · simp)
def hasOpen (l : List S120) : Bool := l.any isOpen
-- function 79_80: slices.ContainsFunc[[]loop.example/g00188/impl.State,loop.example/g00188/impl.State]
theorem L79_80_0 (x0 : List S120) (h0 : x0.length ≤ 1048576) : Does E 79 [.one (.s .far () 4 (x0.map S120.t)), .fni 80 []] [(false, [tB (decide ((firstOpen x0) ≥ (0 : Int)))])] :=
  Does.path (fn := Try.f79) [.ret [(false, [tI (firstOpen x0)])]] [fun k => E.C k 134 [.one (.s .far () 4 (x0.map S120.t)), .fni 80 []] = some [(false, [tI (firstOpen x0)])]] rfl rfl (fun k => by kernel_rfl) ⟨T134_80 x0 h0, trivial⟩
noncomputable def sem79_80 (x0 : List S120) : Option (Bool) :=
    if x0.length ≤ 1048576 then some (decide ((firstOpen x0) ≥ (0 : Int))) else none
theorem D79_80 (x0 : List S120) : Ans (sem79_80 x0) (fun r => Does E 79 [.one (.s .far () 4 (x0.map S120.t)), .fni 80 []] [(false, [tB r])]) := by
  unfold sem79_80
  refine Ans.pre (fun h0 => ?_)
  exact Ans.some (L79_80_0 x0 h0)
theorem T79_80 (l : List S120) (h : l.length ≤ 1048576) : Does E 79 [.one (.s .far () 4 (l.map S120.t)), .fni 80 []] [(false, [tB (hasOpen l)])] := D79_80 l _ (by
  unfold sem79_80 hasOpen firstOpen
  rw [if_pos h]
  cases l.any isOpen
  · rfl
  · simp only [if_true]
    rw [decide_eq_true (by omega)])
-- function 28: loop.example/g00188/impl.Over
theorem L28_0 (x0 : S42) (h0 : x0.f3.length ≤ 1048576) : Does E 28 [.agg (S42.t .far x0)] [(false, [tB (!(hasOpen x0.f3))])] :=
  Does.path (fn := Try.f28) [.ret [(false, [tB (hasOpen x0.f3)])]] [fun k => E.C k 79 [.one (.s .far () 4 (x0.f3.map S120.t)), .fni 80 []] = some [(false, [tB (hasOpen x0.f3)])]] rfl rfl (fun k => by kernel_rfl) ⟨T79_80 x0.f3 h0, trivial⟩
noncomputable def sem28 (x0 : S42) : Option (Bool) :=
    if x0.f3.length ≤ 1048576 then some (!(hasOpen x0.f3)) else none
theorem D28 (x0 : S42) : Ans (sem28 x0) (fun r => Does E 28 [.agg (S42.t .far x0)] [(false, [tB r])]) := by
  unfold sem28
  refine Ans.pre (fun h0 => ?_)
  exact Ans.some (L28_0 x0 h0)
theorem T28 (x : S42) (h : x.f3.length ≤ 1048576) : Does E 28 [.agg (S42.t .far x)] [(false, [tB (over x)])] := D28 x _ (by
  unfold sem28 over
  rw [if_pos h]; rfl)
-- function 60: loop.example/g00188/laws.eqSpan
theorem L60_0 (x0 : S33) (x1 : S33) (h0 : (x0.f0 != x1.f0) = true) : Does E 60 [.agg (S33.t x0), .agg (S33.t x1)] [(false, [tB false])] :=
  Does.path (fn := Try.f60) [.b true] [fun _ => (x0.f0 != x1.f0) = true] rfl rfl (fun k => by kernel_rfl) ⟨Ev.c h0, trivial⟩
theorem L60_1 (x0 : S33) (x1 : S33) (h0 : (x0.f0 != x1.f0) = false) (h1 : (x0.f1 != x1.f1) = true) : Does E 60 [.agg (S33.t x0), .agg (S33.t x1)] [(false, [tB false])] :=
  Does.path (fn := Try.f60) [.b false, .b true] [fun _ => (x0.f0 != x1.f0) = false, fun _ => (x0.f1 != x1.f1) = true] rfl rfl (fun k => by kernel_rfl) ⟨Ev.c h0, Ev.c h1, trivial⟩
theorem L60_2 (x0 : S33) (x1 : S33) (h0 : (x0.f0 != x1.f0) = false) (h1 : (x0.f1 != x1.f1) = false) : Does E 60 [.agg (S33.t x0), .agg (S33.t x1)] [(false, [tB true])] :=
  Does.path (fn := Try.f60) [.b false, .b false] [fun _ => (x0.f0 != x1.f0) = false, fun _ => (x0.f1 != x1.f1) = false] rfl rfl (fun k => by kernel_rfl) ⟨Ev.c h0, Ev.c h1, trivial⟩
noncomputable def sem60 (x0 : S33) (x1 : S33) : Option (Bool) :=
    cond (x0.f0 != x1.f0)
      (some (false))
      (cond (x0.f1 != x1.f1)
        (some (false))
        (some (true)))
theorem D60 (x0 : S33) (x1 : S33) : Ans (sem60 x0 x1) (fun r => Does E 60 [.agg (S33.t x0), .agg (S33.t x1)] [(false, [tB r])]) := by
  unfold sem60
  refine Ans.ite (fun h0 => ?_) (fun h0 => ?_)
  · exact Ans.some (L60_0 x0 x1 h0)
  · refine Ans.ite (fun h1 => ?_) (fun h1 => ?_)
    · exact Ans.some (L60_1 x0 x1 h0 h1)
    · exact Ans.some (L60_2 x0 x1 h0 h1)
-- function 135: loop.example/g00188/laws.eqState
theorem L135_0 (x0 : S120) (x1 : S120) (h0 : (x0.f0 != x1.f0) = true) : Does E 135 [.agg (S120.t x0), .agg (S120.t x1)] [(false, [tB false])] :=
  Does.path (fn := Try.f135) [.b true] [fun _ => (x0.f0 != x1.f0) = true] rfl rfl (fun k => by kernel_rfl) ⟨Ev.c h0, trivial⟩
theorem L135_1 (x0 : S120) (x1 : S120) (h0 : (x0.f0 != x1.f0) = false) (h1 : (x0.f1 != x1.f1) = true) : Does E 135 [.agg (S120.t x0), .agg (S120.t x1)] [(false, [tB false])] :=
  Does.path (fn := Try.f135) [.b false, .b true] [fun _ => (x0.f0 != x1.f0) = false, fun _ => (x0.f1 != x1.f1) = true] rfl rfl (fun k => by kernel_rfl) ⟨Ev.c h0, Ev.c h1, trivial⟩
theorem L135_2 (x0 : S120) (x1 : S120) (h0 : (x0.f0 != x1.f0) = false) (h1 : (x0.f1 != x1.f1) = false) (h2 : (x0.f2 != x1.f2) = true) : Does E 135 [.agg (S120.t x0), .agg (S120.t x1)] [(false, [tB false])] :=
  Does.path (fn := Try.f135) [.b false, .b false, .b true] [fun _ => (x0.f0 != x1.f0) = false, fun _ => (x0.f1 != x1.f1) = false, fun _ => (x0.f2 != x1.f2) = true] rfl rfl (fun k => by kernel_rfl) ⟨Ev.c h0, Ev.c h1, Ev.c h2, trivial⟩
theorem L135_3 (x0 : S120) (x1 : S120) (h0 : (x0.f0 != x1.f0) = false) (h1 : (x0.f1 != x1.f1) = false) (h2 : (x0.f2 != x1.f2) = false) (h3 : (x0.f3 != x1.f3) = true) : Does E 135 [.agg (S120.t x0), .agg (S120.t x1)] [(false, [tB false])] :=
  Does.path (fn := Try.f135) [.b false, .b false, .b false, .b true] [fun _ => (x0.f0 != x1.f0) = false, fun _ => (x0.f1 != x1.f1) = false, fun _ => (x0.f2 != x1.f2) = false, fun _ => (x0.f3 != x1.f3) = true] rfl rfl (fun k => by kernel_rfl) ⟨Ev.c h0, Ev.c h1, Ev.c h2, Ev.c h3, trivial⟩
theorem L135_4 (x0 : S120) (x1 : S120) (h0 : (x0.f0 != x1.f0) = false) (h1 : (x0.f1 != x1.f1) = false) (h2 : (x0.f2 != x1.f2) = false) (h3 : (x0.f3 != x1.f3) = false) : Does E 135 [.agg (S120.t x0), .agg (S120.t x1)] [(false, [tB true])] :=
  Does.path (fn := Try.f135) [.b false, .b false, .b false, .b false] [fun _ => (x0.f0 != x1.f0) = false, fun _ => (x0.f1 != x1.f1) = false, fun _ => (x0.f2 != x1.f2) = false, fun _ => (x0.f3 != x1.f3) = false] rfl rfl (fun k => by kernel_rfl) ⟨Ev.c h0, Ev.c h1, Ev.c h2, Ev.c h3, trivial⟩
noncomputable def sem135 (x0 : S120) (x1 : S120) : Option (Bool) :=
    cond (x0.f0 != x1.f0)
      (some (false))
      (cond (x0.f1 != x1.f1)
        (some (false))
        (cond (x0.f2 != x1.f2)
          (some (false))
          (cond (x0.f3 != x1.f3)
            (some (false))
            (some (true)))))
theorem D135 (x0 : S120) (x1 : S120) : Ans (sem135 x0 x1) (fun r => Does E 135 [.agg (S120.t x0), .agg (S120.t x1)] [(false, [tB r])]) := by
  unfold sem135
  refine Ans.ite (fun h0 => ?_) (fun h0 => ?_)
  · exact Ans.some (L135_0 x0 x1 h0)
  · refine Ans.ite (fun h1 => ?_) (fun h1 => ?_)
    · exact Ans.some (L135_1 x0 x1 h0 h1)
    · refine Ans.ite (fun h2 => ?_) (fun h2 => ?_)
      · exact Ans.some (L135_2 x0 x1 h0 h1 h2)
      · refine Ans.ite (fun h3 => ?_) (fun h3 => ?_)
        · exact Ans.some (L135_3 x0 x1 h0 h1 h2 h3)
        · exact Ans.some (L135_4 x0 x1 h0 h1 h2 h3)
theorem T60 (a b : S33) (h : a = b) : Does E 60 [.agg (S33.t a), .agg (S33.t b)] [(false, [tB (yes a b)])] := by
  subst h
  exact D60 a a _ (by unfold sem60; simp [yes])
theorem T135 (a b : S120) (h : a = b) : Does E 135 [.agg (S120.t a), .agg (S120.t b)] [(false, [tB (yes a b)])] := by
  subst h
  exact D135 a a _ (by unfold sem135; simp [yes])
-- function 81: loop.example/g00188/laws.eqStateS
inductive X81_0 where
  | ret (v4 : Bool)
  | x0 
noncomputable def loop81_0 : Nat → (List S120) → (List S120) → Int → Option X81_0
  | 0, _, _, _ => none
  | n + 1, v0, v1, v5 => cond (decide (v5 < (v0.length : Int)))
    ((getI v0 v5).bind fun g0 => (getI v1 v5).bind fun g1 => if g0 = g1 then cond (yes g0 g1)
      (loop81_0 n v0 v1 (IntKind.wrap .i64 (v5 + (1 : Int))))
      (some (.ret false)) else none)
    (some (.x0))
def Q81_0 (v0 : List S120) (v1 : List S120) (v5 : Int) : X81_0 → Prop
  | .ret zv4 => Loops E 81 (lpAt Try.f81 0) (stL 27 [(0, .one (.s .far () 4 (v0.map S120.t))), (1, .one (.s .far () 4 (v1.map S120.t))), (5, .one (tI v5))]) .ret (stL 27 [(4, .one (tB zv4))])
  | .x0 => Loops E 81 (lpAt Try.f81 0) (stL 27 [(0, .one (.s .far () 4 (v0.map S120.t))), (1, .one (.s .far () 4 (v1.map S120.t))), (5, .one (tI v5))]) (.exit 0) (stL 27 [])
theorem R81_0_0 (v0 : List S120) (v1 : List S120) (v5 : Int) (g0 : S120) (g1 : S120) (h0 : (decide (v5 < (v0.length : Int))) = true) (h1 : getI v0 v5 = some g0) (h2 : getI v1 v5 = some g1) (h3 : g0 = g1) (h4 : (yes g0 g1) = true) : Round E 81 (lpAt Try.f81 0) (stL 27 [(0, .one (.s .far () 4 (v0.map S120.t))), (1, .one (.s .far () 4 (v1.map S120.t))), (5, .one (tI v5))]) .normal (stL 27 [(0, .one (.s .far () 4 (v0.map S120.t))), (1, .one (.s .far () 4 (v1.map S120.t))), (5, .one (tI (IntKind.wrap .i64 (v5 + (1 : Int)))))]) :=
  Round.path [.val (.int .i64 (v0.length : Int)), .b true, .row (S120.t g0), .row (S120.t g1), .ret [(false, [tB true])]] [fun _ => ((v0.map S120.t).length : Int) = (v0.length : Int), fun _ => (decide (v5 < (v0.length : Int))) = true, fun _ => 0 ≤ v5 ∧ (v0.map S120.t)[v5.toNat]? = some (S120.t g0), fun _ => 0 ≤ v5 ∧ (v1.map S120.t)[v5.toNat]? = some (S120.t g1), fun k => E.C k 135 [.agg (S120.t g0), .agg (S120.t g1)] = some [(false, [tB true])]] (fun k => by kernel_rfl) ⟨Ev.c lenMap, Ev.c h0, Ev.c (getRow h1), Ev.c (getRow h2), Does.to (T135 g0 g1 h3) (by rw [h4]), trivial⟩
theorem R81_0_1 (v0 : List S120) (v1 : List S120) (v5 : Int) (g0 : S120) (g1 : S120) (h0 : (decide (v5 < (v0.length : Int))) = true) (h1 : getI v0 v5 = some g0) (h2 : getI v1 v5 = some g1) (h3 : g0 = g1) (h4 : (yes g0 g1) = false) : Round E 81 (lpAt Try.f81 0) (stL 27 [(0, .one (.s .far () 4 (v0.map S120.t))), (1, .one (.s .far () 4 (v1.map S120.t))), (5, .one (tI v5))]) .ret (stL 27 [(4, .one (tB false))]) :=
  Round.path [.val (.int .i64 (v0.length : Int)), .b true, .row (S120.t g0), .row (S120.t g1), .ret [(false, [tB false])]] [fun _ => ((v0.map S120.t).length : Int) = (v0.length : Int), fun _ => (decide (v5 < (v0.length : Int))) = true, fun _ => 0 ≤ v5 ∧ (v0.map S120.t)[v5.toNat]? = some (S120.t g0), fun _ => 0 ≤ v5 ∧ (v1.map S120.t)[v5.toNat]? = some (S120.t g1), fun k => E.C k 135 [.agg (S120.t g0), .agg (S120.t g1)] = some [(false, [tB false])]] (fun k => by kernel_rfl) ⟨Ev.c lenMap, Ev.c h0, Ev.c (getRow h1), Ev.c (getRow h2), Does.to (T135 g0 g1 h3) (by rw [h4]), trivial⟩
theorem R81_0_2 (v0 : List S120) (v1 : List S120) (v5 : Int) (h0 : (decide (v5 < (v0.length : Int))) = false) : Round E 81 (lpAt Try.f81 0) (stL 27 [(0, .one (.s .far () 4 (v0.map S120.t))), (1, .one (.s .far () 4 (v1.map S120.t))), (5, .one (tI v5))]) (.exit 0) (stL 27 []) :=
  Round.path [.val (.int .i64 (v0.length : Int)), .b false] [fun _ => ((v0.map S120.t).length : Int) = (v0.length : Int), fun _ => (decide (v5 < (v0.length : Int))) = false] (fun k => by kernel_rfl) ⟨Ev.c lenMap, Ev.c h0, trivial⟩
theorem L81_0 (n : Nat) : ∀ (v0 : List S120) (v1 : List S120) (v5 : Int), Ans (loop81_0 n v0 v1 v5) (Q81_0 v0 v1 v5) := by
  induction n with
  | zero => intros; exact Ans.none
  | succ n ih =>
    intro v0 v1 v5
    unfold loop81_0
    refine Ans.ite (fun h0 => ?_) (fun h0 => ?_)
    · refine Ans.bind (fun g0 h1 => ?_)
      refine Ans.bind (fun g1 h2 => ?_)
      refine Ans.pre (fun h3 => ?_)
      refine Ans.ite (fun h4 => ?_) (fun h4 => ?_)
      · exact (ih v0 v1 (IntKind.wrap .i64 (v5 + (1 : Int)))).mono fun y hy => by cases y <;> exact Loops.next (R81_0_0 v0 v1 v5 g0 g1 h0 h1 h2 h3 h4) hy
      · exact Ans.some (Loops.stop (R81_0_1 v0 v1 v5 g0 g1 h0 h1 h2 h3 h4) (by intro h; cases h))
    · exact Ans.some (Loops.stop (R81_0_2 v0 v1 v5 h0) (by intro h; cases h))
theorem P81_0 (x0 : List S120) (x1 : List S120) (h0 : ((x0.length : Int) != (x1.length : Int)) = true) : Does E 81 [.one (.s .far () 4 (x0.map S120.t)), .one (.s .far () 4 (x1.map S120.t))] [(false, [tB false])] :=
  Does.path (fn := Try.f81) [.val (.int .i64 (x0.length : Int)), .val (.int .i64 (x1.length : Int)), .b true] [fun _ => ((x0.map S120.t).length : Int) = (x0.length : Int), fun _ => ((x1.map S120.t).length : Int) = (x1.length : Int), fun _ => ((x0.length : Int) != (x1.length : Int)) = true] rfl rfl (fun k => by kernel_rfl) ⟨Ev.c lenMap, Ev.c lenMap, Ev.c h0, trivial⟩
theorem P81_1 (x0 : List S120) (x1 : List S120) (w0_4 : Bool) (h0 : ((x0.length : Int) != (x1.length : Int)) = false) (h1 : Loops E 81 (lpAt Try.f81 0) (stL 27 [(0, .one (.s .far () 4 (x0.map S120.t))), (1, .one (.s .far () 4 (x1.map S120.t))), (5, .one (tI (0 : Int)))]) .ret (stL 27 [(4, .one (tB w0_4))])) : Does E 81 [.one (.s .far () 4 (x0.map S120.t)), .one (.s .far () 4 (x1.map S120.t))] [(false, [tB w0_4])] :=
  Does.path (fn := Try.f81) [.val (.int .i64 (x0.length : Int)), .val (.int .i64 (x1.length : Int)), .b false, .lp .ret (stL 27 [(4, .one (tB w0_4))])] [fun _ => ((x0.map S120.t).length : Int) = (x0.length : Int), fun _ => ((x1.map S120.t).length : Int) = (x1.length : Int), fun _ => ((x0.length : Int) != (x1.length : Int)) = false, fun k => LoopK E 81 (lpAt Try.f81 0) (stL 27 [(0, .one (.s .far () 4 (x0.map S120.t))), (1, .one (.s .far () 4 (x1.map S120.t))), (5, .one (tI (0 : Int)))]) .ret (stL 27 [(4, .one (tB w0_4))]) k k] rfl rfl (fun k => by kernel_rfl) ⟨Ev.c lenMap, Ev.c lenMap, Ev.c h0, Loops.ev h1, trivial⟩
theorem P81_2 (x0 : List S120) (x1 : List S120) (h0 : ((x0.length : Int) != (x1.length : Int)) = false) (h1 : Loops E 81 (lpAt Try.f81 0) (stL 27 [(0, .one (.s .far () 4 (x0.map S120.t))), (1, .one (.s .far () 4 (x1.map S120.t))), (5, .one (tI (0 : Int)))]) (.exit 0) (stL 27 [])) : Does E 81 [.one (.s .far () 4 (x0.map S120.t)), .one (.s .far () 4 (x1.map S120.t))] [(false, [tB true])] :=
  Does.path (fn := Try.f81) [.val (.int .i64 (x0.length : Int)), .val (.int .i64 (x1.length : Int)), .b false, .lp (.exit 0) (stL 27 [])] [fun _ => ((x0.map S120.t).length : Int) = (x0.length : Int), fun _ => ((x1.map S120.t).length : Int) = (x1.length : Int), fun _ => ((x0.length : Int) != (x1.length : Int)) = false, fun k => LoopK E 81 (lpAt Try.f81 0) (stL 27 [(0, .one (.s .far () 4 (x0.map S120.t))), (1, .one (.s .far () 4 (x1.map S120.t))), (5, .one (tI (0 : Int)))]) (.exit 0) (stL 27 []) k k] rfl rfl (fun k => by kernel_rfl) ⟨Ev.c lenMap, Ev.c lenMap, Ev.c h0, Loops.ev h1, trivial⟩
noncomputable def sem81 (n : Nat) (x0 : List S120) (x1 : List S120) : Option (Bool) :=
    cond ((x0.length : Int) != (x1.length : Int))
      (some (false))
      ((loop81_0 n x0 x1 (0 : Int)).bind fun y => match y with
        | .ret w0_4 => (some (w0_4))
        | .x0 => (some (true)))
theorem D81 (n : Nat) (x0 : List S120) (x1 : List S120) : Ans (sem81 n x0 x1) (fun r => Does E 81 [.one (.s .far () 4 (x0.map S120.t)), .one (.s .far () 4 (x1.map S120.t))] [(false, [tB r])]) := by
  unfold sem81
  refine Ans.ite (fun h0 => ?_) (fun h0 => ?_)
  · exact Ans.some (P81_0 x0 x1 h0)
  · refine Ans.bind (fun y hy => ?_)
    replace hy := L81_0 n x0 x1 (0 : Int) y hy
    cases y with
    | ret w0_4 =>
      have h1 := hy
      exact Ans.some (P81_1 x0 x1 w0_4 h0 h1)
    | x0 =>
      have h1 := hy
      exact Ans.some (P81_2 x0 x1 h0 h1)
theorem loop81_ok (l : List S120) (hl : l.length ≤ 1048576) : ∀ (k i n : Nat), i + k = l.length → k < n → loop81_0 n l l i = some .x0
  | 0, i, n, hi, hn => by
    obtain ⟨n, rfl⟩ : ∃ m, n = m + 1 := ⟨n - 1, by omega⟩
    simp only [loop81_0]
    rw [show decide ((i : Int) < (l.length : Int)) = false from decide_eq_false (by omega)]
    rfl
  | k + 1, i, n, hi, hn => by
    obtain ⟨n, rfl⟩ : ∃ m, n = m + 1 := ⟨n - 1, by omega⟩
    have hil : i < l.length := by omega
    have ih := loop81_ok l hl k (i + 1) n (by omega) (by omega)
    simp only [loop81_0]
    rw [show decide ((i : Int) < (l.length : Int)) = true from decide_eq_true (by omega), getI_nat, List.getElem?_eq_getElem hil, wrap1 i (by omega)]
    simp only [cond_true, Option.bind_some]
    simp [yes]
    exact ih
theorem T81 (a b : List S120) (h : a = b) (hl : a.length ≤ 1048576) : Does E 81 [.one (.s .far () 4 (a.map S120.t)), .one (.s .far () 4 (b.map S120.t))] [(false, [tB (yes a b)])] := by
  subst h
  exact D81 (a.length + 1) a a _ (by
    unfold sem81
    rw [show (0 : Int) = ((0 : Nat) : Int) from rfl, loop81_ok a hl a.length 0 _ (by omega) (by omega)]
    simp [yes])
-- function 29: loop.example/g00188/laws.eqRun
theorem L29_0 (x0 : S42) (x1 : S42) (h0 : (!(x0.f0.toList == x1.f0.toList)) = true) : Does E 29 [.agg (S42.t .far x0), .agg (S42.t .far x1)] [(false, [tB false])] :=
  Does.path (fn := Try.f29) [.b true] [fun _ => (!(x0.f0.toList == x1.f0.toList)) = true] rfl rfl (fun k => by kernel_rfl) ⟨Ev.c h0, trivial⟩
theorem L29_1 (x0 : S42) (x1 : S42) (h0 : (!(x0.f0.toList == x1.f0.toList)) = false) (h1 : x0.f1 = x1.f1) (h2 : (yes x0.f1 x1.f1) = true) (h3 : (x0.f2 != x1.f2) = true) : Does E 29 [.agg (S42.t .far x0), .agg (S42.t .far x1)] [(false, [tB false])] :=
  Does.path (fn := Try.f29) [.b false, .ret [(false, [tB true])], .b true] [fun _ => (!(x0.f0.toList == x1.f0.toList)) = false, fun k => E.C k 60 [.agg (S33.t x0.f1), .agg (S33.t x1.f1)] = some [(false, [tB true])], fun _ => (x0.f2 != x1.f2) = true] rfl rfl (fun k => by kernel_rfl) ⟨Ev.c h0, Does.to (T60 x0.f1 x1.f1 h1) (by rw [h2]), Ev.c h3, trivial⟩
theorem L29_2 (x0 : S42) (x1 : S42) (h0 : (!(x0.f0.toList == x1.f0.toList)) = false) (h1 : x0.f1 = x1.f1) (h2 : (yes x0.f1 x1.f1) = true) (h3 : (x0.f2 != x1.f2) = false) (h4 : x0.f3 = x1.f3) (h5 : x0.f3.length ≤ 1048576) (h6 : (yes x0.f3 x1.f3) = true) : Does E 29 [.agg (S42.t .far x0), .agg (S42.t .far x1)] [(false, [tB true])] :=
  Does.path (fn := Try.f29) [.b false, .ret [(false, [tB true])], .b false, .ret [(false, [tB true])]] [fun _ => (!(x0.f0.toList == x1.f0.toList)) = false, fun k => E.C k 60 [.agg (S33.t x0.f1), .agg (S33.t x1.f1)] = some [(false, [tB true])], fun _ => (x0.f2 != x1.f2) = false, fun k => E.C k 81 [.one (.s .far () 4 (x0.f3.map S120.t)), .one (.s .far () 4 (x1.f3.map S120.t))] = some [(false, [tB true])]] rfl rfl (fun k => by kernel_rfl) ⟨Ev.c h0, Does.to (T60 x0.f1 x1.f1 h1) (by rw [h2]), Ev.c h3, Does.to (T81 x0.f3 x1.f3 h4 h5) (by rw [h6]), trivial⟩
theorem L29_3 (x0 : S42) (x1 : S42) (h0 : (!(x0.f0.toList == x1.f0.toList)) = false) (h1 : x0.f1 = x1.f1) (h2 : (yes x0.f1 x1.f1) = true) (h3 : (x0.f2 != x1.f2) = false) (h4 : x0.f3 = x1.f3) (h5 : x0.f3.length ≤ 1048576) (h6 : (yes x0.f3 x1.f3) = false) : Does E 29 [.agg (S42.t .far x0), .agg (S42.t .far x1)] [(false, [tB false])] :=
  Does.path (fn := Try.f29) [.b false, .ret [(false, [tB true])], .b false, .ret [(false, [tB false])]] [fun _ => (!(x0.f0.toList == x1.f0.toList)) = false, fun k => E.C k 60 [.agg (S33.t x0.f1), .agg (S33.t x1.f1)] = some [(false, [tB true])], fun _ => (x0.f2 != x1.f2) = false, fun k => E.C k 81 [.one (.s .far () 4 (x0.f3.map S120.t)), .one (.s .far () 4 (x1.f3.map S120.t))] = some [(false, [tB false])]] rfl rfl (fun k => by kernel_rfl) ⟨Ev.c h0, Does.to (T60 x0.f1 x1.f1 h1) (by rw [h2]), Ev.c h3, Does.to (T81 x0.f3 x1.f3 h4 h5) (by rw [h6]), trivial⟩
theorem L29_4 (x0 : S42) (x1 : S42) (h0 : (!(x0.f0.toList == x1.f0.toList)) = false) (h1 : x0.f1 = x1.f1) (h2 : (yes x0.f1 x1.f1) = false) : Does E 29 [.agg (S42.t .far x0), .agg (S42.t .far x1)] [(false, [tB false])] :=
  Does.path (fn := Try.f29) [.b false, .ret [(false, [tB false])]] [fun _ => (!(x0.f0.toList == x1.f0.toList)) = false, fun k => E.C k 60 [.agg (S33.t x0.f1), .agg (S33.t x1.f1)] = some [(false, [tB false])]] rfl rfl (fun k => by kernel_rfl) ⟨Ev.c h0, Does.to (T60 x0.f1 x1.f1 h1) (by rw [h2]), trivial⟩
noncomputable def sem29 (x0 : S42) (x1 : S42) : Option (Bool) :=
    cond (!(x0.f0.toList == x1.f0.toList))
      (some (false))
      (if x0.f1 = x1.f1 then cond (yes x0.f1 x1.f1)
        (cond (x0.f2 != x1.f2)
          (some (false))
          (if x0.f3 = x1.f3 then if x0.f3.length ≤ 1048576 then cond (yes x0.f3 x1.f3)
            (some (true))
            (some (false)) else none else none))
        (some (false)) else none)
theorem D29 (x0 : S42) (x1 : S42) : Ans (sem29 x0 x1) (fun r => Does E 29 [.agg (S42.t .far x0), .agg (S42.t .far x1)] [(false, [tB r])]) := by
  unfold sem29
  refine Ans.ite (fun h0 => ?_) (fun h0 => ?_)
  · exact Ans.some (L29_0 x0 x1 h0)
  · refine Ans.pre (fun h1 => ?_)
    refine Ans.ite (fun h2 => ?_) (fun h2 => ?_)
    · refine Ans.ite (fun h3 => ?_) (fun h3 => ?_)
      · exact Ans.some (L29_1 x0 x1 h0 h1 h2 h3)
      · refine Ans.pre (fun h4 => ?_)
        refine Ans.pre (fun h5 => ?_)
        refine Ans.ite (fun h6 => ?_) (fun h6 => ?_)
        · exact Ans.some (L29_2 x0 x1 h0 h1 h2 h3 h4 h5 h6)
        · exact Ans.some (L29_3 x0 x1 h0 h1 h2 h3 h4 h5 h6)
    · exact Ans.some (L29_4 x0 x1 h0 h1 h2)
theorem T29 (a b : S42) (h : a = b) (hl : a.f3.length ≤ 1048576) : Does E 29 [.agg (S42.t .far a), .agg (S42.t .far b)] [(false, [tB (yes a b)])] := by
  subst h
  exact D29 a a _ (by unfold sem29; simp [yes, hl])
-- function 7: loop.example/g00188/laws.FnExactOver
theorem L7_0 (x0 : S36) (h0 : (decide ((szRun x0 (1048576 : Int)) < (0 : Int))) = true) : Does E 7 [.agg (S36.t .far x0)] [(false, [tB true])] :=
  Does.path (fn := Try.f7) [.ret [(false, [tI (szRun x0 (1048576 : Int))])], .b true] [fun k => E.C k 25 [.agg (S36.t .far x0), .one (tI (1048576 : Int))] = some [(false, [tI (szRun x0 (1048576 : Int))])], fun _ => (decide ((szRun x0 (1048576 : Int)) < (0 : Int))) = true] rfl rfl (fun k => by kernel_rfl) ⟨T25 x0 (1048576 : Int), Ev.c h0, trivial⟩
theorem L7_1 (x0 : S36) (h0 : (decide ((szRun x0 (1048576 : Int)) < (0 : Int))) = false) (h1 : x0.f3.length ≤ 1048576) (h2 : (toRun x0).f3.length ≤ 1048576) (h3 : (!((over (toRun x0)) == (over (toRun x0)))) = true) : Does E 7 [.agg (S36.t .far x0)] [(false, [tB false])] :=
  Does.path (fn := Try.f7) [.ret [(false, [tI (szRun x0 (1048576 : Int))])], .b false, .ret [(true, S42.t .own (toRun x0))], .ret [(false, [tB (over (toRun x0))])], .ret [(true, S42.t .own (toRun x0))], .ret [(false, [tB (over (toRun x0))])], .b true] [fun k => E.C k 25 [.agg (S36.t .far x0), .one (tI (1048576 : Int))] = some [(false, [tI (szRun x0 (1048576 : Int))])], fun _ => (decide ((szRun x0 (1048576 : Int)) < (0 : Int))) = false, fun k => E.C k 27 [.agg (S36.t .far x0)] = some [(true, S42.t .own (toRun x0))], fun k => E.C k 26 [.agg (S42.t .far (toRun x0))] = some [(false, [tB (over (toRun x0))])], fun k => E.C k 27 [.agg (S36.t .far x0)] = some [(true, S42.t .own (toRun x0))], fun k => E.C k 28 [.agg (S42.t .far (toRun x0))] = some [(false, [tB (over (toRun x0))])], fun _ => (!((over (toRun x0)) == (over (toRun x0)))) = true] rfl rfl (fun k => by kernel_rfl) ⟨T25 x0 (1048576 : Int), Ev.c h0, T27 x0 h1, T26 (toRun x0) h2, T27 x0 h1, T28 (toRun x0) h2, Ev.c h3, trivial⟩
theorem L7_2 (x0 : S36) (h0 : (decide ((szRun x0 (1048576 : Int)) < (0 : Int))) = false) (h1 : x0.f3.length ≤ 1048576) (h2 : (toRun x0).f3.length ≤ 1048576) (h3 : (!((over (toRun x0)) == (over (toRun x0)))) = false) (h4 : (toRun x0) = (toRun x0)) (h5 : (yes (toRun x0) (toRun x0)) = true) : Does E 7 [.agg (S36.t .far x0)] [(false, [tB true])] :=
  Does.path (fn := Try.f7) [.ret [(false, [tI (szRun x0 (1048576 : Int))])], .b false, .ret [(true, S42.t .own (toRun x0))], .ret [(false, [tB (over (toRun x0))])], .ret [(true, S42.t .own (toRun x0))], .ret [(false, [tB (over (toRun x0))])], .b false, .ret [(true, S42.t .own (toRun x0))], .ret [(false, [tB true])]] [fun k => E.C k 25 [.agg (S36.t .far x0), .one (tI (1048576 : Int))] = some [(false, [tI (szRun x0 (1048576 : Int))])], fun _ => (decide ((szRun x0 (1048576 : Int)) < (0 : Int))) = false, fun k => E.C k 27 [.agg (S36.t .far x0)] = some [(true, S42.t .own (toRun x0))], fun k => E.C k 26 [.agg (S42.t .far (toRun x0))] = some [(false, [tB (over (toRun x0))])], fun k => E.C k 27 [.agg (S36.t .far x0)] = some [(true, S42.t .own (toRun x0))], fun k => E.C k 28 [.agg (S42.t .far (toRun x0))] = some [(false, [tB (over (toRun x0))])], fun _ => (!((over (toRun x0)) == (over (toRun x0)))) = false, fun k => E.C k 27 [.agg (S36.t .far x0)] = some [(true, S42.t .own (toRun x0))], fun k => E.C k 29 [.agg (S42.t .far (toRun x0)), .agg (S42.t .far (toRun x0))] = some [(false, [tB true])]] rfl rfl (fun k => by kernel_rfl) ⟨T25 x0 (1048576 : Int), Ev.c h0, T27 x0 h1, T26 (toRun x0) h2, T27 x0 h1, T28 (toRun x0) h2, Ev.c h3, T27 x0 h1, Does.to (T29 (toRun x0) (toRun x0) h4 h2) (by rw [h5]), trivial⟩
theorem L7_3 (x0 : S36) (h0 : (decide ((szRun x0 (1048576 : Int)) < (0 : Int))) = false) (h1 : x0.f3.length ≤ 1048576) (h2 : (toRun x0).f3.length ≤ 1048576) (h3 : (!((over (toRun x0)) == (over (toRun x0)))) = false) (h4 : (toRun x0) = (toRun x0)) (h5 : (yes (toRun x0) (toRun x0)) = false) : Does E 7 [.agg (S36.t .far x0)] [(false, [tB false])] :=
  Does.path (fn := Try.f7) [.ret [(false, [tI (szRun x0 (1048576 : Int))])], .b false, .ret [(true, S42.t .own (toRun x0))], .ret [(false, [tB (over (toRun x0))])], .ret [(true, S42.t .own (toRun x0))], .ret [(false, [tB (over (toRun x0))])], .b false, .ret [(true, S42.t .own (toRun x0))], .ret [(false, [tB false])]] [fun k => E.C k 25 [.agg (S36.t .far x0), .one (tI (1048576 : Int))] = some [(false, [tI (szRun x0 (1048576 : Int))])], fun _ => (decide ((szRun x0 (1048576 : Int)) < (0 : Int))) = false, fun k => E.C k 27 [.agg (S36.t .far x0)] = some [(true, S42.t .own (toRun x0))], fun k => E.C k 26 [.agg (S42.t .far (toRun x0))] = some [(false, [tB (over (toRun x0))])], fun k => E.C k 27 [.agg (S36.t .far x0)] = some [(true, S42.t .own (toRun x0))], fun k => E.C k 28 [.agg (S42.t .far (toRun x0))] = some [(false, [tB (over (toRun x0))])], fun _ => (!((over (toRun x0)) == (over (toRun x0)))) = false, fun k => E.C k 27 [.agg (S36.t .far x0)] = some [(true, S42.t .own (toRun x0))], fun k => E.C k 29 [.agg (S42.t .far (toRun x0)), .agg (S42.t .far (toRun x0))] = some [(false, [tB false])]] rfl rfl (fun k => by kernel_rfl) ⟨T25 x0 (1048576 : Int), Ev.c h0, T27 x0 h1, T26 (toRun x0) h2, T27 x0 h1, T28 (toRun x0) h2, Ev.c h3, T27 x0 h1, Does.to (T29 (toRun x0) (toRun x0) h4 h2) (by rw [h5]), trivial⟩
noncomputable def sem7 (x0 : S36) : Option (Bool) :=
    cond (decide ((szRun x0 (1048576 : Int)) < (0 : Int)))
      (some (true))
      (if x0.f3.length ≤ 1048576 then if (toRun x0).f3.length ≤ 1048576 then cond (!((over (toRun x0)) == (over (toRun x0))))
        (some (false))
        (if (toRun x0) = (toRun x0) then cond (yes (toRun x0) (toRun x0))
          (some (true))
          (some (false)) else none) else none else none)
theorem D7 (x0 : S36) : Ans (sem7 x0) (fun r => Does E 7 [.agg (S36.t .far x0)] [(false, [tB r])]) := by
  unfold sem7
  refine Ans.ite (fun h0 => ?_) (fun h0 => ?_)
  · exact Ans.some (L7_0 x0 h0)
  · refine Ans.pre (fun h1 => ?_)
    refine Ans.pre (fun h2 => ?_)
    refine Ans.ite (fun h3 => ?_) (fun h3 => ?_)
    · exact Ans.some (L7_1 x0 h0 h1 h2 h3)
    · refine Ans.pre (fun h4 => ?_)
      refine Ans.ite (fun h5 => ?_) (fun h5 => ?_)
      · exact Ans.some (L7_2 x0 h0 h1 h2 h3 h4 h5)
      · exact Ans.some (L7_3 x0 h0 h1 h2 h3 h4 h5)
theorem law7 (x : S36) (h0 : x.f0.size ≤ 9223372036854775807) (h3 : x.f3.length ≤ 9223372036854775807) : Does E 7 [.agg (S36.t .far x)] [(false, [tB true])] := D7 x _ (by
  unfold sem7
  cases h : decide (szRun x (1048576 : Int) < (0 : Int))
  · have hs := szRun_short h0 h3 h
    simp [toRun, hs, yes]
  · rfl)
end Go.Proofs.Ytbphhigmepdohaa.Am
