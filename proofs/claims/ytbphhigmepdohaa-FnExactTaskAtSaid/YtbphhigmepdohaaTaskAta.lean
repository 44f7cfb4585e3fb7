/- What the functions under TaskAt do. Conditions: none. -/
import Derived.Test.YtbphhigmepdohaaEnv
namespace Go.Proofs.Ytbphhigmepdohaa.Am
set_option linter.unusedVariables false
set_option linter.unusedSimpArgs false
open Go Go.Proofs Classical
set_option maxRecDepth 100000
set_option linter.unusedVariables false
structure S132 where
  f0 : ByteArray
  f1 : ByteArray
  f2 : Int
  f3 : Bool
  f4 : List ByteArray
def S132.t (k : Kd) (x : S132) : List (T Unit) := [tS x.f0, tS x.f1, tI x.f2, tB x.f3, .s k () 1 (x.f4.map etS)]
structure S48 where
  f0 : ByteArray
  f1 : ByteArray
  f2 : Int
  f3 : Int
  f4 : Bool
  f5 : List S132
def S48.t (k q : Kd) (x : S48) : List (T Unit) := [tS x.f0, tS x.f1, tI x.f2, tI x.f3, tB x.f4, .s k () 5 (x.f5.map (S132.t q))]
structure S53 where
  f0 : ByteArray
  f1 : ByteArray
  f2 : Int
  f3 : Int
  f4 : Bool
  f5 : List S132
def S53.t (k q : Kd) (x : S53) : List (T Unit) := [tS x.f0, tS x.f1, tI x.f2, tI x.f3, tB x.f4, .s k () 5 (x.f5.map (S132.t q))]
def yes {α : Type} (a b : α) : Bool := true
def Tot {α : Type} (o : Option α) : Prop := ∃ b, o = some b
theorem Tot.some {α : Type} (b : α) : Tot (some b) := ⟨b, rfl⟩
theorem Tot.cond {α : Type} {c : Bool} {a b : Option α} (h : Tot a) (g : Tot b) : Tot (cond c a b) := by cases c; exact g; exact h
theorem Tot.getD {α : Type} {o : Option α} (h : Tot o) (d : α) : o = Option.some (o.getD d) := by obtain ⟨b, rfl⟩ := h; rfl
theorem wrap_id (n : Int) (h : -9223372036854775808 ≤ n) (h' : n ≤ 9223372036854775807) : IntKind.wrap .i64 n = n := by
  simp only [IntKind.wrap, IntKind.bits, IntKind.signed]
  simp
  omega
theorem getI_nat {α : Type} (l : List α) (i : Nat) : getI l (i : Int) = l[i]? := by unfold getI; rw [if_pos (by omega)]; simp
theorem wrap1 (i : Nat) (h : i < 9223372036854775807) : IntKind.wrap .i64 ((i : Int) + 1) = ((i + 1 : Nat) : Int) := by rw [wrap_id _ (by omega) (by omega)]; omega
theorem take_set {α : Type} {l v : List α} {i : Nat} (hi : i < l.length) (hv : v.length = l.length) (h : v.take i = l.take i) : (v.set i l[i]).take (i + 1) = l.take (i + 1) := by
  rw [List.take_add_one, List.take_add_one, List.getElem?_set_self (by omega), List.getElem?_eq_getElem hi]
  congr 1
  rw [List.take_set_of_le (Nat.le_refl i)]
  exact h
-- function 158: loop.example/g00188/laws.szStringS
inductive X158_0 where
  | ret (v4 : Int)
  | x0 (v1 : Int)
noncomputable def loop158_0 : Nat → (List ByteArray) → Int → Int → Option X158_0
  | 0, _, _, _ => none
  | n + 1, v0, v1, v5 => cond (decide (v5 < (v0.length : Int)))
    ((getI v0 v5).bind fun g0 => cond (decide ((IntKind.wrap .i64 (v1 - (g0.size : Int))) < (0 : Int)))
      (some (.ret (-1 : Int)))
      (loop158_0 n v0 (IntKind.wrap .i64 (v1 - (g0.size : Int))) (IntKind.wrap .i64 (v5 + (1 : Int)))))
    (some (.x0 v1))
def Q158_0 (v0 : List ByteArray) (v1 : Int) (v5 : Int) : X158_0 → Prop
  | .ret zv4 => Loops E 158 (lpAt Try.f158 0) (stL 28 [(0, .one (.s .far () 1 (v0.map etS))), (1, .one (tI v1)), (5, .one (tI v5))]) .ret (stL 28 [(4, .one (tI zv4))])
  | .x0 zv1 => Loops E 158 (lpAt Try.f158 0) (stL 28 [(0, .one (.s .far () 1 (v0.map etS))), (1, .one (tI v1)), (5, .one (tI v5))]) (.exit 0) (stL 28 [(1, .one (tI zv1))])
theorem R158_0_0 (v0 : List ByteArray) (v1 : Int) (v5 : Int) (g0 : ByteArray) (h0 : (decide (v5 < (v0.length : Int))) = true) (h1 : getI v0 v5 = some g0) (h2 : (decide ((IntKind.wrap .i64 (v1 - (g0.size : Int))) < (0 : Int))) = true) : Round E 158 (lpAt Try.f158 0) (stL 28 [(0, .one (.s .far () 1 (v0.map etS))), (1, .one (tI v1)), (5, .one (tI v5))]) .ret (stL 28 [(4, .one (tI (-1 : Int)))]) :=
  Round.path [.val (.int .i64 (v0.length : Int)), .b true, .row (etS g0), .no, .b true] [fun _ => ((v0.map etS).length : Int) = (v0.length : Int), fun _ => (decide (v5 < (v0.length : Int))) = true, fun _ => 0 ≤ v5 ∧ (v0.map etS)[v5.toNat]? = some (etS g0), fun _ => (decide ((IntKind.wrap .i64 (v1 - (g0.size : Int))) < (0 : Int))) = true] (fun k => by kernel_rfl) ⟨Ev.c lenMap, Ev.c h0, Ev.c (getRow h1), Ev.c h2, trivial⟩
theorem R158_0_1 (v0 : List ByteArray) (v1 : Int) (v5 : Int) (g0 : ByteArray) (h0 : (decide (v5 < (v0.length : Int))) = true) (h1 : getI v0 v5 = some g0) (h2 : (decide ((IntKind.wrap .i64 (v1 - (g0.size : Int))) < (0 : Int))) = false) : Round E 158 (lpAt Try.f158 0) (stL 28 [(0, .one (.s .far () 1 (v0.map etS))), (1, .one (tI v1)), (5, .one (tI v5))]) .normal (stL 28 [(0, .one (.s .far () 1 (v0.map etS))), (1, .one (tI (IntKind.wrap .i64 (v1 - (g0.size : Int))))), (5, .one (tI (IntKind.wrap .i64 (v5 + (1 : Int)))))]) :=
  Round.path [.val (.int .i64 (v0.length : Int)), .b true, .row (etS g0), .no, .b false] [fun _ => ((v0.map etS).length : Int) = (v0.length : Int), fun _ => (decide (v5 < (v0.length : Int))) = true, fun _ => 0 ≤ v5 ∧ (v0.map etS)[v5.toNat]? = some (etS g0), fun _ => (decide ((IntKind.wrap .i64 (v1 - (g0.size : Int))) < (0 : Int))) = false] (fun k => by kernel_rfl) ⟨Ev.c lenMap, Ev.c h0, Ev.c (getRow h1), Ev.c h2, trivial⟩
theorem R158_0_2 (v0 : List ByteArray) (v1 : Int) (v5 : Int) (h0 : (decide (v5 < (v0.length : Int))) = false) : Round E 158 (lpAt Try.f158 0) (stL 28 [(0, .one (.s .far () 1 (v0.map etS))), (1, .one (tI v1)), (5, .one (tI v5))]) (.exit 0) (stL 28 [(1, .one (tI v1))]) :=
  Round.path [.val (.int .i64 (v0.length : Int)), .b false] [fun _ => ((v0.map etS).length : Int) = (v0.length : Int), fun _ => (decide (v5 < (v0.length : Int))) = false] (fun k => by kernel_rfl) ⟨Ev.c lenMap, Ev.c h0, trivial⟩
theorem L158_0 (n : Nat) : ∀ (v0 : List ByteArray) (v1 : Int) (v5 : Int), Ans (loop158_0 n v0 v1 v5) (Q158_0 v0 v1 v5) := by
  induction n with
  | zero => intros; exact Ans.none
  | succ n ih =>
    intro v0 v1 v5
    unfold loop158_0
    refine Ans.ite (fun h0 => ?_) (fun h0 => ?_)
    · refine Ans.bind (fun g0 h1 => ?_)
      refine Ans.ite (fun h2 => ?_) (fun h2 => ?_)
      · exact Ans.some (Loops.stop (R158_0_0 v0 v1 v5 g0 h0 h1 h2) (by intro h; cases h))
      · exact (ih v0 (IntKind.wrap .i64 (v1 - (g0.size : Int))) (IntKind.wrap .i64 (v5 + (1 : Int)))).mono fun y hy => by cases y <;> exact Loops.next (R158_0_1 v0 v1 v5 g0 h0 h1 h2) hy
    · exact Ans.some (Loops.stop (R158_0_2 v0 v1 v5 h0) (by intro h; cases h))
theorem P158_0 (x0 : List ByteArray) (x1 : Int) (h0 : (decide ((IntKind.wrap .i64 (x1 - (x0.length : Int))) < (0 : Int))) = true) : Does E 158 [.one (.s .far () 1 (x0.map etS)), .one (tI x1)] [(false, [tI (-1 : Int)])] :=
  Does.path (fn := Try.f158) [.val (.int .i64 (x0.length : Int)), .no, .b true] [fun _ => ((x0.map etS).length : Int) = (x0.length : Int), fun _ => (decide ((IntKind.wrap .i64 (x1 - (x0.length : Int))) < (0 : Int))) = true] rfl rfl (fun k => by kernel_rfl) ⟨Ev.c lenMap, Ev.c h0, trivial⟩
theorem P158_1 (x0 : List ByteArray) (x1 : Int) (w0_4 : Int) (h0 : (decide ((IntKind.wrap .i64 (x1 - (x0.length : Int))) < (0 : Int))) = false) (h1 : Loops E 158 (lpAt Try.f158 0) (stL 28 [(0, .one (.s .far () 1 (x0.map etS))), (1, .one (tI (IntKind.wrap .i64 (x1 - (x0.length : Int))))), (5, .one (tI (0 : Int)))]) .ret (stL 28 [(4, .one (tI w0_4))])) : Does E 158 [.one (.s .far () 1 (x0.map etS)), .one (tI x1)] [(false, [tI w0_4])] :=
  Does.path (fn := Try.f158) [.val (.int .i64 (x0.length : Int)), .no, .b false, .lp .ret (stL 28 [(4, .one (tI w0_4))])] [fun _ => ((x0.map etS).length : Int) = (x0.length : Int), fun _ => (decide ((IntKind.wrap .i64 (x1 - (x0.length : Int))) < (0 : Int))) = false, fun k => LoopK E 158 (lpAt Try.f158 0) (stL 28 [(0, .one (.s .far () 1 (x0.map etS))), (1, .one (tI (IntKind.wrap .i64 (x1 - (x0.length : Int))))), (5, .one (tI (0 : Int)))]) .ret (stL 28 [(4, .one (tI w0_4))]) k k] rfl rfl (fun k => by kernel_rfl) ⟨Ev.c lenMap, Ev.c h0, Loops.ev h1, trivial⟩
theorem P158_2 (x0 : List ByteArray) (x1 : Int) (w0_1 : Int) (h0 : (decide ((IntKind.wrap .i64 (x1 - (x0.length : Int))) < (0 : Int))) = false) (h1 : Loops E 158 (lpAt Try.f158 0) (stL 28 [(0, .one (.s .far () 1 (x0.map etS))), (1, .one (tI (IntKind.wrap .i64 (x1 - (x0.length : Int))))), (5, .one (tI (0 : Int)))]) (.exit 0) (stL 28 [(1, .one (tI w0_1))])) : Does E 158 [.one (.s .far () 1 (x0.map etS)), .one (tI x1)] [(false, [tI w0_1])] :=
  Does.path (fn := Try.f158) [.val (.int .i64 (x0.length : Int)), .no, .b false, .lp (.exit 0) (stL 28 [(1, .one (tI w0_1))])] [fun _ => ((x0.map etS).length : Int) = (x0.length : Int), fun _ => (decide ((IntKind.wrap .i64 (x1 - (x0.length : Int))) < (0 : Int))) = false, fun k => LoopK E 158 (lpAt Try.f158 0) (stL 28 [(0, .one (.s .far () 1 (x0.map etS))), (1, .one (tI (IntKind.wrap .i64 (x1 - (x0.length : Int))))), (5, .one (tI (0 : Int)))]) (.exit 0) (stL 28 [(1, .one (tI w0_1))]) k k] rfl rfl (fun k => by kernel_rfl) ⟨Ev.c lenMap, Ev.c h0, Loops.ev h1, trivial⟩
noncomputable def sem158 (n : Nat) (x0 : List ByteArray) (x1 : Int) : Option (Int) :=
    cond (decide ((IntKind.wrap .i64 (x1 - (x0.length : Int))) < (0 : Int)))
      (some ((-1 : Int)))
      ((loop158_0 n x0 (IntKind.wrap .i64 (x1 - (x0.length : Int))) (0 : Int)).bind fun y => match y with
        | .ret w0_4 => (some (w0_4))
        | .x0 w0_1 => (some (w0_1)))
theorem D158 (n : Nat) (x0 : List ByteArray) (x1 : Int) : Ans (sem158 n x0 x1) (fun r => Does E 158 [.one (.s .far () 1 (x0.map etS)), .one (tI x1)] [(false, [tI r])]) := by
  unfold sem158
  refine Ans.ite (fun h0 => ?_) (fun h0 => ?_)
  · exact Ans.some (P158_0 x0 x1 h0)
  · refine Ans.bind (fun y hy => ?_)
    replace hy := L158_0 n x0 (IntKind.wrap .i64 (x1 - (x0.length : Int))) (0 : Int) y hy
    cases y with
    | ret w0_4 =>
      have h1 := hy
      exact Ans.some (P158_1 x0 x1 w0_4 h0 h1)
    | x0 w0_1 =>
      have h1 := hy
      exact Ans.some (P158_2 x0 x1 w0_1 h0 h1)
def goS : List ByteArray → Int → Option Int
  | [], n => some n
  | s :: l, n => cond (decide (IntKind.wrap .i64 (n - (s.size : Int)) < 0)) none (goS l (IntKind.wrap .i64 (n - (s.size : Int))))
def szStrs (l : List ByteArray) (n : Int) : Int := cond (decide (IntKind.wrap .i64 (n - (l.length : Int)) < 0)) (-1) ((goS l (IntKind.wrap .i64 (n - (l.length : Int)))).getD (-1))
def endS : Option Int → X158_0
  | some r => .x0 r
  | none => .ret (-1)
theorem loop158_ok (l : List ByteArray) (hl : l.length ≤ 9223372036854775807) : ∀ (d i k : Nat) (m : Int), i + d = l.length → d < k → loop158_0 k l m i = some (endS (goS (l.drop i) m))
  | 0, i, n, m, hi, hn => by
    obtain ⟨n, rfl⟩ : ∃ m, n = m + 1 := ⟨n - 1, by omega⟩
    simp only [loop158_0]
    rw [show decide ((i : Int) < (l.length : Int)) = false from decide_eq_false (by omega), List.drop_of_length_le (by omega)]
    rfl
  | k + 1, i, n, m, hi, hn => by
    obtain ⟨n, rfl⟩ : ∃ m, n = m + 1 := ⟨n - 1, by omega⟩
    have hil : i < l.length := by omega
    simp only [loop158_0]
    rw [show decide ((i : Int) < (l.length : Int)) = true from decide_eq_true (by omega), getI_nat, List.getElem?_eq_getElem hil, wrap1 i (by omega)]
    simp only [cond_true, Option.bind_some]
    rw [loop158_ok l hl k (i + 1) n _ (by omega) (by omega), List.drop_eq_getElem_cons hil, goS]
    cases decide (IntKind.wrap .i64 (m - (l[i].size : Int)) < 0) <;> rfl
theorem T158 (l : List ByteArray) (n : Int) (hl : l.length ≤ 9223372036854775807) : Does E 158 [.one (.s .far () 1 (l.map etS)), .one (tI n)] [(false, [tI (szStrs l n)])] := D158 (l.length + 1) l n _ (by
  unfold sem158 szStrs
  rw [show (0 : Int) = ((0 : Nat) : Int) from rfl, loop158_ok l hl l.length 0 _ _ (by omega) (by omega), List.drop_zero]
  cases decide (IntKind.wrap .i64 (n - (l.length : Int)) < ((0 : Nat) : Int))
  · cases goS l (IntKind.wrap .i64 (n - (l.length : Int))) <;> rfl
  · rfl)
theorem sub_id (n : Int) (k : Nat) (h0 : 0 ≤ n) (h1 : n ≤ 1048576) (hk : k ≤ 9223372036854775807) : IntKind.wrap .i64 (n - (k : Int)) = n - (k : Int) := wrap_id _ (by omega) (by omega)
theorem goS_le : ∀ (l : List ByteArray) (n r : Int), 0 ≤ n → n ≤ 1048576 → (∀ s ∈ l, s.size ≤ 9223372036854775807) → goS l n = some r → 0 ≤ r ∧ r ≤ n
  | [], n, r, h0, h1, hs, h => by cases h; exact ⟨h0, Int.le_refl _⟩
  | s :: l, n, r, h0, h1, hs, h => by
    simp only [goS] at h
    rw [sub_id n s.size h0 h1 (hs s (by simp))] at h
    by_cases h5 : n - (s.size : Int) < 0
    · rw [decide_eq_true h5] at h; cases h
    · rw [decide_eq_false h5] at h
      obtain ⟨g1, g2⟩ := goS_le l _ r (by omega) (by omega) (fun s hs' => hs s (by simp [hs'])) h
      omega
theorem szStrs_le (l : List ByteArray) (n : Int) (h0 : 0 ≤ n) (h1 : n ≤ 1048576) (hl : l.length ≤ 9223372036854775807) (hs : ∀ s ∈ l, s.size ≤ 9223372036854775807) (h : 0 ≤ szStrs l n) : szStrs l n ≤ n ∧ l.length ≤ 1048576 := by
  unfold szStrs at h ⊢
  rw [sub_id n l.length h0 h1 hl] at h ⊢
  by_cases h5 : n - (l.length : Int) < 0
  · rw [decide_eq_true h5] at h; simp at h
  · rw [decide_eq_false h5] at h ⊢
    simp only [cond_false] at h ⊢
    cases hg : goS l (n - (l.length : Int)) with
    | none => rw [hg] at h; simp at h
    | some r =>
      obtain ⟨g1, g2⟩ := goS_le l _ r (by omega) (by omega) hs hg
      simp only [Option.getD_some]
      omega
-- function 136: loop.example/g00188/laws.szTask
theorem L136_0 (x0 : S132) (x1 : Int) (h0 : (decide ((IntKind.wrap .i64 (x1 - (x0.f0.size : Int))) < (0 : Int))) = true) : Does E 136 [.agg (S132.t .far x0), .one (tI x1)] [(false, [tI (-1 : Int)])] :=
  Does.path (fn := Try.f136) [.no, .b true] [fun _ => (decide ((IntKind.wrap .i64 (x1 - (x0.f0.size : Int))) < (0 : Int))) = true] rfl rfl (fun k => by kernel_rfl) ⟨Ev.c h0, trivial⟩
theorem L136_1 (x0 : S132) (x1 : Int) (h0 : (decide ((IntKind.wrap .i64 (x1 - (x0.f0.size : Int))) < (0 : Int))) = false) (h1 : (decide ((IntKind.wrap .i64 ((IntKind.wrap .i64 (x1 - (x0.f0.size : Int))) - (x0.f1.size : Int))) < (0 : Int))) = true) : Does E 136 [.agg (S132.t .far x0), .one (tI x1)] [(false, [tI (-1 : Int)])] :=
  Does.path (fn := Try.f136) [.no, .b false, .no, .b true] [fun _ => (decide ((IntKind.wrap .i64 (x1 - (x0.f0.size : Int))) < (0 : Int))) = false, fun _ => (decide ((IntKind.wrap .i64 ((IntKind.wrap .i64 (x1 - (x0.f0.size : Int))) - (x0.f1.size : Int))) < (0 : Int))) = true] rfl rfl (fun k => by kernel_rfl) ⟨Ev.c h0, Ev.c h1, trivial⟩
theorem L136_2 (x0 : S132) (x1 : Int) (h0 : (decide ((IntKind.wrap .i64 (x1 - (x0.f0.size : Int))) < (0 : Int))) = false) (h1 : (decide ((IntKind.wrap .i64 ((IntKind.wrap .i64 (x1 - (x0.f0.size : Int))) - (x0.f1.size : Int))) < (0 : Int))) = false) (h2 : x0.f4.length ≤ 9223372036854775807) (h3 : (decide ((szStrs x0.f4 (IntKind.wrap .i64 ((IntKind.wrap .i64 (x1 - (x0.f0.size : Int))) - (x0.f1.size : Int)))) < (0 : Int))) = true) : Does E 136 [.agg (S132.t .far x0), .one (tI x1)] [(false, [tI (-1 : Int)])] :=
  Does.path (fn := Try.f136) [.no, .b false, .no, .b false, .ret [(false, [tI (szStrs x0.f4 (IntKind.wrap .i64 ((IntKind.wrap .i64 (x1 - (x0.f0.size : Int))) - (x0.f1.size : Int))))])], .b true] [fun _ => (decide ((IntKind.wrap .i64 (x1 - (x0.f0.size : Int))) < (0 : Int))) = false, fun _ => (decide ((IntKind.wrap .i64 ((IntKind.wrap .i64 (x1 - (x0.f0.size : Int))) - (x0.f1.size : Int))) < (0 : Int))) = false, fun k => E.C k 158 [.one (.s .far () 1 (x0.f4.map etS)), .one (tI (IntKind.wrap .i64 ((IntKind.wrap .i64 (x1 - (x0.f0.size : Int))) - (x0.f1.size : Int))))] = some [(false, [tI (szStrs x0.f4 (IntKind.wrap .i64 ((IntKind.wrap .i64 (x1 - (x0.f0.size : Int))) - (x0.f1.size : Int))))])], fun _ => (decide ((szStrs x0.f4 (IntKind.wrap .i64 ((IntKind.wrap .i64 (x1 - (x0.f0.size : Int))) - (x0.f1.size : Int)))) < (0 : Int))) = true] rfl rfl (fun k => by kernel_rfl) ⟨Ev.c h0, Ev.c h1, T158 x0.f4 (IntKind.wrap .i64 ((IntKind.wrap .i64 (x1 - (x0.f0.size : Int))) - (x0.f1.size : Int))) h2, Ev.c h3, trivial⟩
theorem L136_3 (x0 : S132) (x1 : Int) (h0 : (decide ((IntKind.wrap .i64 (x1 - (x0.f0.size : Int))) < (0 : Int))) = false) (h1 : (decide ((IntKind.wrap .i64 ((IntKind.wrap .i64 (x1 - (x0.f0.size : Int))) - (x0.f1.size : Int))) < (0 : Int))) = false) (h2 : x0.f4.length ≤ 9223372036854775807) (h3 : (decide ((szStrs x0.f4 (IntKind.wrap .i64 ((IntKind.wrap .i64 (x1 - (x0.f0.size : Int))) - (x0.f1.size : Int)))) < (0 : Int))) = false) : Does E 136 [.agg (S132.t .far x0), .one (tI x1)] [(false, [tI (szStrs x0.f4 (IntKind.wrap .i64 ((IntKind.wrap .i64 (x1 - (x0.f0.size : Int))) - (x0.f1.size : Int))))])] :=
  Does.path (fn := Try.f136) [.no, .b false, .no, .b false, .ret [(false, [tI (szStrs x0.f4 (IntKind.wrap .i64 ((IntKind.wrap .i64 (x1 - (x0.f0.size : Int))) - (x0.f1.size : Int))))])], .b false] [fun _ => (decide ((IntKind.wrap .i64 (x1 - (x0.f0.size : Int))) < (0 : Int))) = false, fun _ => (decide ((IntKind.wrap .i64 ((IntKind.wrap .i64 (x1 - (x0.f0.size : Int))) - (x0.f1.size : Int))) < (0 : Int))) = false, fun k => E.C k 158 [.one (.s .far () 1 (x0.f4.map etS)), .one (tI (IntKind.wrap .i64 ((IntKind.wrap .i64 (x1 - (x0.f0.size : Int))) - (x0.f1.size : Int))))] = some [(false, [tI (szStrs x0.f4 (IntKind.wrap .i64 ((IntKind.wrap .i64 (x1 - (x0.f0.size : Int))) - (x0.f1.size : Int))))])], fun _ => (decide ((szStrs x0.f4 (IntKind.wrap .i64 ((IntKind.wrap .i64 (x1 - (x0.f0.size : Int))) - (x0.f1.size : Int)))) < (0 : Int))) = false] rfl rfl (fun k => by kernel_rfl) ⟨Ev.c h0, Ev.c h1, T158 x0.f4 (IntKind.wrap .i64 ((IntKind.wrap .i64 (x1 - (x0.f0.size : Int))) - (x0.f1.size : Int))) h2, Ev.c h3, trivial⟩
noncomputable def sem136 (x0 : S132) (x1 : Int) : Option (Int) :=
    cond (decide ((IntKind.wrap .i64 (x1 - (x0.f0.size : Int))) < (0 : Int)))
      (some ((-1 : Int)))
      (cond (decide ((IntKind.wrap .i64 ((IntKind.wrap .i64 (x1 - (x0.f0.size : Int))) - (x0.f1.size : Int))) < (0 : Int)))
        (some ((-1 : Int)))
        (if x0.f4.length ≤ 9223372036854775807 then cond (decide ((szStrs x0.f4 (IntKind.wrap .i64 ((IntKind.wrap .i64 (x1 - (x0.f0.size : Int))) - (x0.f1.size : Int)))) < (0 : Int)))
          (some ((-1 : Int)))
          (some (szStrs x0.f4 (IntKind.wrap .i64 ((IntKind.wrap .i64 (x1 - (x0.f0.size : Int))) - (x0.f1.size : Int))))) else none))
theorem D136 (x0 : S132) (x1 : Int) : Ans (sem136 x0 x1) (fun r => Does E 136 [.agg (S132.t .far x0), .one (tI x1)] [(false, [tI r])]) := by
  unfold sem136
  refine Ans.ite (fun h0 => ?_) (fun h0 => ?_)
  · exact Ans.some (L136_0 x0 x1 h0)
  · refine Ans.ite (fun h1 => ?_) (fun h1 => ?_)
    · exact Ans.some (L136_1 x0 x1 h0 h1)
    · refine Ans.pre (fun h2 => ?_)
      refine Ans.ite (fun h3 => ?_) (fun h3 => ?_)
      · exact Ans.some (L136_2 x0 x1 h0 h1 h2 h3)
      · exact Ans.some (L136_3 x0 x1 h0 h1 h2 h3)
noncomputable def szTask (x : S132) (n : Int) : Int := (sem136 x n).getD 0
theorem T136 (x : S132) (n : Int) (h : x.f4.length ≤ 9223372036854775807) : Does E 136 [.agg (S132.t .far x), .one (tI n)] [(false, [tI (szTask x n)])] := D136 x n _ (by
  refine Tot.getD ?_ _
  unfold sem136
  simp only [if_pos h]
  repeat' (first | exact Tot.some _ | apply Tot.cond))
/-- What is known of a task that came in. -/
def Ok132 (x : S132) : Prop := x.f0.size ≤ 9223372036854775807 ∧ x.f1.size ≤ 9223372036854775807 ∧ x.f4.length ≤ 9223372036854775807 ∧ ∀ s ∈ x.f4, s.size ≤ 9223372036854775807
theorem szTask_le (x : S132) (n : Int) (h0 : 0 ≤ n) (h1 : n ≤ 1048576) (hx : Ok132 x) (h : 0 ≤ szTask x n) : szTask x n ≤ n ∧ x.f4.length ≤ 1048576 := by
  obtain ⟨k0, k1, k2, k3⟩ := hx
  unfold szTask sem136 at h ⊢
  simp only [if_pos k2] at h ⊢
  rw [sub_id n _ h0 h1 k0] at h ⊢
  by_cases h5 : n - (x.f0.size : Int) < 0
  · rw [decide_eq_true h5] at h; simp at h
  · rw [decide_eq_false h5, sub_id _ _ (by omega) (by omega) k1] at h ⊢
    by_cases h6 : n - (x.f0.size : Int) - (x.f1.size : Int) < 0
    · rw [decide_eq_true h6] at h; simp at h
    · rw [decide_eq_false h6] at h ⊢
      simp only [cond_false] at h ⊢
      by_cases h7 : szStrs x.f4 (n - (x.f0.size : Int) - (x.f1.size : Int)) < 0
      · rw [decide_eq_true h7] at h; simp at h
      · rw [decide_eq_false h7] at h ⊢
        simp only [cond_false, Option.getD_some] at h ⊢
        have := szStrs_le x.f4 (n - (x.f0.size : Int) - (x.f1.size : Int)) (by omega) (by omega) k2 k3 (by omega)
        omega
-- function 82: loop.example/g00188/laws.szTaskS
inductive X82_0 where
  | ret (v4 : Int)
  | x0 (v1 : Int)
noncomputable def loop82_0 : Nat → (List S132) → Int → Int → Option X82_0
  | 0, _, _, _ => none
  | n + 1, v0, v1, v5 => cond (decide (v5 < (v0.length : Int)))
    ((getI v0 v5).bind fun g0 => if g0.f4.length ≤ 9223372036854775807 then cond (decide ((szTask g0 v1) < (0 : Int)))
      (some (.ret (-1 : Int)))
      (loop82_0 n v0 (szTask g0 v1) (IntKind.wrap .i64 (v5 + (1 : Int)))) else none)
    (some (.x0 v1))
def Q82_0 (q0 : Kd) (v0 : List S132) (v1 : Int) (v5 : Int) : X82_0 → Prop
  | .ret zv4 => Loops E 82 (lpAt Try.f82 0) (stL 27 [(0, .one (.s .far () 5 (v0.map (S132.t q0)))), (1, .one (tI v1)), (5, .one (tI v5))]) .ret (stL 27 [(4, .one (tI zv4))])
  | .x0 zv1 => Loops E 82 (lpAt Try.f82 0) (stL 27 [(0, .one (.s .far () 5 (v0.map (S132.t q0)))), (1, .one (tI v1)), (5, .one (tI v5))]) (.exit 0) (stL 27 [(1, .one (tI zv1))])
theorem R82_0_0 (q0 : Kd) (v0 : List S132) (v1 : Int) (v5 : Int) (g0 : S132) (h0 : (decide (v5 < (v0.length : Int))) = true) (h1 : getI v0 v5 = some g0) (h2 : g0.f4.length ≤ 9223372036854775807) (h3 : (decide ((szTask g0 v1) < (0 : Int))) = true) : Round E 82 (lpAt Try.f82 0) (stL 27 [(0, .one (.s .far () 5 (v0.map (S132.t q0)))), (1, .one (tI v1)), (5, .one (tI v5))]) .ret (stL 27 [(4, .one (tI (-1 : Int)))]) :=
  Round.path [.val (.int .i64 (v0.length : Int)), .b true, .row ((S132.t q0) g0), .ret [(false, [tI (szTask g0 v1)])], .b true] [fun _ => ((v0.map (S132.t q0)).length : Int) = (v0.length : Int), fun _ => (decide (v5 < (v0.length : Int))) = true, fun _ => 0 ≤ v5 ∧ (v0.map (S132.t q0))[v5.toNat]? = some ((S132.t q0) g0), fun k => E.C k 136 [.agg (S132.t .far g0), .one (tI v1)] = some [(false, [tI (szTask g0 v1)])], fun _ => (decide ((szTask g0 v1) < (0 : Int))) = true] (fun k => by kernel_rfl) ⟨Ev.c lenMap, Ev.c h0, Ev.c (getRow h1), T136 g0 v1 h2, Ev.c h3, trivial⟩
theorem R82_0_1 (q0 : Kd) (v0 : List S132) (v1 : Int) (v5 : Int) (g0 : S132) (h0 : (decide (v5 < (v0.length : Int))) = true) (h1 : getI v0 v5 = some g0) (h2 : g0.f4.length ≤ 9223372036854775807) (h3 : (decide ((szTask g0 v1) < (0 : Int))) = false) : Round E 82 (lpAt Try.f82 0) (stL 27 [(0, .one (.s .far () 5 (v0.map (S132.t q0)))), (1, .one (tI v1)), (5, .one (tI v5))]) .normal (stL 27 [(0, .one (.s .far () 5 (v0.map (S132.t q0)))), (1, .one (tI (szTask g0 v1))), (5, .one (tI (IntKind.wrap .i64 (v5 + (1 : Int)))))]) :=
  Round.path [.val (.int .i64 (v0.length : Int)), .b true, .row ((S132.t q0) g0), .ret [(false, [tI (szTask g0 v1)])], .b false] [fun _ => ((v0.map (S132.t q0)).length : Int) = (v0.length : Int), fun _ => (decide (v5 < (v0.length : Int))) = true, fun _ => 0 ≤ v5 ∧ (v0.map (S132.t q0))[v5.toNat]? = some ((S132.t q0) g0), fun k => E.C k 136 [.agg (S132.t .far g0), .one (tI v1)] = some [(false, [tI (szTask g0 v1)])], fun _ => (decide ((szTask g0 v1) < (0 : Int))) = false] (fun k => by kernel_rfl) ⟨Ev.c lenMap, Ev.c h0, Ev.c (getRow h1), T136 g0 v1 h2, Ev.c h3, trivial⟩
theorem R82_0_2 (q0 : Kd) (v0 : List S132) (v1 : Int) (v5 : Int) (h0 : (decide (v5 < (v0.length : Int))) = false) : Round E 82 (lpAt Try.f82 0) (stL 27 [(0, .one (.s .far () 5 (v0.map (S132.t q0)))), (1, .one (tI v1)), (5, .one (tI v5))]) (.exit 0) (stL 27 [(1, .one (tI v1))]) :=
  Round.path [.val (.int .i64 (v0.length : Int)), .b false] [fun _ => ((v0.map (S132.t q0)).length : Int) = (v0.length : Int), fun _ => (decide (v5 < (v0.length : Int))) = false] (fun k => by kernel_rfl) ⟨Ev.c lenMap, Ev.c h0, trivial⟩
theorem L82_0 (q0 : Kd) (n : Nat) : ∀ (v0 : List S132) (v1 : Int) (v5 : Int), Ans (loop82_0 n v0 v1 v5) (Q82_0 q0 v0 v1 v5) := by
  induction n with
  | zero => intros; exact Ans.none
  | succ n ih =>
    intro v0 v1 v5
    unfold loop82_0
    refine Ans.ite (fun h0 => ?_) (fun h0 => ?_)
    · refine Ans.bind (fun g0 h1 => ?_)
      refine Ans.pre (fun h2 => ?_)
      refine Ans.ite (fun h3 => ?_) (fun h3 => ?_)
      · exact Ans.some (Loops.stop (R82_0_0 q0 v0 v1 v5 g0 h0 h1 h2 h3) (by intro h; cases h))
      · exact (ih v0 (szTask g0 v1) (IntKind.wrap .i64 (v5 + (1 : Int)))).mono fun y hy => by cases y <;> exact Loops.next (R82_0_1 q0 v0 v1 v5 g0 h0 h1 h2 h3) hy
    · exact Ans.some (Loops.stop (R82_0_2 q0 v0 v1 v5 h0) (by intro h; cases h))
theorem P82_0 (q0 : Kd) (x0 : List S132) (x1 : Int) (h0 : (decide ((IntKind.wrap .i64 (x1 - (x0.length : Int))) < (0 : Int))) = true) : Does E 82 [.one (.s .far () 5 (x0.map (S132.t q0))), .one (tI x1)] [(false, [tI (-1 : Int)])] :=
  Does.path (fn := Try.f82) [.val (.int .i64 (x0.length : Int)), .no, .b true] [fun _ => ((x0.map (S132.t q0)).length : Int) = (x0.length : Int), fun _ => (decide ((IntKind.wrap .i64 (x1 - (x0.length : Int))) < (0 : Int))) = true] rfl rfl (fun k => by kernel_rfl) ⟨Ev.c lenMap, Ev.c h0, trivial⟩
theorem P82_1 (q0 : Kd) (x0 : List S132) (x1 : Int) (w0_4 : Int) (h0 : (decide ((IntKind.wrap .i64 (x1 - (x0.length : Int))) < (0 : Int))) = false) (h1 : Loops E 82 (lpAt Try.f82 0) (stL 27 [(0, .one (.s .far () 5 (x0.map (S132.t q0)))), (1, .one (tI (IntKind.wrap .i64 (x1 - (x0.length : Int))))), (5, .one (tI (0 : Int)))]) .ret (stL 27 [(4, .one (tI w0_4))])) : Does E 82 [.one (.s .far () 5 (x0.map (S132.t q0))), .one (tI x1)] [(false, [tI w0_4])] :=
  Does.path (fn := Try.f82) [.val (.int .i64 (x0.length : Int)), .no, .b false, .lp .ret (stL 27 [(4, .one (tI w0_4))])] [fun _ => ((x0.map (S132.t q0)).length : Int) = (x0.length : Int), fun _ => (decide ((IntKind.wrap .i64 (x1 - (x0.length : Int))) < (0 : Int))) = false, fun k => LoopK E 82 (lpAt Try.f82 0) (stL 27 [(0, .one (.s .far () 5 (x0.map (S132.t q0)))), (1, .one (tI (IntKind.wrap .i64 (x1 - (x0.length : Int))))), (5, .one (tI (0 : Int)))]) .ret (stL 27 [(4, .one (tI w0_4))]) k k] rfl rfl (fun k => by kernel_rfl) ⟨Ev.c lenMap, Ev.c h0, Loops.ev h1, trivial⟩
theorem P82_2 (q0 : Kd) (x0 : List S132) (x1 : Int) (w0_1 : Int) (h0 : (decide ((IntKind.wrap .i64 (x1 - (x0.length : Int))) < (0 : Int))) = false) (h1 : Loops E 82 (lpAt Try.f82 0) (stL 27 [(0, .one (.s .far () 5 (x0.map (S132.t q0)))), (1, .one (tI (IntKind.wrap .i64 (x1 - (x0.length : Int))))), (5, .one (tI (0 : Int)))]) (.exit 0) (stL 27 [(1, .one (tI w0_1))])) : Does E 82 [.one (.s .far () 5 (x0.map (S132.t q0))), .one (tI x1)] [(false, [tI w0_1])] :=
  Does.path (fn := Try.f82) [.val (.int .i64 (x0.length : Int)), .no, .b false, .lp (.exit 0) (stL 27 [(1, .one (tI w0_1))])] [fun _ => ((x0.map (S132.t q0)).length : Int) = (x0.length : Int), fun _ => (decide ((IntKind.wrap .i64 (x1 - (x0.length : Int))) < (0 : Int))) = false, fun k => LoopK E 82 (lpAt Try.f82 0) (stL 27 [(0, .one (.s .far () 5 (x0.map (S132.t q0)))), (1, .one (tI (IntKind.wrap .i64 (x1 - (x0.length : Int))))), (5, .one (tI (0 : Int)))]) (.exit 0) (stL 27 [(1, .one (tI w0_1))]) k k] rfl rfl (fun k => by kernel_rfl) ⟨Ev.c lenMap, Ev.c h0, Loops.ev h1, trivial⟩
noncomputable def sem82 (n : Nat) (x0 : List S132) (x1 : Int) : Option (Int) :=
    cond (decide ((IntKind.wrap .i64 (x1 - (x0.length : Int))) < (0 : Int)))
      (some ((-1 : Int)))
      ((loop82_0 n x0 (IntKind.wrap .i64 (x1 - (x0.length : Int))) (0 : Int)).bind fun y => match y with
        | .ret w0_4 => (some (w0_4))
        | .x0 w0_1 => (some (w0_1)))
theorem D82 (q0 : Kd) (n : Nat) (x0 : List S132) (x1 : Int) : Ans (sem82 n x0 x1) (fun r => Does E 82 [.one (.s .far () 5 (x0.map (S132.t q0))), .one (tI x1)] [(false, [tI r])]) := by
  unfold sem82
  refine Ans.ite (fun h0 => ?_) (fun h0 => ?_)
  · exact Ans.some (P82_0 q0 x0 x1 h0)
  · refine Ans.bind (fun y hy => ?_)
    replace hy := L82_0 q0 n x0 (IntKind.wrap .i64 (x1 - (x0.length : Int))) (0 : Int) y hy
    cases y with
    | ret w0_4 =>
      have h1 := hy
      exact Ans.some (P82_1 q0 x0 x1 w0_4 h0 h1)
    | x0 w0_1 =>
      have h1 := hy
      exact Ans.some (P82_2 q0 x0 x1 w0_1 h0 h1)
noncomputable def goT : List S132 → Int → Option Int
  | [], n => some n
  | s :: l, n => cond (decide (szTask s n < 0)) none (goT l (szTask s n))
noncomputable def szTasks (l : List S132) (n : Int) : Int := cond (decide (IntKind.wrap .i64 (n - (l.length : Int)) < 0)) (-1) ((goT l (IntKind.wrap .i64 (n - (l.length : Int)))).getD (-1))
def endT : Option Int → X82_0
  | some r => .x0 r
  | none => .ret (-1)
theorem loop82_ok (l : List S132) (hl : l.length ≤ 9223372036854775807) (ha : ∀ y ∈ l, y.f4.length ≤ 9223372036854775807) : ∀ (d i k : Nat) (m : Int), i + d = l.length → d < k → loop82_0 k l m i = some (endT (goT (l.drop i) m))
  | 0, i, n, m, hi, hn => by
    obtain ⟨n, rfl⟩ : ∃ m, n = m + 1 := ⟨n - 1, by omega⟩
    simp only [loop82_0]
    rw [show decide ((i : Int) < (l.length : Int)) = false from decide_eq_false (by omega), List.drop_of_length_le (by omega)]
    rfl
  | k + 1, i, n, m, hi, hn => by
    obtain ⟨n, rfl⟩ : ∃ m, n = m + 1 := ⟨n - 1, by omega⟩
    have hil : i < l.length := by omega
    simp only [loop82_0]
    rw [show decide ((i : Int) < (l.length : Int)) = true from decide_eq_true (by omega), getI_nat, List.getElem?_eq_getElem hil, wrap1 i (by omega)]
    simp only [cond_true, Option.bind_some]
    rw [if_pos (ha _ (List.getElem_mem hil)), loop82_ok l hl ha k (i + 1) n _ (by omega) (by omega), List.drop_eq_getElem_cons hil, goT]
    cases decide (szTask l[i] m < 0) <;> rfl
theorem T82 {q : Kd} (l : List S132) (n : Int) (hl : l.length ≤ 9223372036854775807) (ha : ∀ y ∈ l, y.f4.length ≤ 9223372036854775807) : Does E 82 [.one (.s .far () 5 (l.map (S132.t q))), .one (tI n)] [(false, [tI (szTasks l n)])] := D82 q (l.length + 1) l n _ (by
  unfold sem82 szTasks
  rw [show (0 : Int) = ((0 : Nat) : Int) from rfl, loop82_ok l hl ha l.length 0 _ _ (by omega) (by omega), List.drop_zero]
  cases decide (IntKind.wrap .i64 (n - (l.length : Int)) < ((0 : Nat) : Int))
  · cases goT l (IntKind.wrap .i64 (n - (l.length : Int))) <;> rfl
  · rfl)
theorem goT_le : ∀ (l : List S132) (n r : Int), 0 ≤ n → n ≤ 1048576 → (∀ s ∈ l, Ok132 s) → goT l n = some r → 0 ≤ r ∧ r ≤ n ∧ ∀ s ∈ l, s.f4.length ≤ 1048576
  | [], n, r, h0, h1, hs, h => by cases h; exact ⟨h0, Int.le_refl _, fun s hs => by cases hs⟩
  | s :: l, n, r, h0, h1, hs, h => by
    simp only [goT] at h
    by_cases h5 : szTask s n < 0
    · rw [decide_eq_true h5] at h; cases h
    · rw [decide_eq_false h5] at h
      obtain ⟨k1, k2⟩ := szTask_le s n h0 h1 (hs s (by simp)) (by omega)
      obtain ⟨g1, g2, g3⟩ := goT_le l _ r (by omega) (by omega) (fun s hs' => hs s (by simp [hs'])) h
      refine ⟨g1, by omega, fun y hy => ?_⟩
      rcases List.mem_cons.1 hy with rfl | hy
      · exact k2
      · exact g3 y hy
theorem szTasks_le (l : List S132) (n : Int) (h0 : 0 ≤ n) (h1 : n ≤ 1048576) (hl : l.length ≤ 9223372036854775807) (hs : ∀ s ∈ l, Ok132 s) (h : 0 ≤ szTasks l n) : l.length ≤ 1048576 ∧ ∀ s ∈ l, s.f4.length ≤ 1048576 := by
  unfold szTasks at h
  rw [sub_id n l.length h0 h1 hl] at h
  by_cases h5 : n - (l.length : Int) < 0
  · rw [decide_eq_true h5] at h; simp at h
  · rw [decide_eq_false h5] at h
    simp only [cond_false] at h
    cases hg : goT l (n - (l.length : Int)) with
    | none => rw [hg] at h; simp at h
    | some r => exact ⟨by omega, (goT_le l _ r (by omega) (by omega) hs hg).2.2⟩
-- function 30: loop.example/g00188/laws.szDag
theorem L30_0 (q0 : Kd) (x0 : S48) (x1 : Int) (h0 : (decide ((IntKind.wrap .i64 (x1 - (x0.f0.size : Int))) < (0 : Int))) = true) : Does E 30 [.agg (S48.t .far q0 x0), .one (tI x1)] [(false, [tI (-1 : Int)])] :=
  Does.path (fn := Try.f30) [.no, .b true] [fun _ => (decide ((IntKind.wrap .i64 (x1 - (x0.f0.size : Int))) < (0 : Int))) = true] rfl rfl (fun k => by kernel_rfl) ⟨Ev.c h0, trivial⟩
theorem L30_1 (q0 : Kd) (x0 : S48) (x1 : Int) (h0 : (decide ((IntKind.wrap .i64 (x1 - (x0.f0.size : Int))) < (0 : Int))) = false) (h1 : (decide ((IntKind.wrap .i64 ((IntKind.wrap .i64 (x1 - (x0.f0.size : Int))) - (x0.f1.size : Int))) < (0 : Int))) = true) : Does E 30 [.agg (S48.t .far q0 x0), .one (tI x1)] [(false, [tI (-1 : Int)])] :=
  Does.path (fn := Try.f30) [.no, .b false, .no, .b true] [fun _ => (decide ((IntKind.wrap .i64 (x1 - (x0.f0.size : Int))) < (0 : Int))) = false, fun _ => (decide ((IntKind.wrap .i64 ((IntKind.wrap .i64 (x1 - (x0.f0.size : Int))) - (x0.f1.size : Int))) < (0 : Int))) = true] rfl rfl (fun k => by kernel_rfl) ⟨Ev.c h0, Ev.c h1, trivial⟩
theorem L30_2 (q0 : Kd) (x0 : S48) (x1 : Int) (h0 : (decide ((IntKind.wrap .i64 (x1 - (x0.f0.size : Int))) < (0 : Int))) = false) (h1 : (decide ((IntKind.wrap .i64 ((IntKind.wrap .i64 (x1 - (x0.f0.size : Int))) - (x0.f1.size : Int))) < (0 : Int))) = false) (h2 : x0.f5.length ≤ 9223372036854775807) (h3 : ∀ y ∈ x0.f5, y.f4.length ≤ 9223372036854775807) (h4 : (decide ((szTasks x0.f5 (IntKind.wrap .i64 ((IntKind.wrap .i64 (x1 - (x0.f0.size : Int))) - (x0.f1.size : Int)))) < (0 : Int))) = true) : Does E 30 [.agg (S48.t .far q0 x0), .one (tI x1)] [(false, [tI (-1 : Int)])] :=
  Does.path (fn := Try.f30) [.no, .b false, .no, .b false, .ret [(false, [tI (szTasks x0.f5 (IntKind.wrap .i64 ((IntKind.wrap .i64 (x1 - (x0.f0.size : Int))) - (x0.f1.size : Int))))])], .b true] [fun _ => (decide ((IntKind.wrap .i64 (x1 - (x0.f0.size : Int))) < (0 : Int))) = false, fun _ => (decide ((IntKind.wrap .i64 ((IntKind.wrap .i64 (x1 - (x0.f0.size : Int))) - (x0.f1.size : Int))) < (0 : Int))) = false, fun k => E.C k 82 [.one (.s .far () 5 (x0.f5.map (S132.t q0))), .one (tI (IntKind.wrap .i64 ((IntKind.wrap .i64 (x1 - (x0.f0.size : Int))) - (x0.f1.size : Int))))] = some [(false, [tI (szTasks x0.f5 (IntKind.wrap .i64 ((IntKind.wrap .i64 (x1 - (x0.f0.size : Int))) - (x0.f1.size : Int))))])], fun _ => (decide ((szTasks x0.f5 (IntKind.wrap .i64 ((IntKind.wrap .i64 (x1 - (x0.f0.size : Int))) - (x0.f1.size : Int)))) < (0 : Int))) = true] rfl rfl (fun k => by kernel_rfl) ⟨Ev.c h0, Ev.c h1, T82 x0.f5 (IntKind.wrap .i64 ((IntKind.wrap .i64 (x1 - (x0.f0.size : Int))) - (x0.f1.size : Int))) h2 h3, Ev.c h4, trivial⟩
theorem L30_3 (q0 : Kd) (x0 : S48) (x1 : Int) (h0 : (decide ((IntKind.wrap .i64 (x1 - (x0.f0.size : Int))) < (0 : Int))) = false) (h1 : (decide ((IntKind.wrap .i64 ((IntKind.wrap .i64 (x1 - (x0.f0.size : Int))) - (x0.f1.size : Int))) < (0 : Int))) = false) (h2 : x0.f5.length ≤ 9223372036854775807) (h3 : ∀ y ∈ x0.f5, y.f4.length ≤ 9223372036854775807) (h4 : (decide ((szTasks x0.f5 (IntKind.wrap .i64 ((IntKind.wrap .i64 (x1 - (x0.f0.size : Int))) - (x0.f1.size : Int)))) < (0 : Int))) = false) : Does E 30 [.agg (S48.t .far q0 x0), .one (tI x1)] [(false, [tI (szTasks x0.f5 (IntKind.wrap .i64 ((IntKind.wrap .i64 (x1 - (x0.f0.size : Int))) - (x0.f1.size : Int))))])] :=
  Does.path (fn := Try.f30) [.no, .b false, .no, .b false, .ret [(false, [tI (szTasks x0.f5 (IntKind.wrap .i64 ((IntKind.wrap .i64 (x1 - (x0.f0.size : Int))) - (x0.f1.size : Int))))])], .b false] [fun _ => (decide ((IntKind.wrap .i64 (x1 - (x0.f0.size : Int))) < (0 : Int))) = false, fun _ => (decide ((IntKind.wrap .i64 ((IntKind.wrap .i64 (x1 - (x0.f0.size : Int))) - (x0.f1.size : Int))) < (0 : Int))) = false, fun k => E.C k 82 [.one (.s .far () 5 (x0.f5.map (S132.t q0))), .one (tI (IntKind.wrap .i64 ((IntKind.wrap .i64 (x1 - (x0.f0.size : Int))) - (x0.f1.size : Int))))] = some [(false, [tI (szTasks x0.f5 (IntKind.wrap .i64 ((IntKind.wrap .i64 (x1 - (x0.f0.size : Int))) - (x0.f1.size : Int))))])], fun _ => (decide ((szTasks x0.f5 (IntKind.wrap .i64 ((IntKind.wrap .i64 (x1 - (x0.f0.size : Int))) - (x0.f1.size : Int)))) < (0 : Int))) = false] rfl rfl (fun k => by kernel_rfl) ⟨Ev.c h0, Ev.c h1, T82 x0.f5 (IntKind.wrap .i64 ((IntKind.wrap .i64 (x1 - (x0.f0.size : Int))) - (x0.f1.size : Int))) h2 h3, Ev.c h4, trivial⟩
noncomputable def sem30 (x0 : S48) (x1 : Int) : Option (Int) :=
    cond (decide ((IntKind.wrap .i64 (x1 - (x0.f0.size : Int))) < (0 : Int)))
      (some ((-1 : Int)))
      (cond (decide ((IntKind.wrap .i64 ((IntKind.wrap .i64 (x1 - (x0.f0.size : Int))) - (x0.f1.size : Int))) < (0 : Int)))
        (some ((-1 : Int)))
        (if x0.f5.length ≤ 9223372036854775807 then if ∀ y ∈ x0.f5, y.f4.length ≤ 9223372036854775807 then cond (decide ((szTasks x0.f5 (IntKind.wrap .i64 ((IntKind.wrap .i64 (x1 - (x0.f0.size : Int))) - (x0.f1.size : Int)))) < (0 : Int)))
          (some ((-1 : Int)))
          (some (szTasks x0.f5 (IntKind.wrap .i64 ((IntKind.wrap .i64 (x1 - (x0.f0.size : Int))) - (x0.f1.size : Int))))) else none else none))
theorem D30 (q0 : Kd) (x0 : S48) (x1 : Int) : Ans (sem30 x0 x1) (fun r => Does E 30 [.agg (S48.t .far q0 x0), .one (tI x1)] [(false, [tI r])]) := by
  unfold sem30
  refine Ans.ite (fun h0 => ?_) (fun h0 => ?_)
  · exact Ans.some (L30_0 q0 x0 x1 h0)
  · refine Ans.ite (fun h1 => ?_) (fun h1 => ?_)
    · exact Ans.some (L30_1 q0 x0 x1 h0 h1)
    · refine Ans.pre (fun h2 => ?_)
      refine Ans.pre (fun h3 => ?_)
      refine Ans.ite (fun h4 => ?_) (fun h4 => ?_)
      · exact Ans.some (L30_2 q0 x0 x1 h0 h1 h2 h3 h4)
      · exact Ans.some (L30_3 q0 x0 x1 h0 h1 h2 h3 h4)
noncomputable def szDag (x : S48) (n : Int) : Int := (sem30 x n).getD 0
theorem T30 {q : Kd} (x : S48) (n : Int) (h : x.f5.length ≤ 9223372036854775807) (ha : ∀ y ∈ x.f5, y.f4.length ≤ 9223372036854775807) : Does E 30 [.agg (S48.t .far q x), .one (tI n)] [(false, [tI (szDag x n)])] := D30 q x n _ (by
  refine Tot.getD ?_ _
  unfold sem30
  simp only [if_pos h, if_pos ha]
  repeat' (first | exact Tot.some _ | apply Tot.cond))
theorem szDag_short (x : S48) (h0 : x.f0.size ≤ 9223372036854775807) (h1 : x.f1.size ≤ 9223372036854775807) (hl : x.f5.length ≤ 9223372036854775807) (hs : ∀ s ∈ x.f5, Ok132 s) (h : decide (szDag x (1048576 : Int) < (0 : Int)) = false) : x.f5.length ≤ 1048576 ∧ ∀ s ∈ x.f5, s.f4.length ≤ 1048576 := by
  unfold szDag sem30 at h
  have ha : ∀ y ∈ x.f5, y.f4.length ≤ 9223372036854775807 := fun y hy => (hs y hy).2.2.1
  simp only [if_pos hl, if_pos ha] at h
  rw [sub_id _ _ (by omega) (by omega) h0] at h
  by_cases h5 : (1048576 : Int) - (x.f0.size : Int) < 0
  · rw [decide_eq_true h5] at h; simp at h
  · rw [decide_eq_false h5, sub_id _ _ (by omega) (by omega) h1] at h
    by_cases h6 : (1048576 : Int) - (x.f0.size : Int) - (x.f1.size : Int) < 0
    · rw [decide_eq_true h6] at h; simp at h
    · rw [decide_eq_false h6] at h
      simp only [cond_false] at h
      by_cases h7 : szTasks x.f5 ((1048576 : Int) - (x.f0.size : Int) - (x.f1.size : Int)) < 0
      · rw [decide_eq_true h7] at h; simp at h
      · exact szTasks_le x.f5 ((1048576 : Int) - (x.f0.size : Int) - (x.f1.size : Int)) (by omega) (by omega) hl hs (by omega)
-- function 159: loop.example/g00188/laws.toStringS
inductive X159_0 where
  | x0 (v3 : List ByteArray)
noncomputable def loop159_0 : Nat → (List ByteArray) → (List ByteArray) → Int → Option X159_0
  | 0, _, _, _ => none
  | n + 1, v0, v3, v4 => cond (decide (v4 < (v0.length : Int)))
    ((getI v0 v4).bind fun g0 => (getI v3 v4).bind fun g1 => loop159_0 n v0 (v3.set v4.toNat g0) (IntKind.wrap .i64 (v4 + (1 : Int))))
    (some (.x0 v3))
def Q159_0 (v0 : List ByteArray) (v3 : List ByteArray) (v4 : Int) : X159_0 → Prop
  | .x0 zv3 => Loops E 159 (lpAt Try.f159 0) (stL 22 [(0, .one (.s .far () 1 (v0.map etS))), (3, .one (.s .own () 1 (v3.map etS))), (4, .one (tI v4))]) (.exit 0) (stL 22 [(3, .one (.s .own () 1 (zv3.map etS)))])
theorem R159_0_0 (v0 : List ByteArray) (v3 : List ByteArray) (v4 : Int) (g0 : ByteArray) (g1 : ByteArray) (h0 : (decide (v4 < (v0.length : Int))) = true) (h1 : getI v0 v4 = some g0) (h2 : getI v3 v4 = some g1) : Round E 159 (lpAt Try.f159 0) (stL 22 [(0, .one (.s .far () 1 (v0.map etS))), (3, .one (.s .own () 1 (v3.map etS))), (4, .one (tI v4))]) .normal (stL 22 [(0, .one (.s .far () 1 (v0.map etS))), (3, .one (.s .own () 1 ((v3.set v4.toNat g0).map etS))), (4, .one (tI (IntKind.wrap .i64 (v4 + (1 : Int)))))]) :=
  Round.path [.val (.int .i64 (v0.length : Int)), .b true, .row (etS g0), .row (etS g1), .rows ((v3.set v4.toNat g0).map etS)] [fun _ => ((v0.map etS).length : Int) = (v0.length : Int), fun _ => (decide (v4 < (v0.length : Int))) = true, fun _ => 0 ≤ v4 ∧ (v0.map etS)[v4.toNat]? = some (etS g0), fun _ => 0 ≤ v4 ∧ v4 < ((v3.map etS).length : Int), fun _ => (v3.map etS)[0 + v4.toNat]? = some (etS g1), fun _ => (v3.map etS).set (0 + v4.toNat) (spliceAt (etS g1) 0 [tS g0]) = (v3.set v4.toNat g0).map etS] (fun k => by kernel_rfl) ⟨Ev.c lenMap, Ev.c h0, Ev.c (getRow h1), Ev.c (getLt h2), Ev.c (getRow0 h2), Ev.c (setMap (by rfl)), trivial⟩
theorem R159_0_1 (v0 : List ByteArray) (v3 : List ByteArray) (v4 : Int) (h0 : (decide (v4 < (v0.length : Int))) = false) : Round E 159 (lpAt Try.f159 0) (stL 22 [(0, .one (.s .far () 1 (v0.map etS))), (3, .one (.s .own () 1 (v3.map etS))), (4, .one (tI v4))]) (.exit 0) (stL 22 [(3, .one (.s .own () 1 (v3.map etS)))]) :=
  Round.path [.val (.int .i64 (v0.length : Int)), .b false] [fun _ => ((v0.map etS).length : Int) = (v0.length : Int), fun _ => (decide (v4 < (v0.length : Int))) = false] (fun k => by kernel_rfl) ⟨Ev.c lenMap, Ev.c h0, trivial⟩
theorem L159_0 (n : Nat) : ∀ (v0 : List ByteArray) (v3 : List ByteArray) (v4 : Int), Ans (loop159_0 n v0 v3 v4) (Q159_0 v0 v3 v4) := by
  induction n with
  | zero => intros; exact Ans.none
  | succ n ih =>
    intro v0 v3 v4
    unfold loop159_0
    refine Ans.ite (fun h0 => ?_) (fun h0 => ?_)
    · refine Ans.bind (fun g0 h1 => ?_)
      refine Ans.bind (fun g1 h2 => ?_)
      exact (ih v0 (v3.set v4.toNat g0) (IntKind.wrap .i64 (v4 + (1 : Int)))).mono fun y hy => by cases y <;> exact Loops.next (R159_0_0 v0 v3 v4 g0 g1 h0 h1 h2) hy
    · exact Ans.some (Loops.stop (R159_0_1 v0 v3 v4 h0) (by intro h; cases h))
theorem P159_0 (x0 : List ByteArray) (w0_3 : List ByteArray) (h0 : 0 ≤ (x0.length : Int) ∧ (x0.length : Int) ≤ (x0.length : Int) ∧ ((16 : Nat) : Int) * (x0.length : Int) ≤ 281474976710656 ∧ (x0.length : Int) ≤ 4611686018427387904) (h1 : Loops E 159 (lpAt Try.f159 0) (stL 22 [(0, .one (.s .far () 1 (x0.map etS))), (3, .one (.s .own () 1 ((List.replicate (x0.length : Int).toNat ByteArray.empty).map etS))), (4, .one (tI (0 : Int)))]) (.exit 0) (stL 22 [(3, .one (.s .own () 1 (w0_3.map etS)))])) : Does E 159 [.one (.s .far () 1 (x0.map etS))] [(false, [.s .own () 1 (w0_3.map etS)])] :=
  Does.path (fn := Try.f159) [.val (.int .i64 (x0.length : Int)), .rows ((List.replicate (x0.length : Int).toNat ByteArray.empty).map etS), .lp (.exit 0) (stL 22 [(3, .one (.s .own () 1 (w0_3.map etS)))])] [fun _ => ((x0.map etS).length : Int) = (x0.length : Int), fun _ => 0 ≤ (x0.length : Int) ∧ (x0.length : Int) ≤ (x0.length : Int) ∧ ((16 : Nat) : Int) * (x0.length : Int) ≤ 281474976710656 ∧ (x0.length : Int) ≤ 4611686018427387904, fun _ => List.replicate (x0.length : Int).toNat [tS ByteArray.empty] = (List.replicate (x0.length : Int).toNat ByteArray.empty).map etS, fun k => LoopK E 159 (lpAt Try.f159 0) (stL 22 [(0, .one (.s .far () 1 (x0.map etS))), (3, .one (.s .own () 1 ((List.replicate (x0.length : Int).toNat ByteArray.empty).map etS))), (4, .one (tI (0 : Int)))]) (.exit 0) (stL 22 [(3, .one (.s .own () 1 (w0_3.map etS)))]) k k] rfl rfl (fun k => by kernel_rfl) ⟨Ev.c lenMap, Ev.c h0, Ev.c (repMap rfl), Loops.ev h1, trivial⟩
noncomputable def sem159 (n : Nat) (x0 : List ByteArray) : Option ((List ByteArray)) :=
    if 0 ≤ (x0.length : Int) ∧ (x0.length : Int) ≤ (x0.length : Int) ∧ ((16 : Nat) : Int) * (x0.length : Int) ≤ 281474976710656 ∧ (x0.length : Int) ≤ 4611686018427387904 then (loop159_0 n x0 (List.replicate (x0.length : Int).toNat ByteArray.empty) (0 : Int)).bind fun y => match y with
      | .x0 w0_3 => (some (w0_3)) else none
theorem D159 (n : Nat) (x0 : List ByteArray) : Ans (sem159 n x0) (fun r => Does E 159 [.one (.s .far () 1 (x0.map etS))] [(false, [.s .own () 1 (r.map etS)])]) := by
  unfold sem159
  refine Ans.pre (fun h0 => ?_)
  refine Ans.bind (fun y hy => ?_)
  replace hy := L159_0 n x0 (List.replicate (x0.length : Int).toNat ByteArray.empty) (0 : Int) y hy
  cases y with
  | x0 w0_3 =>
    have h1 := hy
    exact Ans.some (P159_0 x0 w0_3 h0 h1)
theorem loop159_ok (l : List ByteArray) (hl : l.length ≤ 1048576) : ∀ (d i n : Nat) (v : List ByteArray), i + d = l.length → d < n → v.length = l.length → v.take i = l.take i → loop159_0 n l v i = some (.x0 l)
  | 0, i, n, v, hi, hn, hv, h => by
    obtain ⟨n, rfl⟩ : ∃ m, n = m + 1 := ⟨n - 1, by omega⟩
    simp only [loop159_0]
    rw [show decide ((i : Int) < (l.length : Int)) = false from decide_eq_false (by omega)]
    have : v = l := by
      have e1 : v.take i = v := List.take_of_length_le (by omega)
      have e2 : l.take i = l := List.take_of_length_le (by omega)
      rw [← e1, h, e2]
    rw [this]; rfl
  | d + 1, i, n, v, hi, hn, hv, h => by
    obtain ⟨n, rfl⟩ : ∃ m, n = m + 1 := ⟨n - 1, by omega⟩
    have hil : i < l.length := by omega
    simp only [loop159_0]
    rw [show decide ((i : Int) < (l.length : Int)) = true from decide_eq_true (by omega), getI_nat, getI_nat, List.getElem?_eq_getElem hil, List.getElem?_eq_getElem (by omega : i < v.length), wrap1 i (by omega)]
    simp only [cond_true, Option.bind_some, Int.toNat_natCast, id]
    exact loop159_ok l hl d (i + 1) n _ (by omega) (by omega) (by simp [hv]) (take_set hil hv h)
theorem T159 (l : List ByteArray) (hl : l.length ≤ 1048576) : Does E 159 [.one (.s .far () 1 (l.map etS))] [(false, [.s .own () 1 ((id l).map etS)])] := D159 (l.length + 1) l _ (by
  unfold sem159
  rw [if_pos ⟨by omega, by omega, by omega, by omega⟩, show (0 : Int) = ((0 : Nat) : Int) from rfl, loop159_ok l hl l.length 0 _ _ (by omega) (by omega) (by simp) (by simp)]
  rfl)
-- function 137: loop.example/g00188/laws.toTask
theorem L137_0 (x0 : S132) (h0 : x0.f4.length ≤ 1048576) : Does E 137 [.agg (S132.t .far x0)] [(true, S132.t .own (S132.mk x0.f0 x0.f1 x0.f2 x0.f3 (id x0.f4)))] :=
  Does.path (fn := Try.f137) [.ret [(false, [.s .own () 1 ((id x0.f4).map etS)])]] [fun k => E.C k 159 [.one (.s .far () 1 (x0.f4.map etS))] = some [(false, [.s .own () 1 ((id x0.f4).map etS)])]] rfl rfl (fun k => by kernel_rfl) ⟨T159 x0.f4 h0, trivial⟩
noncomputable def sem137 (x0 : S132) : Option (S132) :=
    if x0.f4.length ≤ 1048576 then some ((S132.mk x0.f0 x0.f1 x0.f2 x0.f3 (id x0.f4))) else none
theorem D137 (x0 : S132) : Ans (sem137 x0) (fun r => Does E 137 [.agg (S132.t .far x0)] [(true, S132.t .own r)]) := by
  unfold sem137
  refine Ans.pre (fun h0 => ?_)
  exact Ans.some (L137_0 x0 h0)
theorem T137 (x : S132) (h : x.f4.length ≤ 1048576) : Does E 137 [.agg (S132.t .far x)] [(true, S132.t .own (id x))] := D137 x _ (by unfold sem137; rw [if_pos h]; rfl)
-- function 84: loop.example/g00188/laws.toTaskS
inductive X84_0 where
  | x0 (v3 : List S132)
noncomputable def loop84_0 : Nat → (List S132) → (List S132) → Int → Option X84_0
  | 0, _, _, _ => none
  | n + 1, v0, v3, v4 => cond (decide (v4 < (v0.length : Int)))
    ((getI v0 v4).bind fun g0 => if g0.f4.length ≤ 1048576 then (getI v3 v4).bind fun g1 => loop84_0 n v0 (v3.set v4.toNat (id g0)) (IntKind.wrap .i64 (v4 + (1 : Int))) else none)
    (some (.x0 v3))
def Q84_0 (q0 : Kd) (v0 : List S132) (v3 : List S132) (v4 : Int) : X84_0 → Prop
  | .x0 zv3 => Loops E 84 (lpAt Try.f84 0) (stL 23 [(0, .one (.s .far () 5 (v0.map (S132.t q0)))), (3, .one (.s .own () 5 (v3.map (S132.t .own)))), (4, .one (tI v4))]) (.exit 0) (stL 23 [(3, .one (.s .own () 5 (zv3.map (S132.t .own))))])
theorem R84_0_0 (q0 : Kd) (v0 : List S132) (v3 : List S132) (v4 : Int) (g0 : S132) (g1 : S132) (h0 : (decide (v4 < (v0.length : Int))) = true) (h1 : getI v0 v4 = some g0) (h2 : g0.f4.length ≤ 1048576) (h3 : getI v3 v4 = some g1) : Round E 84 (lpAt Try.f84 0) (stL 23 [(0, .one (.s .far () 5 (v0.map (S132.t q0)))), (3, .one (.s .own () 5 (v3.map (S132.t .own)))), (4, .one (tI v4))]) .normal (stL 23 [(0, .one (.s .far () 5 (v0.map (S132.t q0)))), (3, .one (.s .own () 5 ((v3.set v4.toNat (id g0)).map (S132.t .own)))), (4, .one (tI (IntKind.wrap .i64 (v4 + (1 : Int)))))]) :=
  Round.path [.val (.int .i64 (v0.length : Int)), .b true, .row ((S132.t q0) g0), .ret [(true, S132.t .own (id g0))], .row ((S132.t .own) g1), .rows ((v3.set v4.toNat (id g0)).map (S132.t .own))] [fun _ => ((v0.map (S132.t q0)).length : Int) = (v0.length : Int), fun _ => (decide (v4 < (v0.length : Int))) = true, fun _ => 0 ≤ v4 ∧ (v0.map (S132.t q0))[v4.toNat]? = some ((S132.t q0) g0), fun k => E.C k 137 [.agg (S132.t .far g0)] = some [(true, S132.t .own (id g0))], fun _ => 0 ≤ v4 ∧ v4 < ((v3.map (S132.t .own)).length : Int), fun _ => (v3.map (S132.t .own))[0 + v4.toNat]? = some ((S132.t .own) g1), fun _ => (v3.map (S132.t .own)).set (0 + v4.toNat) (spliceAt ((S132.t .own) g1) 0 [tS ((id g0).f0), tS ((id g0).f1), tI ((id g0).f2), tB ((id g0).f3), .s .own () 1 (((id g0).f4).map etS)]) = (v3.set v4.toNat (id g0)).map (S132.t .own)] (fun k => by kernel_rfl) ⟨Ev.c lenMap, Ev.c h0, Ev.c (getRow h1), T137 g0 h2, Ev.c (getLt h3), Ev.c (getRow0 h3), Ev.c (setMap (by rfl)), trivial⟩
theorem R84_0_1 (q0 : Kd) (v0 : List S132) (v3 : List S132) (v4 : Int) (h0 : (decide (v4 < (v0.length : Int))) = false) : Round E 84 (lpAt Try.f84 0) (stL 23 [(0, .one (.s .far () 5 (v0.map (S132.t q0)))), (3, .one (.s .own () 5 (v3.map (S132.t .own)))), (4, .one (tI v4))]) (.exit 0) (stL 23 [(3, .one (.s .own () 5 (v3.map (S132.t .own))))]) :=
  Round.path [.val (.int .i64 (v0.length : Int)), .b false] [fun _ => ((v0.map (S132.t q0)).length : Int) = (v0.length : Int), fun _ => (decide (v4 < (v0.length : Int))) = false] (fun k => by kernel_rfl) ⟨Ev.c lenMap, Ev.c h0, trivial⟩
theorem L84_0 (q0 : Kd) (n : Nat) : ∀ (v0 : List S132) (v3 : List S132) (v4 : Int), Ans (loop84_0 n v0 v3 v4) (Q84_0 q0 v0 v3 v4) := by
  induction n with
  | zero => intros; exact Ans.none
  | succ n ih =>
    intro v0 v3 v4
    unfold loop84_0
    refine Ans.ite (fun h0 => ?_) (fun h0 => ?_)
    · refine Ans.bind (fun g0 h1 => ?_)
      refine Ans.pre (fun h2 => ?_)
      refine Ans.bind (fun g1 h3 => ?_)
      exact (ih v0 (v3.set v4.toNat (id g0)) (IntKind.wrap .i64 (v4 + (1 : Int)))).mono fun y hy => by cases y <;> exact Loops.next (R84_0_0 q0 v0 v3 v4 g0 g1 h0 h1 h2 h3) hy
    · exact Ans.some (Loops.stop (R84_0_1 q0 v0 v3 v4 h0) (by intro h; cases h))
theorem P84_0 (q0 : Kd) (x0 : List S132) (w0_3 : List S132) (h0 : 0 ≤ (x0.length : Int) ∧ (x0.length : Int) ≤ (x0.length : Int) ∧ ((72 : Nat) : Int) * (x0.length : Int) ≤ 281474976710656 ∧ (x0.length : Int) ≤ 4611686018427387904) (h1 : Loops E 84 (lpAt Try.f84 0) (stL 23 [(0, .one (.s .far () 5 (x0.map (S132.t q0)))), (3, .one (.s .own () 5 ((List.replicate (x0.length : Int).toNat (S132.mk ByteArray.empty ByteArray.empty (0 : Int) false ([] : List ByteArray))).map (S132.t .own)))), (4, .one (tI (0 : Int)))]) (.exit 0) (stL 23 [(3, .one (.s .own () 5 (w0_3.map (S132.t .own))))])) : Does E 84 [.one (.s .far () 5 (x0.map (S132.t q0)))] [(false, [.s .own () 5 (w0_3.map (S132.t .own))])] :=
  Does.path (fn := Try.f84) [.val (.int .i64 (x0.length : Int)), .rows ((List.replicate (x0.length : Int).toNat (S132.mk ByteArray.empty ByteArray.empty (0 : Int) false ([] : List ByteArray))).map (S132.t .own)), .lp (.exit 0) (stL 23 [(3, .one (.s .own () 5 (w0_3.map (S132.t .own))))])] [fun _ => ((x0.map (S132.t q0)).length : Int) = (x0.length : Int), fun _ => 0 ≤ (x0.length : Int) ∧ (x0.length : Int) ≤ (x0.length : Int) ∧ ((72 : Nat) : Int) * (x0.length : Int) ≤ 281474976710656 ∧ (x0.length : Int) ≤ 4611686018427387904, fun _ => List.replicate (x0.length : Int).toNat [tS ByteArray.empty, tS ByteArray.empty, tI (0 : Int), tB false, .s .own () 1 (([] : List ByteArray).map etS)] = (List.replicate (x0.length : Int).toNat (S132.mk ByteArray.empty ByteArray.empty (0 : Int) false ([] : List ByteArray))).map (S132.t .own), fun k => LoopK E 84 (lpAt Try.f84 0) (stL 23 [(0, .one (.s .far () 5 (x0.map (S132.t q0)))), (3, .one (.s .own () 5 ((List.replicate (x0.length : Int).toNat (S132.mk ByteArray.empty ByteArray.empty (0 : Int) false ([] : List ByteArray))).map (S132.t .own)))), (4, .one (tI (0 : Int)))]) (.exit 0) (stL 23 [(3, .one (.s .own () 5 (w0_3.map (S132.t .own))))]) k k] rfl rfl (fun k => by kernel_rfl) ⟨Ev.c lenMap, Ev.c h0, Ev.c (repMap rfl), Loops.ev h1, trivial⟩
noncomputable def sem84 (n : Nat) (x0 : List S132) : Option ((List S132)) :=
    if 0 ≤ (x0.length : Int) ∧ (x0.length : Int) ≤ (x0.length : Int) ∧ ((72 : Nat) : Int) * (x0.length : Int) ≤ 281474976710656 ∧ (x0.length : Int) ≤ 4611686018427387904 then (loop84_0 n x0 (List.replicate (x0.length : Int).toNat (S132.mk ByteArray.empty ByteArray.empty (0 : Int) false ([] : List ByteArray))) (0 : Int)).bind fun y => match y with
      | .x0 w0_3 => (some (w0_3)) else none
theorem D84 (q0 : Kd) (n : Nat) (x0 : List S132) : Ans (sem84 n x0) (fun r => Does E 84 [.one (.s .far () 5 (x0.map (S132.t q0)))] [(false, [.s .own () 5 (r.map (S132.t .own))])]) := by
  unfold sem84
  refine Ans.pre (fun h0 => ?_)
  refine Ans.bind (fun y hy => ?_)
  replace hy := L84_0 q0 n x0 (List.replicate (x0.length : Int).toNat (S132.mk ByteArray.empty ByteArray.empty (0 : Int) false ([] : List ByteArray))) (0 : Int) y hy
  cases y with
  | x0 w0_3 =>
    have h1 := hy
    exact Ans.some (P84_0 q0 x0 w0_3 h0 h1)
theorem loop84_ok (l : List S132) (hl : l.length ≤ 1048576) (ha : ∀ y ∈ l, y.f4.length ≤ 1048576) : ∀ (d i n : Nat) (v : List S132), i + d = l.length → d < n → v.length = l.length → v.take i = l.take i → loop84_0 n l v i = some (.x0 l)
  | 0, i, n, v, hi, hn, hv, h => by
    obtain ⟨n, rfl⟩ : ∃ m, n = m + 1 := ⟨n - 1, by omega⟩
    simp only [loop84_0]
    rw [show decide ((i : Int) < (l.length : Int)) = false from decide_eq_false (by omega)]
    have : v = l := by
      have e1 : v.take i = v := List.take_of_length_le (by omega)
      have e2 : l.take i = l := List.take_of_length_le (by omega)
      rw [← e1, h, e2]
    rw [this]; rfl
  | d + 1, i, n, v, hi, hn, hv, h => by
    obtain ⟨n, rfl⟩ : ∃ m, n = m + 1 := ⟨n - 1, by omega⟩
    have hil : i < l.length := by omega
    simp only [loop84_0]
    rw [show decide ((i : Int) < (l.length : Int)) = true from decide_eq_true (by omega), getI_nat, getI_nat, List.getElem?_eq_getElem hil, List.getElem?_eq_getElem (by omega : i < v.length), wrap1 i (by omega)]
    simp only [cond_true, Option.bind_some, Int.toNat_natCast, id]
    rw [if_pos (ha _ (List.getElem_mem hil))]
    exact loop84_ok l hl ha d (i + 1) n _ (by omega) (by omega) (by simp [hv]) (take_set hil hv h)
theorem T84 {q : Kd} (l : List S132) (hl : l.length ≤ 1048576) (ha : ∀ y ∈ l, y.f4.length ≤ 1048576) : Does E 84 [.one (.s .far () 5 (l.map (S132.t q)))] [(false, [.s .own () 5 ((id l).map (S132.t .own))])] := D84 q (l.length + 1) l _ (by
  unfold sem84
  rw [if_pos ⟨by omega, by omega, by omega, by omega⟩, show (0 : Int) = ((0 : Nat) : Int) from rfl, loop84_ok l hl ha l.length 0 _ _ (by omega) (by omega) (by simp) (by simp)]
  rfl)
-- function 32: loop.example/g00188/laws.toDag
theorem L32_0 (q0 : Kd) (x0 : S48) (h0 : x0.f5.length ≤ 1048576) (h1 : ∀ y ∈ x0.f5, y.f4.length ≤ 1048576) : Does E 32 [.agg (S48.t .far q0 x0)] [(true, S53.t .own .own (S53.mk x0.f0 x0.f1 x0.f2 x0.f3 x0.f4 (id x0.f5)))] :=
  Does.path (fn := Try.f32) [.ret [(false, [.s .own () 5 ((id x0.f5).map (S132.t .own))])]] [fun k => E.C k 84 [.one (.s .far () 5 (x0.f5.map (S132.t q0)))] = some [(false, [.s .own () 5 ((id x0.f5).map (S132.t .own))])]] rfl rfl (fun k => by kernel_rfl) ⟨T84 x0.f5 h0 h1, trivial⟩
noncomputable def sem32 (x0 : S48) : Option (S53) :=
    if x0.f5.length ≤ 1048576 then if ∀ y ∈ x0.f5, y.f4.length ≤ 1048576 then some ((S53.mk x0.f0 x0.f1 x0.f2 x0.f3 x0.f4 (id x0.f5))) else none else none
theorem D32 (q0 : Kd) (x0 : S48) : Ans (sem32 x0) (fun r => Does E 32 [.agg (S48.t .far q0 x0)] [(true, S53.t .own .own r)]) := by
  unfold sem32
  refine Ans.pre (fun h0 => ?_)
  refine Ans.pre (fun h1 => ?_)
  exact Ans.some (L32_0 q0 x0 h0 h1)
def toDag (x : S48) : S53 := ⟨x.f0, x.f1, x.f2, x.f3, x.f4, x.f5⟩
theorem T32 {q : Kd} (x : S48) (h : x.f5.length ≤ 1048576) (ha : ∀ y ∈ x.f5, y.f4.length ≤ 1048576) : Does E 32 [.agg (S48.t .far q x)] [(true, S53.t .own .own (toDag x))] := D32 q x _ (by unfold sem32; rw [if_pos h, if_pos ha]; rfl)
-- function 160: loop.example/g00188/laws.eqStringS
inductive X160_0 where
  | ret (v4 : Bool)
  | x0 
noncomputable def loop160_0 : Nat → (List ByteArray) → (List ByteArray) → Int → Option X160_0
  | 0, _, _, _ => none
  | n + 1, v0, v1, v5 => cond (decide (v5 < (v0.length : Int)))
    ((getI v0 v5).bind fun g0 => (getI v1 v5).bind fun g1 => cond (!(g0.toList == g1.toList))
      (some (.ret false))
      (loop160_0 n v0 v1 (IntKind.wrap .i64 (v5 + (1 : Int)))))
    (some (.x0))
def Q160_0 (v0 : List ByteArray) (v1 : List ByteArray) (v5 : Int) : X160_0 → Prop
  | .ret zv4 => Loops E 160 (lpAt Try.f160 0) (stL 26 [(0, .one (.s .far () 1 (v0.map etS))), (1, .one (.s .far () 1 (v1.map etS))), (5, .one (tI v5))]) .ret (stL 26 [(4, .one (tB zv4))])
  | .x0 => Loops E 160 (lpAt Try.f160 0) (stL 26 [(0, .one (.s .far () 1 (v0.map etS))), (1, .one (.s .far () 1 (v1.map etS))), (5, .one (tI v5))]) (.exit 0) (stL 26 [])
theorem R160_0_0 (v0 : List ByteArray) (v1 : List ByteArray) (v5 : Int) (g0 : ByteArray) (g1 : ByteArray) (h0 : (decide (v5 < (v0.length : Int))) = true) (h1 : getI v0 v5 = some g0) (h2 : getI v1 v5 = some g1) (h3 : (!(g0.toList == g1.toList)) = true) : Round E 160 (lpAt Try.f160 0) (stL 26 [(0, .one (.s .far () 1 (v0.map etS))), (1, .one (.s .far () 1 (v1.map etS))), (5, .one (tI v5))]) .ret (stL 26 [(4, .one (tB false))]) :=
  Round.path [.val (.int .i64 (v0.length : Int)), .b true, .row (etS g0), .row (etS g1), .b true] [fun _ => ((v0.map etS).length : Int) = (v0.length : Int), fun _ => (decide (v5 < (v0.length : Int))) = true, fun _ => 0 ≤ v5 ∧ (v0.map etS)[v5.toNat]? = some (etS g0), fun _ => 0 ≤ v5 ∧ (v1.map etS)[v5.toNat]? = some (etS g1), fun _ => (!(g0.toList == g1.toList)) = true] (fun k => by kernel_rfl) ⟨Ev.c lenMap, Ev.c h0, Ev.c (getRow h1), Ev.c (getRow h2), Ev.c h3, trivial⟩
theorem R160_0_1 (v0 : List ByteArray) (v1 : List ByteArray) (v5 : Int) (g0 : ByteArray) (g1 : ByteArray) (h0 : (decide (v5 < (v0.length : Int))) = true) (h1 : getI v0 v5 = some g0) (h2 : getI v1 v5 = some g1) (h3 : (!(g0.toList == g1.toList)) = false) : Round E 160 (lpAt Try.f160 0) (stL 26 [(0, .one (.s .far () 1 (v0.map etS))), (1, .one (.s .far () 1 (v1.map etS))), (5, .one (tI v5))]) .normal (stL 26 [(0, .one (.s .far () 1 (v0.map etS))), (1, .one (.s .far () 1 (v1.map etS))), (5, .one (tI (IntKind.wrap .i64 (v5 + (1 : Int)))))]) :=
  Round.path [.val (.int .i64 (v0.length : Int)), .b true, .row (etS g0), .row (etS g1), .b false] [fun _ => ((v0.map etS).length : Int) = (v0.length : Int), fun _ => (decide (v5 < (v0.length : Int))) = true, fun _ => 0 ≤ v5 ∧ (v0.map etS)[v5.toNat]? = some (etS g0), fun _ => 0 ≤ v5 ∧ (v1.map etS)[v5.toNat]? = some (etS g1), fun _ => (!(g0.toList == g1.toList)) = false] (fun k => by kernel_rfl) ⟨Ev.c lenMap, Ev.c h0, Ev.c (getRow h1), Ev.c (getRow h2), Ev.c h3, trivial⟩
theorem R160_0_2 (v0 : List ByteArray) (v1 : List ByteArray) (v5 : Int) (h0 : (decide (v5 < (v0.length : Int))) = false) : Round E 160 (lpAt Try.f160 0) (stL 26 [(0, .one (.s .far () 1 (v0.map etS))), (1, .one (.s .far () 1 (v1.map etS))), (5, .one (tI v5))]) (.exit 0) (stL 26 []) :=
  Round.path [.val (.int .i64 (v0.length : Int)), .b false] [fun _ => ((v0.map etS).length : Int) = (v0.length : Int), fun _ => (decide (v5 < (v0.length : Int))) = false] (fun k => by kernel_rfl) ⟨Ev.c lenMap, Ev.c h0, trivial⟩
theorem L160_0 (n : Nat) : ∀ (v0 : List ByteArray) (v1 : List ByteArray) (v5 : Int), Ans (loop160_0 n v0 v1 v5) (Q160_0 v0 v1 v5) := by
  induction n with
  | zero => intros; exact Ans.none
  | succ n ih =>
    intro v0 v1 v5
    unfold loop160_0
    refine Ans.ite (fun h0 => ?_) (fun h0 => ?_)
    · refine Ans.bind (fun g0 h1 => ?_)
      refine Ans.bind (fun g1 h2 => ?_)
      refine Ans.ite (fun h3 => ?_) (fun h3 => ?_)
      · exact Ans.some (Loops.stop (R160_0_0 v0 v1 v5 g0 g1 h0 h1 h2 h3) (by intro h; cases h))
      · exact (ih v0 v1 (IntKind.wrap .i64 (v5 + (1 : Int)))).mono fun y hy => by cases y <;> exact Loops.next (R160_0_1 v0 v1 v5 g0 g1 h0 h1 h2 h3) hy
    · exact Ans.some (Loops.stop (R160_0_2 v0 v1 v5 h0) (by intro h; cases h))
theorem P160_0 (x0 : List ByteArray) (x1 : List ByteArray) (h0 : ((x0.length : Int) != (x1.length : Int)) = true) : Does E 160 [.one (.s .far () 1 (x0.map etS)), .one (.s .far () 1 (x1.map etS))] [(false, [tB false])] :=
  Does.path (fn := Try.f160) [.val (.int .i64 (x0.length : Int)), .val (.int .i64 (x1.length : Int)), .b true] [fun _ => ((x0.map etS).length : Int) = (x0.length : Int), fun _ => ((x1.map etS).length : Int) = (x1.length : Int), fun _ => ((x0.length : Int) != (x1.length : Int)) = true] rfl rfl (fun k => by kernel_rfl) ⟨Ev.c lenMap, Ev.c lenMap, Ev.c h0, trivial⟩
theorem P160_1 (x0 : List ByteArray) (x1 : List ByteArray) (w0_4 : Bool) (h0 : ((x0.length : Int) != (x1.length : Int)) = false) (h1 : Loops E 160 (lpAt Try.f160 0) (stL 26 [(0, .one (.s .far () 1 (x0.map etS))), (1, .one (.s .far () 1 (x1.map etS))), (5, .one (tI (0 : Int)))]) .ret (stL 26 [(4, .one (tB w0_4))])) : Does E 160 [.one (.s .far () 1 (x0.map etS)), .one (.s .far () 1 (x1.map etS))] [(false, [tB w0_4])] :=
  Does.path (fn := Try.f160) [.val (.int .i64 (x0.length : Int)), .val (.int .i64 (x1.length : Int)), .b false, .lp .ret (stL 26 [(4, .one (tB w0_4))])] [fun _ => ((x0.map etS).length : Int) = (x0.length : Int), fun _ => ((x1.map etS).length : Int) = (x1.length : Int), fun _ => ((x0.length : Int) != (x1.length : Int)) = false, fun k => LoopK E 160 (lpAt Try.f160 0) (stL 26 [(0, .one (.s .far () 1 (x0.map etS))), (1, .one (.s .far () 1 (x1.map etS))), (5, .one (tI (0 : Int)))]) .ret (stL 26 [(4, .one (tB w0_4))]) k k] rfl rfl (fun k => by kernel_rfl) ⟨Ev.c lenMap, Ev.c lenMap, Ev.c h0, Loops.ev h1, trivial⟩
theorem P160_2 (x0 : List ByteArray) (x1 : List ByteArray) (h0 : ((x0.length : Int) != (x1.length : Int)) = false) (h1 : Loops E 160 (lpAt Try.f160 0) (stL 26 [(0, .one (.s .far () 1 (x0.map etS))), (1, .one (.s .far () 1 (x1.map etS))), (5, .one (tI (0 : Int)))]) (.exit 0) (stL 26 [])) : Does E 160 [.one (.s .far () 1 (x0.map etS)), .one (.s .far () 1 (x1.map etS))] [(false, [tB true])] :=
  Does.path (fn := Try.f160) [.val (.int .i64 (x0.length : Int)), .val (.int .i64 (x1.length : Int)), .b false, .lp (.exit 0) (stL 26 [])] [fun _ => ((x0.map etS).length : Int) = (x0.length : Int), fun _ => ((x1.map etS).length : Int) = (x1.length : Int), fun _ => ((x0.length : Int) != (x1.length : Int)) = false, fun k => LoopK E 160 (lpAt Try.f160 0) (stL 26 [(0, .one (.s .far () 1 (x0.map etS))), (1, .one (.s .far () 1 (x1.map etS))), (5, .one (tI (0 : Int)))]) (.exit 0) (stL 26 []) k k] rfl rfl (fun k => by kernel_rfl) ⟨Ev.c lenMap, Ev.c lenMap, Ev.c h0, Loops.ev h1, trivial⟩
noncomputable def sem160 (n : Nat) (x0 : List ByteArray) (x1 : List ByteArray) : Option (Bool) :=
    cond ((x0.length : Int) != (x1.length : Int))
      (some (false))
      ((loop160_0 n x0 x1 (0 : Int)).bind fun y => match y with
        | .ret w0_4 => (some (w0_4))
        | .x0 => (some (true)))
theorem D160 (n : Nat) (x0 : List ByteArray) (x1 : List ByteArray) : Ans (sem160 n x0 x1) (fun r => Does E 160 [.one (.s .far () 1 (x0.map etS)), .one (.s .far () 1 (x1.map etS))] [(false, [tB r])]) := by
  unfold sem160
  refine Ans.ite (fun h0 => ?_) (fun h0 => ?_)
  · exact Ans.some (P160_0 x0 x1 h0)
  · refine Ans.bind (fun y hy => ?_)
    replace hy := L160_0 n x0 x1 (0 : Int) y hy
    cases y with
    | ret w0_4 =>
      have h1 := hy
      exact Ans.some (P160_1 x0 x1 w0_4 h0 h1)
    | x0 =>
      have h1 := hy
      exact Ans.some (P160_2 x0 x1 h0 h1)
theorem loop160_ok (l : List ByteArray) (hl : l.length ≤ 1048576) : ∀ (k i n : Nat), i + k = l.length → k < n → loop160_0 n l l i = some .x0
  | 0, i, n, hi, hn => by
    obtain ⟨n, rfl⟩ : ∃ m, n = m + 1 := ⟨n - 1, by omega⟩
    simp only [loop160_0]
    rw [show decide ((i : Int) < (l.length : Int)) = false from decide_eq_false (by omega)]
    rfl
  | k + 1, i, n, hi, hn => by
    obtain ⟨n, rfl⟩ : ∃ m, n = m + 1 := ⟨n - 1, by omega⟩
    have hil : i < l.length := by omega
    have ih := loop160_ok l hl k (i + 1) n (by omega) (by omega)
    simp only [loop160_0]
    rw [show decide ((i : Int) < (l.length : Int)) = true from decide_eq_true (by omega), getI_nat, List.getElem?_eq_getElem hil, wrap1 i (by omega)]
    simp only [cond_true, Option.bind_some]
    simp [yes]
    exact ih
theorem T160 (a b : List ByteArray) (h : a = b) (hl : a.length ≤ 1048576) : Does E 160 [.one (.s .far () 1 (a.map etS)), .one (.s .far () 1 (b.map etS))] [(false, [tB (yes a b)])] := by
  subst h
  exact D160 (a.length + 1) a a _ (by
    unfold sem160
    rw [show (0 : Int) = ((0 : Nat) : Int) from rfl, loop160_ok a hl a.length 0 _ (by omega) (by omega)]
    simp [yes])
-- function 138: loop.example/g00188/laws.eqTask
theorem L138_0 (x0 : S132) (x1 : S132) (h0 : (!(x0.f0.toList == x1.f0.toList)) = true) : Does E 138 [.agg (S132.t .far x0), .agg (S132.t .far x1)] [(false, [tB false])] :=
  Does.path (fn := Try.f138) [.b true] [fun _ => (!(x0.f0.toList == x1.f0.toList)) = true] rfl rfl (fun k => by kernel_rfl) ⟨Ev.c h0, trivial⟩
theorem L138_1 (x0 : S132) (x1 : S132) (h0 : (!(x0.f0.toList == x1.f0.toList)) = false) (h1 : (!(x0.f1.toList == x1.f1.toList)) = true) : Does E 138 [.agg (S132.t .far x0), .agg (S132.t .far x1)] [(false, [tB false])] :=
  Does.path (fn := Try.f138) [.b false, .b true] [fun _ => (!(x0.f0.toList == x1.f0.toList)) = false, fun _ => (!(x0.f1.toList == x1.f1.toList)) = true] rfl rfl (fun k => by kernel_rfl) ⟨Ev.c h0, Ev.c h1, trivial⟩
theorem L138_2 (x0 : S132) (x1 : S132) (h0 : (!(x0.f0.toList == x1.f0.toList)) = false) (h1 : (!(x0.f1.toList == x1.f1.toList)) = false) (h2 : (x0.f2 != x1.f2) = true) : Does E 138 [.agg (S132.t .far x0), .agg (S132.t .far x1)] [(false, [tB false])] :=
  Does.path (fn := Try.f138) [.b false, .b false, .b true] [fun _ => (!(x0.f0.toList == x1.f0.toList)) = false, fun _ => (!(x0.f1.toList == x1.f1.toList)) = false, fun _ => (x0.f2 != x1.f2) = true] rfl rfl (fun k => by kernel_rfl) ⟨Ev.c h0, Ev.c h1, Ev.c h2, trivial⟩
theorem L138_3 (x0 : S132) (x1 : S132) (h0 : (!(x0.f0.toList == x1.f0.toList)) = false) (h1 : (!(x0.f1.toList == x1.f1.toList)) = false) (h2 : (x0.f2 != x1.f2) = false) (h3 : (!(x0.f3 == x1.f3)) = true) : Does E 138 [.agg (S132.t .far x0), .agg (S132.t .far x1)] [(false, [tB false])] :=
  Does.path (fn := Try.f138) [.b false, .b false, .b false, .b true] [fun _ => (!(x0.f0.toList == x1.f0.toList)) = false, fun _ => (!(x0.f1.toList == x1.f1.toList)) = false, fun _ => (x0.f2 != x1.f2) = false, fun _ => (!(x0.f3 == x1.f3)) = true] rfl rfl (fun k => by kernel_rfl) ⟨Ev.c h0, Ev.c h1, Ev.c h2, Ev.c h3, trivial⟩
theorem L138_4 (x0 : S132) (x1 : S132) (h0 : (!(x0.f0.toList == x1.f0.toList)) = false) (h1 : (!(x0.f1.toList == x1.f1.toList)) = false) (h2 : (x0.f2 != x1.f2) = false) (h3 : (!(x0.f3 == x1.f3)) = false) (h4 : x0.f4 = x1.f4) (h5 : x0.f4.length ≤ 1048576) (h6 : (yes x0.f4 x1.f4) = true) : Does E 138 [.agg (S132.t .far x0), .agg (S132.t .far x1)] [(false, [tB true])] :=
  Does.path (fn := Try.f138) [.b false, .b false, .b false, .b false, .ret [(false, [tB true])]] [fun _ => (!(x0.f0.toList == x1.f0.toList)) = false, fun _ => (!(x0.f1.toList == x1.f1.toList)) = false, fun _ => (x0.f2 != x1.f2) = false, fun _ => (!(x0.f3 == x1.f3)) = false, fun k => E.C k 160 [.one (.s .far () 1 (x0.f4.map etS)), .one (.s .far () 1 (x1.f4.map etS))] = some [(false, [tB true])]] rfl rfl (fun k => by kernel_rfl) ⟨Ev.c h0, Ev.c h1, Ev.c h2, Ev.c h3, Does.to (T160 x0.f4 x1.f4 h4 h5) (by rw [h6]), trivial⟩
theorem L138_5 (x0 : S132) (x1 : S132) (h0 : (!(x0.f0.toList == x1.f0.toList)) = false) (h1 : (!(x0.f1.toList == x1.f1.toList)) = false) (h2 : (x0.f2 != x1.f2) = false) (h3 : (!(x0.f3 == x1.f3)) = false) (h4 : x0.f4 = x1.f4) (h5 : x0.f4.length ≤ 1048576) (h6 : (yes x0.f4 x1.f4) = false) : Does E 138 [.agg (S132.t .far x0), .agg (S132.t .far x1)] [(false, [tB false])] :=
  Does.path (fn := Try.f138) [.b false, .b false, .b false, .b false, .ret [(false, [tB false])]] [fun _ => (!(x0.f0.toList == x1.f0.toList)) = false, fun _ => (!(x0.f1.toList == x1.f1.toList)) = false, fun _ => (x0.f2 != x1.f2) = false, fun _ => (!(x0.f3 == x1.f3)) = false, fun k => E.C k 160 [.one (.s .far () 1 (x0.f4.map etS)), .one (.s .far () 1 (x1.f4.map etS))] = some [(false, [tB false])]] rfl rfl (fun k => by kernel_rfl) ⟨Ev.c h0, Ev.c h1, Ev.c h2, Ev.c h3, Does.to (T160 x0.f4 x1.f4 h4 h5) (by rw [h6]), trivial⟩
noncomputable def sem138 (x0 : S132) (x1 : S132) : Option (Bool) :=
    cond (!(x0.f0.toList == x1.f0.toList))
      (some (false))
      (cond (!(x0.f1.toList == x1.f1.toList))
        (some (false))
        (cond (x0.f2 != x1.f2)
          (some (false))
          (cond (!(x0.f3 == x1.f3))
            (some (false))
            (if x0.f4 = x1.f4 then if x0.f4.length ≤ 1048576 then cond (yes x0.f4 x1.f4)
              (some (true))
              (some (false)) else none else none))))
theorem D138 (x0 : S132) (x1 : S132) : Ans (sem138 x0 x1) (fun r => Does E 138 [.agg (S132.t .far x0), .agg (S132.t .far x1)] [(false, [tB r])]) := by
  unfold sem138
  refine Ans.ite (fun h0 => ?_) (fun h0 => ?_)
  · exact Ans.some (L138_0 x0 x1 h0)
  · refine Ans.ite (fun h1 => ?_) (fun h1 => ?_)
    · exact Ans.some (L138_1 x0 x1 h0 h1)
    · refine Ans.ite (fun h2 => ?_) (fun h2 => ?_)
      · exact Ans.some (L138_2 x0 x1 h0 h1 h2)
      · refine Ans.ite (fun h3 => ?_) (fun h3 => ?_)
        · exact Ans.some (L138_3 x0 x1 h0 h1 h2 h3)
        · refine Ans.pre (fun h4 => ?_)
          refine Ans.pre (fun h5 => ?_)
          refine Ans.ite (fun h6 => ?_) (fun h6 => ?_)
          · exact Ans.some (L138_4 x0 x1 h0 h1 h2 h3 h4 h5 h6)
          · exact Ans.some (L138_5 x0 x1 h0 h1 h2 h3 h4 h5 h6)
theorem T138 (a b : S132) (h : a = b) (hl : a.f4.length ≤ 1048576) : Does E 138 [.agg (S132.t .far a), .agg (S132.t .far b)] [(false, [tB (yes a b)])] := by
  subst h
  exact D138 a a _ (by unfold sem138; simp [yes, hl])
-- function 87: loop.example/g00188/laws.eqTaskS
inductive X87_0 where
  | ret (v4 : Bool)
  | x0 
noncomputable def loop87_0 : Nat → (List S132) → (List S132) → Int → Option X87_0
  | 0, _, _, _ => none
  | n + 1, v0, v1, v5 => cond (decide (v5 < (v0.length : Int)))
    ((getI v0 v5).bind fun g0 => (getI v1 v5).bind fun g1 => if g0 = g1 then if g0.f4.length ≤ 1048576 then cond (yes g0 g1)
      (loop87_0 n v0 v1 (IntKind.wrap .i64 (v5 + (1 : Int))))
      (some (.ret false)) else none else none)
    (some (.x0))
def Q87_0 (q0 : Kd) (q1 : Kd) (v0 : List S132) (v1 : List S132) (v5 : Int) : X87_0 → Prop
  | .ret zv4 => Loops E 87 (lpAt Try.f87 0) (stL 27 [(0, .one (.s .far () 5 (v0.map (S132.t q0)))), (1, .one (.s .far () 5 (v1.map (S132.t q1)))), (5, .one (tI v5))]) .ret (stL 27 [(4, .one (tB zv4))])
  | .x0 => Loops E 87 (lpAt Try.f87 0) (stL 27 [(0, .one (.s .far () 5 (v0.map (S132.t q0)))), (1, .one (.s .far () 5 (v1.map (S132.t q1)))), (5, .one (tI v5))]) (.exit 0) (stL 27 [])
theorem R87_0_0 (q0 : Kd) (q1 : Kd) (v0 : List S132) (v1 : List S132) (v5 : Int) (g0 : S132) (g1 : S132) (h0 : (decide (v5 < (v0.length : Int))) = true) (h1 : getI v0 v5 = some g0) (h2 : getI v1 v5 = some g1) (h3 : g0 = g1) (h4 : g0.f4.length ≤ 1048576) (h5 : (yes g0 g1) = true) : Round E 87 (lpAt Try.f87 0) (stL 27 [(0, .one (.s .far () 5 (v0.map (S132.t q0)))), (1, .one (.s .far () 5 (v1.map (S132.t q1)))), (5, .one (tI v5))]) .normal (stL 27 [(0, .one (.s .far () 5 (v0.map (S132.t q0)))), (1, .one (.s .far () 5 (v1.map (S132.t q1)))), (5, .one (tI (IntKind.wrap .i64 (v5 + (1 : Int)))))]) :=
  Round.path [.val (.int .i64 (v0.length : Int)), .b true, .row ((S132.t q0) g0), .row ((S132.t q1) g1), .ret [(false, [tB true])]] [fun _ => ((v0.map (S132.t q0)).length : Int) = (v0.length : Int), fun _ => (decide (v5 < (v0.length : Int))) = true, fun _ => 0 ≤ v5 ∧ (v0.map (S132.t q0))[v5.toNat]? = some ((S132.t q0) g0), fun _ => 0 ≤ v5 ∧ (v1.map (S132.t q1))[v5.toNat]? = some ((S132.t q1) g1), fun k => E.C k 138 [.agg (S132.t .far g0), .agg (S132.t .far g1)] = some [(false, [tB true])]] (fun k => by kernel_rfl) ⟨Ev.c lenMap, Ev.c h0, Ev.c (getRow h1), Ev.c (getRow h2), Does.to (T138 g0 g1 h3 h4) (by rw [h5]), trivial⟩
theorem R87_0_1 (q0 : Kd) (q1 : Kd) (v0 : List S132) (v1 : List S132) (v5 : Int) (g0 : S132) (g1 : S132) (h0 : (decide (v5 < (v0.length : Int))) = true) (h1 : getI v0 v5 = some g0) (h2 : getI v1 v5 = some g1) (h3 : g0 = g1) (h4 : g0.f4.length ≤ 1048576) (h5 : (yes g0 g1) = false) : Round E 87 (lpAt Try.f87 0) (stL 27 [(0, .one (.s .far () 5 (v0.map (S132.t q0)))), (1, .one (.s .far () 5 (v1.map (S132.t q1)))), (5, .one (tI v5))]) .ret (stL 27 [(4, .one (tB false))]) :=
  Round.path [.val (.int .i64 (v0.length : Int)), .b true, .row ((S132.t q0) g0), .row ((S132.t q1) g1), .ret [(false, [tB false])]] [fun _ => ((v0.map (S132.t q0)).length : Int) = (v0.length : Int), fun _ => (decide (v5 < (v0.length : Int))) = true, fun _ => 0 ≤ v5 ∧ (v0.map (S132.t q0))[v5.toNat]? = some ((S132.t q0) g0), fun _ => 0 ≤ v5 ∧ (v1.map (S132.t q1))[v5.toNat]? = some ((S132.t q1) g1), fun k => E.C k 138 [.agg (S132.t .far g0), .agg (S132.t .far g1)] = some [(false, [tB false])]] (fun k => by kernel_rfl) ⟨Ev.c lenMap, Ev.c h0, Ev.c (getRow h1), Ev.c (getRow h2), Does.to (T138 g0 g1 h3 h4) (by rw [h5]), trivial⟩
theorem R87_0_2 (q0 : Kd) (q1 : Kd) (v0 : List S132) (v1 : List S132) (v5 : Int) (h0 : (decide (v5 < (v0.length : Int))) = false) : Round E 87 (lpAt Try.f87 0) (stL 27 [(0, .one (.s .far () 5 (v0.map (S132.t q0)))), (1, .one (.s .far () 5 (v1.map (S132.t q1)))), (5, .one (tI v5))]) (.exit 0) (stL 27 []) :=
  Round.path [.val (.int .i64 (v0.length : Int)), .b false] [fun _ => ((v0.map (S132.t q0)).length : Int) = (v0.length : Int), fun _ => (decide (v5 < (v0.length : Int))) = false] (fun k => by kernel_rfl) ⟨Ev.c lenMap, Ev.c h0, trivial⟩
theorem L87_0 (q0 : Kd) (q1 : Kd) (n : Nat) : ∀ (v0 : List S132) (v1 : List S132) (v5 : Int), Ans (loop87_0 n v0 v1 v5) (Q87_0 q0 q1 v0 v1 v5) := by
  induction n with
  | zero => intros; exact Ans.none
  | succ n ih =>
    intro v0 v1 v5
    unfold loop87_0
    refine Ans.ite (fun h0 => ?_) (fun h0 => ?_)
    · refine Ans.bind (fun g0 h1 => ?_)
      refine Ans.bind (fun g1 h2 => ?_)
      refine Ans.pre (fun h3 => ?_)
      refine Ans.pre (fun h4 => ?_)
      refine Ans.ite (fun h5 => ?_) (fun h5 => ?_)
      · exact (ih v0 v1 (IntKind.wrap .i64 (v5 + (1 : Int)))).mono fun y hy => by cases y <;> exact Loops.next (R87_0_0 q0 q1 v0 v1 v5 g0 g1 h0 h1 h2 h3 h4 h5) hy
      · exact Ans.some (Loops.stop (R87_0_1 q0 q1 v0 v1 v5 g0 g1 h0 h1 h2 h3 h4 h5) (by intro h; cases h))
    · exact Ans.some (Loops.stop (R87_0_2 q0 q1 v0 v1 v5 h0) (by intro h; cases h))
theorem P87_0 (q0 : Kd) (q1 : Kd) (x0 : List S132) (x1 : List S132) (h0 : ((x0.length : Int) != (x1.length : Int)) = true) : Does E 87 [.one (.s .far () 5 (x0.map (S132.t q0))), .one (.s .far () 5 (x1.map (S132.t q1)))] [(false, [tB false])] :=
  Does.path (fn := Try.f87) [.val (.int .i64 (x0.length : Int)), .val (.int .i64 (x1.length : Int)), .b true] [fun _ => ((x0.map (S132.t q0)).length : Int) = (x0.length : Int), fun _ => ((x1.map (S132.t q1)).length : Int) = (x1.length : Int), fun _ => ((x0.length : Int) != (x1.length : Int)) = true] rfl rfl (fun k => by kernel_rfl) ⟨Ev.c lenMap, Ev.c lenMap, Ev.c h0, trivial⟩
theorem P87_1 (q0 : Kd) (q1 : Kd) (x0 : List S132) (x1 : List S132) (w0_4 : Bool) (h0 : ((x0.length : Int) != (x1.length : Int)) = false) (h1 : Loops E 87 (lpAt Try.f87 0) (stL 27 [(0, .one (.s .far () 5 (x0.map (S132.t q0)))), (1, .one (.s .far () 5 (x1.map (S132.t q1)))), (5, .one (tI (0 : Int)))]) .ret (stL 27 [(4, .one (tB w0_4))])) : Does E 87 [.one (.s .far () 5 (x0.map (S132.t q0))), .one (.s .far () 5 (x1.map (S132.t q1)))] [(false, [tB w0_4])] :=
  Does.path (fn := Try.f87) [.val (.int .i64 (x0.length : Int)), .val (.int .i64 (x1.length : Int)), .b false, .lp .ret (stL 27 [(4, .one (tB w0_4))])] [fun _ => ((x0.map (S132.t q0)).length : Int) = (x0.length : Int), fun _ => ((x1.map (S132.t q1)).length : Int) = (x1.length : Int), fun _ => ((x0.length : Int) != (x1.length : Int)) = false, fun k => LoopK E 87 (lpAt Try.f87 0) (stL 27 [(0, .one (.s .far () 5 (x0.map (S132.t q0)))), (1, .one (.s .far () 5 (x1.map (S132.t q1)))), (5, .one (tI (0 : Int)))]) .ret (stL 27 [(4, .one (tB w0_4))]) k k] rfl rfl (fun k => by kernel_rfl) ⟨Ev.c lenMap, Ev.c lenMap, Ev.c h0, Loops.ev h1, trivial⟩
theorem P87_2 (q0 : Kd) (q1 : Kd) (x0 : List S132) (x1 : List S132) (h0 : ((x0.length : Int) != (x1.length : Int)) = false) (h1 : Loops E 87 (lpAt Try.f87 0) (stL 27 [(0, .one (.s .far () 5 (x0.map (S132.t q0)))), (1, .one (.s .far () 5 (x1.map (S132.t q1)))), (5, .one (tI (0 : Int)))]) (.exit 0) (stL 27 [])) : Does E 87 [.one (.s .far () 5 (x0.map (S132.t q0))), .one (.s .far () 5 (x1.map (S132.t q1)))] [(false, [tB true])] :=
  Does.path (fn := Try.f87) [.val (.int .i64 (x0.length : Int)), .val (.int .i64 (x1.length : Int)), .b false, .lp (.exit 0) (stL 27 [])] [fun _ => ((x0.map (S132.t q0)).length : Int) = (x0.length : Int), fun _ => ((x1.map (S132.t q1)).length : Int) = (x1.length : Int), fun _ => ((x0.length : Int) != (x1.length : Int)) = false, fun k => LoopK E 87 (lpAt Try.f87 0) (stL 27 [(0, .one (.s .far () 5 (x0.map (S132.t q0)))), (1, .one (.s .far () 5 (x1.map (S132.t q1)))), (5, .one (tI (0 : Int)))]) (.exit 0) (stL 27 []) k k] rfl rfl (fun k => by kernel_rfl) ⟨Ev.c lenMap, Ev.c lenMap, Ev.c h0, Loops.ev h1, trivial⟩
noncomputable def sem87 (n : Nat) (x0 : List S132) (x1 : List S132) : Option (Bool) :=
    cond ((x0.length : Int) != (x1.length : Int))
      (some (false))
      ((loop87_0 n x0 x1 (0 : Int)).bind fun y => match y with
        | .ret w0_4 => (some (w0_4))
        | .x0 => (some (true)))
theorem D87 (q0 : Kd) (q1 : Kd) (n : Nat) (x0 : List S132) (x1 : List S132) : Ans (sem87 n x0 x1) (fun r => Does E 87 [.one (.s .far () 5 (x0.map (S132.t q0))), .one (.s .far () 5 (x1.map (S132.t q1)))] [(false, [tB r])]) := by
  unfold sem87
  refine Ans.ite (fun h0 => ?_) (fun h0 => ?_)
  · exact Ans.some (P87_0 q0 q1 x0 x1 h0)
  · refine Ans.bind (fun y hy => ?_)
    replace hy := L87_0 q0 q1 n x0 x1 (0 : Int) y hy
    cases y with
    | ret w0_4 =>
      have h1 := hy
      exact Ans.some (P87_1 q0 q1 x0 x1 w0_4 h0 h1)
    | x0 =>
      have h1 := hy
      exact Ans.some (P87_2 q0 q1 x0 x1 h0 h1)
theorem loop87_ok (l : List S132) (hl : l.length ≤ 1048576) (ha : ∀ y ∈ l, y.f4.length ≤ 1048576) : ∀ (k i n : Nat), i + k = l.length → k < n → loop87_0 n l l i = some .x0
  | 0, i, n, hi, hn => by
    obtain ⟨n, rfl⟩ : ∃ m, n = m + 1 := ⟨n - 1, by omega⟩
    simp only [loop87_0]
    rw [show decide ((i : Int) < (l.length : Int)) = false from decide_eq_false (by omega)]
    rfl
  | k + 1, i, n, hi, hn => by
    obtain ⟨n, rfl⟩ : ∃ m, n = m + 1 := ⟨n - 1, by omega⟩
    have hil : i < l.length := by omega
    have ih := loop87_ok l hl ha k (i + 1) n (by omega) (by omega)
    simp only [loop87_0]
    rw [show decide ((i : Int) < (l.length : Int)) = true from decide_eq_true (by omega), getI_nat, List.getElem?_eq_getElem hil, wrap1 i (by omega)]
    simp only [cond_true, Option.bind_some]
    have hy := ha _ (List.getElem_mem hil)
    simp only [hy, if_true, true_and, and_true]
    simp [yes]
    exact ih
theorem T87 {q q2 : Kd} (a b : List S132) (h : a = b) (hl : a.length ≤ 1048576) (ha : ∀ y ∈ a, y.f4.length ≤ 1048576) : Does E 87 [.one (.s .far () 5 (a.map (S132.t q))), .one (.s .far () 5 (b.map (S132.t q2)))] [(false, [tB (yes a b)])] := by
  subst h
  exact D87 q q2 (a.length + 1) a a _ (by
    unfold sem87
    rw [show (0 : Int) = ((0 : Nat) : Int) from rfl, loop87_ok a hl ha a.length 0 _ (by omega) (by omega)]
    simp [yes])
-- function 34: loop.example/g00188/laws.eqDag
theorem L34_0 (q0 : Kd) (q1 : Kd) (x0 : S53) (x1 : S53) (h0 : (!(x0.f0.toList == x1.f0.toList)) = true) : Does E 34 [.agg (S53.t .far q0 x0), .agg (S53.t .far q1 x1)] [(false, [tB false])] :=
  Does.path (fn := Try.f34) [.b true] [fun _ => (!(x0.f0.toList == x1.f0.toList)) = true] rfl rfl (fun k => by kernel_rfl) ⟨Ev.c h0, trivial⟩
theorem L34_1 (q0 : Kd) (q1 : Kd) (x0 : S53) (x1 : S53) (h0 : (!(x0.f0.toList == x1.f0.toList)) = false) (h1 : (!(x0.f1.toList == x1.f1.toList)) = true) : Does E 34 [.agg (S53.t .far q0 x0), .agg (S53.t .far q1 x1)] [(false, [tB false])] :=
  Does.path (fn := Try.f34) [.b false, .b true] [fun _ => (!(x0.f0.toList == x1.f0.toList)) = false, fun _ => (!(x0.f1.toList == x1.f1.toList)) = true] rfl rfl (fun k => by kernel_rfl) ⟨Ev.c h0, Ev.c h1, trivial⟩
theorem L34_2 (q0 : Kd) (q1 : Kd) (x0 : S53) (x1 : S53) (h0 : (!(x0.f0.toList == x1.f0.toList)) = false) (h1 : (!(x0.f1.toList == x1.f1.toList)) = false) (h2 : (x0.f2 != x1.f2) = true) : Does E 34 [.agg (S53.t .far q0 x0), .agg (S53.t .far q1 x1)] [(false, [tB false])] :=
  Does.path (fn := Try.f34) [.b false, .b false, .b true] [fun _ => (!(x0.f0.toList == x1.f0.toList)) = false, fun _ => (!(x0.f1.toList == x1.f1.toList)) = false, fun _ => (x0.f2 != x1.f2) = true] rfl rfl (fun k => by kernel_rfl) ⟨Ev.c h0, Ev.c h1, Ev.c h2, trivial⟩
theorem L34_3 (q0 : Kd) (q1 : Kd) (x0 : S53) (x1 : S53) (h0 : (!(x0.f0.toList == x1.f0.toList)) = false) (h1 : (!(x0.f1.toList == x1.f1.toList)) = false) (h2 : (x0.f2 != x1.f2) = false) (h3 : (x0.f3 != x1.f3) = true) : Does E 34 [.agg (S53.t .far q0 x0), .agg (S53.t .far q1 x1)] [(false, [tB false])] :=
  Does.path (fn := Try.f34) [.b false, .b false, .b false, .b true] [fun _ => (!(x0.f0.toList == x1.f0.toList)) = false, fun _ => (!(x0.f1.toList == x1.f1.toList)) = false, fun _ => (x0.f2 != x1.f2) = false, fun _ => (x0.f3 != x1.f3) = true] rfl rfl (fun k => by kernel_rfl) ⟨Ev.c h0, Ev.c h1, Ev.c h2, Ev.c h3, trivial⟩
theorem L34_4 (q0 : Kd) (q1 : Kd) (x0 : S53) (x1 : S53) (h0 : (!(x0.f0.toList == x1.f0.toList)) = false) (h1 : (!(x0.f1.toList == x1.f1.toList)) = false) (h2 : (x0.f2 != x1.f2) = false) (h3 : (x0.f3 != x1.f3) = false) (h4 : (!(x0.f4 == x1.f4)) = true) : Does E 34 [.agg (S53.t .far q0 x0), .agg (S53.t .far q1 x1)] [(false, [tB false])] :=
  Does.path (fn := Try.f34) [.b false, .b false, .b false, .b false, .b true] [fun _ => (!(x0.f0.toList == x1.f0.toList)) = false, fun _ => (!(x0.f1.toList == x1.f1.toList)) = false, fun _ => (x0.f2 != x1.f2) = false, fun _ => (x0.f3 != x1.f3) = false, fun _ => (!(x0.f4 == x1.f4)) = true] rfl rfl (fun k => by kernel_rfl) ⟨Ev.c h0, Ev.c h1, Ev.c h2, Ev.c h3, Ev.c h4, trivial⟩
theorem L34_5 (q0 : Kd) (q1 : Kd) (x0 : S53) (x1 : S53) (h0 : (!(x0.f0.toList == x1.f0.toList)) = false) (h1 : (!(x0.f1.toList == x1.f1.toList)) = false) (h2 : (x0.f2 != x1.f2) = false) (h3 : (x0.f3 != x1.f3) = false) (h4 : (!(x0.f4 == x1.f4)) = false) (h5 : x0.f5 = x1.f5) (h6 : x0.f5.length ≤ 1048576) (h7 : ∀ y ∈ x0.f5, y.f4.length ≤ 1048576) (h8 : (yes x0.f5 x1.f5) = true) : Does E 34 [.agg (S53.t .far q0 x0), .agg (S53.t .far q1 x1)] [(false, [tB true])] :=
  Does.path (fn := Try.f34) [.b false, .b false, .b false, .b false, .b false, .ret [(false, [tB true])]] [fun _ => (!(x0.f0.toList == x1.f0.toList)) = false, fun _ => (!(x0.f1.toList == x1.f1.toList)) = false, fun _ => (x0.f2 != x1.f2) = false, fun _ => (x0.f3 != x1.f3) = false, fun _ => (!(x0.f4 == x1.f4)) = false, fun k => E.C k 87 [.one (.s .far () 5 (x0.f5.map (S132.t q0))), .one (.s .far () 5 (x1.f5.map (S132.t q1)))] = some [(false, [tB true])]] rfl rfl (fun k => by kernel_rfl) ⟨Ev.c h0, Ev.c h1, Ev.c h2, Ev.c h3, Ev.c h4, Does.to (T87 x0.f5 x1.f5 h5 h6 h7) (by rw [h8]), trivial⟩
theorem L34_6 (q0 : Kd) (q1 : Kd) (x0 : S53) (x1 : S53) (h0 : (!(x0.f0.toList == x1.f0.toList)) = false) (h1 : (!(x0.f1.toList == x1.f1.toList)) = false) (h2 : (x0.f2 != x1.f2) = false) (h3 : (x0.f3 != x1.f3) = false) (h4 : (!(x0.f4 == x1.f4)) = false) (h5 : x0.f5 = x1.f5) (h6 : x0.f5.length ≤ 1048576) (h7 : ∀ y ∈ x0.f5, y.f4.length ≤ 1048576) (h8 : (yes x0.f5 x1.f5) = false) : Does E 34 [.agg (S53.t .far q0 x0), .agg (S53.t .far q1 x1)] [(false, [tB false])] :=
  Does.path (fn := Try.f34) [.b false, .b false, .b false, .b false, .b false, .ret [(false, [tB false])]] [fun _ => (!(x0.f0.toList == x1.f0.toList)) = false, fun _ => (!(x0.f1.toList == x1.f1.toList)) = false, fun _ => (x0.f2 != x1.f2) = false, fun _ => (x0.f3 != x1.f3) = false, fun _ => (!(x0.f4 == x1.f4)) = false, fun k => E.C k 87 [.one (.s .far () 5 (x0.f5.map (S132.t q0))), .one (.s .far () 5 (x1.f5.map (S132.t q1)))] = some [(false, [tB false])]] rfl rfl (fun k => by kernel_rfl) ⟨Ev.c h0, Ev.c h1, Ev.c h2, Ev.c h3, Ev.c h4, Does.to (T87 x0.f5 x1.f5 h5 h6 h7) (by rw [h8]), trivial⟩
noncomputable def sem34 (x0 : S53) (x1 : S53) : Option (Bool) :=
    cond (!(x0.f0.toList == x1.f0.toList))
      (some (false))
      (cond (!(x0.f1.toList == x1.f1.toList))
        (some (false))
        (cond (x0.f2 != x1.f2)
          (some (false))
          (cond (x0.f3 != x1.f3)
            (some (false))
            (cond (!(x0.f4 == x1.f4))
              (some (false))
              (if x0.f5 = x1.f5 then if x0.f5.length ≤ 1048576 then if ∀ y ∈ x0.f5, y.f4.length ≤ 1048576 then cond (yes x0.f5 x1.f5)
                (some (true))
                (some (false)) else none else none else none)))))
theorem D34 (q0 : Kd) (q1 : Kd) (x0 : S53) (x1 : S53) : Ans (sem34 x0 x1) (fun r => Does E 34 [.agg (S53.t .far q0 x0), .agg (S53.t .far q1 x1)] [(false, [tB r])]) := by
  unfold sem34
  refine Ans.ite (fun h0 => ?_) (fun h0 => ?_)
  · exact Ans.some (L34_0 q0 q1 x0 x1 h0)
  · refine Ans.ite (fun h1 => ?_) (fun h1 => ?_)
    · exact Ans.some (L34_1 q0 q1 x0 x1 h0 h1)
    · refine Ans.ite (fun h2 => ?_) (fun h2 => ?_)
      · exact Ans.some (L34_2 q0 q1 x0 x1 h0 h1 h2)
      · refine Ans.ite (fun h3 => ?_) (fun h3 => ?_)
        · exact Ans.some (L34_3 q0 q1 x0 x1 h0 h1 h2 h3)
        · refine Ans.ite (fun h4 => ?_) (fun h4 => ?_)
          · exact Ans.some (L34_4 q0 q1 x0 x1 h0 h1 h2 h3 h4)
          · refine Ans.pre (fun h5 => ?_)
            refine Ans.pre (fun h6 => ?_)
            refine Ans.pre (fun h7 => ?_)
            refine Ans.ite (fun h8 => ?_) (fun h8 => ?_)
            · exact Ans.some (L34_5 q0 q1 x0 x1 h0 h1 h2 h3 h4 h5 h6 h7 h8)
            · exact Ans.some (L34_6 q0 q1 x0 x1 h0 h1 h2 h3 h4 h5 h6 h7 h8)
theorem T34 {q q2 : Kd} (a b : S53) (h : a = b) (hl : a.f5.length ≤ 1048576) (ha : ∀ y ∈ a.f5, y.f4.length ≤ 1048576) : Does E 34 [.agg (S53.t .far q a), .agg (S53.t .far q2 b)] [(false, [tB (yes a b)])] := by
  subst h
  exact D34 q q2 a a _ (by unfold sem34; simp only [if_pos hl, if_pos ha]; simp [yes])
-- function 86: loop.example/g00188/impl.TaskAt$1
theorem L86_0 (x0 : S132) (y0 : ByteArray)  : Does E 86 [.agg (S132.t .far x0), .im .far () [tS y0] 0] [(false, [tB (x0.f0.toList == y0.toList)])] :=
  Does.path (fn := Try.f86) [] [] rfl rfl (fun k => by kernel_rfl) trivial
noncomputable def sem86 (x0 : S132) (y0 : ByteArray) : Option (Bool) :=
    some (x0.f0.toList == y0.toList)
theorem D86 (x0 : S132) (y0 : ByteArray) : Ans (sem86 x0 y0) (fun r => Does E 86 [.agg (S132.t .far x0), .im .far () [tS y0] 0] [(false, [tB r])]) := by
  unfold sem86
  exact Ans.some (L86_0 x0 y0)
def isTask (x : S132) (s : ByteArray) : Bool := x.f0.toList == s.toList
theorem T86 (x : S132) (s : ByteArray) : Does E 86 [.agg (S132.t .far x), .im .far () [tS s] 0] [(false, [tB (isTask x s)])] := D86 x s _ rfl
def taskIn (l : List S132) (s : ByteArray) : Int := if l.any (isTask · s) then (l.findIdx (isTask · s) : Int) else -1
-- function 85_86: slices.IndexFunc[[]loop.example/g00188/impl.Task,loop.example/g00188/impl.Task]
inductive X85_86_0 where
  | ret (v4 : Int)
  | x0 
noncomputable def loop85_86_0 : Nat → (List S132) → ByteArray → Int → Int → Option X85_86_0
  | 0, _, _, _, _ => none
  | n + 1, v0, v1_0_0, v7, v8 => cond (decide (v8 < v7))
    ((getI v0 v8).bind fun g0 => cond (isTask g0 v1_0_0)
      (some (.ret v8))
      (loop85_86_0 n v0 v1_0_0 v7 (IntKind.wrap .i64 (v8 + (1 : Int)))))
    (some (.x0))
def Q85_86_0 (q0 : Kd) (v0 : List S132) (v1_0_0 : ByteArray) (v7 : Int) (v8 : Int) : X85_86_0 → Prop
  | .ret zv4 => Loops E 85 (lpAt Try.f85 0) (stL 19 [(0, .one (.s .far () 5 (v0.map (S132.t q0)))), (1, .fni 86 [((), [tS v1_0_0])]), (7, .one (tI v7)), (8, .one (tI v8))]) .ret (stL 19 [(4, .one (tI zv4))])
  | .x0 => Loops E 85 (lpAt Try.f85 0) (stL 19 [(0, .one (.s .far () 5 (v0.map (S132.t q0)))), (1, .fni 86 [((), [tS v1_0_0])]), (7, .one (tI v7)), (8, .one (tI v8))]) (.exit 0) (stL 19 [])
theorem R85_86_0_0 (q0 : Kd) (v0 : List S132) (v1_0_0 : ByteArray) (v7 : Int) (v8 : Int) (g0 : S132) (h0 : (decide (v8 < v7)) = true) (h1 : getI v0 v8 = some g0) (h2 : (isTask g0 v1_0_0) = true) : Round E 85 (lpAt Try.f85 0) (stL 19 [(0, .one (.s .far () 5 (v0.map (S132.t q0)))), (1, .fni 86 [((), [tS v1_0_0])]), (7, .one (tI v7)), (8, .one (tI v8))]) .ret (stL 19 [(4, .one (tI v8))]) :=
  Round.path [.b true, .row ((S132.t q0) g0), .ret [(false, [tB true])]] [fun _ => (decide (v8 < v7)) = true, fun _ => 0 ≤ v8 ∧ (v0.map (S132.t q0))[v8.toNat]? = some ((S132.t q0) g0), fun k => E.C k 86 [.agg (S132.t .far g0), .im .far () [tS v1_0_0] 0] = some [(false, [tB true])]] (fun k => by kernel_rfl) ⟨Ev.c h0, Ev.c (getRow h1), Does.to (T86 g0 v1_0_0) (by rw [h2]), trivial⟩
theorem R85_86_0_1 (q0 : Kd) (v0 : List S132) (v1_0_0 : ByteArray) (v7 : Int) (v8 : Int) (g0 : S132) (h0 : (decide (v8 < v7)) = true) (h1 : getI v0 v8 = some g0) (h2 : (isTask g0 v1_0_0) = false) : Round E 85 (lpAt Try.f85 0) (stL 19 [(0, .one (.s .far () 5 (v0.map (S132.t q0)))), (1, .fni 86 [((), [tS v1_0_0])]), (7, .one (tI v7)), (8, .one (tI v8))]) .normal (stL 19 [(0, .one (.s .far () 5 (v0.map (S132.t q0)))), (1, .fni 86 [((), [tS v1_0_0])]), (7, .one (tI v7)), (8, .one (tI (IntKind.wrap .i64 (v8 + (1 : Int)))))]) :=
  Round.path [.b true, .row ((S132.t q0) g0), .ret [(false, [tB false])]] [fun _ => (decide (v8 < v7)) = true, fun _ => 0 ≤ v8 ∧ (v0.map (S132.t q0))[v8.toNat]? = some ((S132.t q0) g0), fun k => E.C k 86 [.agg (S132.t .far g0), .im .far () [tS v1_0_0] 0] = some [(false, [tB false])]] (fun k => by kernel_rfl) ⟨Ev.c h0, Ev.c (getRow h1), Does.to (T86 g0 v1_0_0) (by rw [h2]), trivial⟩
theorem R85_86_0_2 (q0 : Kd) (v0 : List S132) (v1_0_0 : ByteArray) (v7 : Int) (v8 : Int) (h0 : (decide (v8 < v7)) = false) : Round E 85 (lpAt Try.f85 0) (stL 19 [(0, .one (.s .far () 5 (v0.map (S132.t q0)))), (1, .fni 86 [((), [tS v1_0_0])]), (7, .one (tI v7)), (8, .one (tI v8))]) (.exit 0) (stL 19 []) :=
  Round.path [.b false] [fun _ => (decide (v8 < v7)) = false] (fun k => by kernel_rfl) ⟨Ev.c h0, trivial⟩
theorem L85_86_0 (q0 : Kd) (n : Nat) : ∀ (v0 : List S132) (v1_0_0 : ByteArray) (v7 : Int) (v8 : Int), Ans (loop85_86_0 n v0 v1_0_0 v7 v8) (Q85_86_0 q0 v0 v1_0_0 v7 v8) := by
  induction n with
  | zero => intros; exact Ans.none
  | succ n ih =>
    intro v0 v1_0_0 v7 v8
    unfold loop85_86_0
    refine Ans.ite (fun h0 => ?_) (fun h0 => ?_)
    · refine Ans.bind (fun g0 h1 => ?_)
      refine Ans.ite (fun h2 => ?_) (fun h2 => ?_)
      · exact Ans.some (Loops.stop (R85_86_0_0 q0 v0 v1_0_0 v7 v8 g0 h0 h1 h2) (by intro h; cases h))
      · exact (ih v0 v1_0_0 v7 (IntKind.wrap .i64 (v8 + (1 : Int)))).mono fun y hy => by cases y <;> exact Loops.next (R85_86_0_1 q0 v0 v1_0_0 v7 v8 g0 h0 h1 h2) hy
    · exact Ans.some (Loops.stop (R85_86_0_2 q0 v0 v1_0_0 v7 v8 h0) (by intro h; cases h))
theorem P85_86_0 (q0 : Kd) (x0 : List S132) (c1_0 : ByteArray) (w0_4 : Int) (h0 : Loops E 85 (lpAt Try.f85 0) (stL 19 [(0, .one (.s .far () 5 (x0.map (S132.t q0)))), (1, .fni 86 [((), [tS c1_0])]), (7, .one (tI (x0.length : Int))), (8, .one (tI (0 : Int)))]) .ret (stL 19 [(4, .one (tI w0_4))])) : Does E 85 [.one (.s .far () 5 (x0.map (S132.t q0))), .fni 86 [((), [tS c1_0])]] [(false, [tI w0_4])] :=
  Does.path (fn := Try.f85) [.val (.int .i64 (x0.length : Int)), .lp .ret (stL 19 [(4, .one (tI w0_4))])] [fun _ => ((x0.map (S132.t q0)).length : Int) = (x0.length : Int), fun k => LoopK E 85 (lpAt Try.f85 0) (stL 19 [(0, .one (.s .far () 5 (x0.map (S132.t q0)))), (1, .fni 86 [((), [tS c1_0])]), (7, .one (tI (x0.length : Int))), (8, .one (tI (0 : Int)))]) .ret (stL 19 [(4, .one (tI w0_4))]) k k] rfl rfl (fun k => by kernel_rfl) ⟨Ev.c lenMap, Loops.ev h0, trivial⟩
theorem P85_86_1 (q0 : Kd) (x0 : List S132) (c1_0 : ByteArray) (h0 : Loops E 85 (lpAt Try.f85 0) (stL 19 [(0, .one (.s .far () 5 (x0.map (S132.t q0)))), (1, .fni 86 [((), [tS c1_0])]), (7, .one (tI (x0.length : Int))), (8, .one (tI (0 : Int)))]) (.exit 0) (stL 19 [])) : Does E 85 [.one (.s .far () 5 (x0.map (S132.t q0))), .fni 86 [((), [tS c1_0])]] [(false, [tI (-1 : Int)])] :=
  Does.path (fn := Try.f85) [.val (.int .i64 (x0.length : Int)), .lp (.exit 0) (stL 19 [])] [fun _ => ((x0.map (S132.t q0)).length : Int) = (x0.length : Int), fun k => LoopK E 85 (lpAt Try.f85 0) (stL 19 [(0, .one (.s .far () 5 (x0.map (S132.t q0)))), (1, .fni 86 [((), [tS c1_0])]), (7, .one (tI (x0.length : Int))), (8, .one (tI (0 : Int)))]) (.exit 0) (stL 19 []) k k] rfl rfl (fun k => by kernel_rfl) ⟨Ev.c lenMap, Loops.ev h0, trivial⟩
noncomputable def sem85_86 (n : Nat) (x0 : List S132) (c1_0 : ByteArray) : Option (Int) :=
    (loop85_86_0 n x0 c1_0 (x0.length : Int) (0 : Int)).bind fun y => match y with
      | .ret w0_4 => (some (w0_4))
      | .x0 => (some ((-1 : Int)))
theorem D85_86 (q0 : Kd) (n : Nat) (x0 : List S132) (c1_0 : ByteArray) : Ans (sem85_86 n x0 c1_0) (fun r => Does E 85 [.one (.s .far () 5 (x0.map (S132.t q0))), .fni 86 [((), [tS c1_0])]] [(false, [tI r])]) := by
  unfold sem85_86
  refine Ans.bind (fun y hy => ?_)
  replace hy := L85_86_0 q0 n x0 c1_0 (x0.length : Int) (0 : Int) y hy
  cases y with
  | ret w0_4 =>
    have h0 := hy
    exact Ans.some (P85_86_0 q0 x0 c1_0 w0_4 h0)
  | x0 =>
    have h0 := hy
    exact Ans.some (P85_86_1 q0 x0 c1_0 h0)
theorem loop85_86_ok (l : List S132) (s : ByteArray) (hl : l.length ≤ 1048576) : ∀ (k i n : Nat), i + k = l.length → k < n → loop85_86_0 n l s (l.length : Int) i = some (cond ((l.drop i).any (isTask · s)) (.ret (i + (l.drop i).findIdx (isTask · s) : Nat)) .x0)
  | 0, i, n, hi, hn => by
    obtain ⟨n, rfl⟩ : ∃ m, n = m + 1 := ⟨n - 1, by omega⟩
    simp only [loop85_86_0]
    rw [show decide ((i : Int) < (l.length : Int)) = false from decide_eq_false (by omega), List.drop_of_length_le (by omega)]
    rfl
  | k + 1, i, n, hi, hn => by
    obtain ⟨n, rfl⟩ : ∃ m, n = m + 1 := ⟨n - 1, by omega⟩
    have hil : i < l.length := by omega
    have ih := loop85_86_ok l s hl k (i + 1) n (by omega) (by omega)
    simp only [loop85_86_0]
    rw [show decide ((i : Int) < (l.length : Int)) = true from decide_eq_true (by omega), getI_nat, List.getElem?_eq_getElem hil, wrap1 i (by omega)]
    simp only [cond_true, Option.bind_some]
    rw [ih, List.drop_eq_getElem_cons hil, List.any_cons, List.findIdx_cons]
    cases isTask l[i] s
    · simp only [cond_false, Bool.false_or]
      cases (List.drop (i + 1) l).any (isTask · s)
      · rfl
      · simp only [cond_true, Option.some.injEq, X85_86_0.ret.injEq]; omega
    · simp
theorem T85_86 {q : Kd} (l : List S132) (s : ByteArray) (h : l.length ≤ 1048576) : Does E 85 [.one (.s .far () 5 (l.map (S132.t q))), .fni 86 [((), [tS s])]] [(false, [tI (taskIn l s)])] := D85_86 q (l.length + 1) l s _ (by
  unfold sem85_86 taskIn
  rw [show (0 : Int) = ((0 : Nat) : Int) from rfl, loop85_86_ok l s h l.length 0 _ (by omega) (by omega), List.drop_zero]
  cases l.any (isTask · s)
  · rfl
  · simp)
-- function 83: loop.example/g00188/spec.l12At
inductive X83_0 where
  | ret (v4 : Int)
  | x0 
noncomputable def loop83_0 : Nat → (List S132) → ByteArray → Int → Option X83_0
  | 0, _, _, _ => none
  | n + 1, v0, v1, v5 => cond (decide (v5 < (v0.length : Int)))
    ((getI v0 v5).bind fun g0 => cond (g0.f0.toList == v1.toList)
      (some (.ret v5))
      (loop83_0 n v0 v1 (IntKind.wrap .i64 (v5 + (1 : Int)))))
    (some (.x0))
def Q83_0 (q0 : Kd) (v0 : List S132) (v1 : ByteArray) (v5 : Int) : X83_0 → Prop
  | .ret zv4 => Loops E 83 (lpAt Try.f83 0) (stL 20 [(0, .one (.s .far () 5 (v0.map (S132.t q0)))), (1, .one (tS v1)), (5, .one (tI v5))]) .ret (stL 20 [(4, .one (tI zv4))])
  | .x0 => Loops E 83 (lpAt Try.f83 0) (stL 20 [(0, .one (.s .far () 5 (v0.map (S132.t q0)))), (1, .one (tS v1)), (5, .one (tI v5))]) (.exit 0) (stL 20 [])
theorem R83_0_0 (q0 : Kd) (v0 : List S132) (v1 : ByteArray) (v5 : Int) (g0 : S132) (h0 : (decide (v5 < (v0.length : Int))) = true) (h1 : getI v0 v5 = some g0) (h2 : (g0.f0.toList == v1.toList) = true) : Round E 83 (lpAt Try.f83 0) (stL 20 [(0, .one (.s .far () 5 (v0.map (S132.t q0)))), (1, .one (tS v1)), (5, .one (tI v5))]) .ret (stL 20 [(4, .one (tI v5))]) :=
  Round.path [.val (.int .i64 (v0.length : Int)), .b true, .row ((S132.t q0) g0), .b true] [fun _ => ((v0.map (S132.t q0)).length : Int) = (v0.length : Int), fun _ => (decide (v5 < (v0.length : Int))) = true, fun _ => 0 ≤ v5 ∧ (v0.map (S132.t q0))[v5.toNat]? = some ((S132.t q0) g0), fun _ => (g0.f0.toList == v1.toList) = true] (fun k => by kernel_rfl) ⟨Ev.c lenMap, Ev.c h0, Ev.c (getRow h1), Ev.c h2, trivial⟩
theorem R83_0_1 (q0 : Kd) (v0 : List S132) (v1 : ByteArray) (v5 : Int) (g0 : S132) (h0 : (decide (v5 < (v0.length : Int))) = true) (h1 : getI v0 v5 = some g0) (h2 : (g0.f0.toList == v1.toList) = false) : Round E 83 (lpAt Try.f83 0) (stL 20 [(0, .one (.s .far () 5 (v0.map (S132.t q0)))), (1, .one (tS v1)), (5, .one (tI v5))]) .normal (stL 20 [(0, .one (.s .far () 5 (v0.map (S132.t q0)))), (1, .one (tS v1)), (5, .one (tI (IntKind.wrap .i64 (v5 + (1 : Int)))))]) :=
  Round.path [.val (.int .i64 (v0.length : Int)), .b true, .row ((S132.t q0) g0), .b false] [fun _ => ((v0.map (S132.t q0)).length : Int) = (v0.length : Int), fun _ => (decide (v5 < (v0.length : Int))) = true, fun _ => 0 ≤ v5 ∧ (v0.map (S132.t q0))[v5.toNat]? = some ((S132.t q0) g0), fun _ => (g0.f0.toList == v1.toList) = false] (fun k => by kernel_rfl) ⟨Ev.c lenMap, Ev.c h0, Ev.c (getRow h1), Ev.c h2, trivial⟩
theorem R83_0_2 (q0 : Kd) (v0 : List S132) (v1 : ByteArray) (v5 : Int) (h0 : (decide (v5 < (v0.length : Int))) = false) : Round E 83 (lpAt Try.f83 0) (stL 20 [(0, .one (.s .far () 5 (v0.map (S132.t q0)))), (1, .one (tS v1)), (5, .one (tI v5))]) (.exit 0) (stL 20 []) :=
  Round.path [.val (.int .i64 (v0.length : Int)), .b false] [fun _ => ((v0.map (S132.t q0)).length : Int) = (v0.length : Int), fun _ => (decide (v5 < (v0.length : Int))) = false] (fun k => by kernel_rfl) ⟨Ev.c lenMap, Ev.c h0, trivial⟩
theorem L83_0 (q0 : Kd) (n : Nat) : ∀ (v0 : List S132) (v1 : ByteArray) (v5 : Int), Ans (loop83_0 n v0 v1 v5) (Q83_0 q0 v0 v1 v5) := by
  induction n with
  | zero => intros; exact Ans.none
  | succ n ih =>
    intro v0 v1 v5
    unfold loop83_0
    refine Ans.ite (fun h0 => ?_) (fun h0 => ?_)
    · refine Ans.bind (fun g0 h1 => ?_)
      refine Ans.ite (fun h2 => ?_) (fun h2 => ?_)
      · exact Ans.some (Loops.stop (R83_0_0 q0 v0 v1 v5 g0 h0 h1 h2) (by intro h; cases h))
      · exact (ih v0 v1 (IntKind.wrap .i64 (v5 + (1 : Int)))).mono fun y hy => by cases y <;> exact Loops.next (R83_0_1 q0 v0 v1 v5 g0 h0 h1 h2) hy
    · exact Ans.some (Loops.stop (R83_0_2 q0 v0 v1 v5 h0) (by intro h; cases h))
theorem P83_0 (q0 : Kd) (x0 : List S132) (x1 : ByteArray) (w0_4 : Int) (h0 : Loops E 83 (lpAt Try.f83 0) (stL 20 [(0, .one (.s .far () 5 (x0.map (S132.t q0)))), (1, .one (tS x1)), (5, .one (tI (0 : Int)))]) .ret (stL 20 [(4, .one (tI w0_4))])) : Does E 83 [.one (.s .far () 5 (x0.map (S132.t q0))), .one (tS x1)] [(false, [tI w0_4])] :=
  Does.path (fn := Try.f83) [.lp .ret (stL 20 [(4, .one (tI w0_4))])] [fun k => LoopK E 83 (lpAt Try.f83 0) (stL 20 [(0, .one (.s .far () 5 (x0.map (S132.t q0)))), (1, .one (tS x1)), (5, .one (tI (0 : Int)))]) .ret (stL 20 [(4, .one (tI w0_4))]) k k] rfl rfl (fun k => by kernel_rfl) ⟨Loops.ev h0, trivial⟩
theorem P83_1 (q0 : Kd) (x0 : List S132) (x1 : ByteArray) (h0 : Loops E 83 (lpAt Try.f83 0) (stL 20 [(0, .one (.s .far () 5 (x0.map (S132.t q0)))), (1, .one (tS x1)), (5, .one (tI (0 : Int)))]) (.exit 0) (stL 20 [])) : Does E 83 [.one (.s .far () 5 (x0.map (S132.t q0))), .one (tS x1)] [(false, [tI (-1 : Int)])] :=
  Does.path (fn := Try.f83) [.lp (.exit 0) (stL 20 [])] [fun k => LoopK E 83 (lpAt Try.f83 0) (stL 20 [(0, .one (.s .far () 5 (x0.map (S132.t q0)))), (1, .one (tS x1)), (5, .one (tI (0 : Int)))]) (.exit 0) (stL 20 []) k k] rfl rfl (fun k => by kernel_rfl) ⟨Loops.ev h0, trivial⟩
noncomputable def sem83 (n : Nat) (x0 : List S132) (x1 : ByteArray) : Option (Int) :=
    (loop83_0 n x0 x1 (0 : Int)).bind fun y => match y with
      | .ret w0_4 => (some (w0_4))
      | .x0 => (some ((-1 : Int)))
theorem D83 (q0 : Kd) (n : Nat) (x0 : List S132) (x1 : ByteArray) : Ans (sem83 n x0 x1) (fun r => Does E 83 [.one (.s .far () 5 (x0.map (S132.t q0))), .one (tS x1)] [(false, [tI r])]) := by
  unfold sem83
  refine Ans.bind (fun y hy => ?_)
  replace hy := L83_0 q0 n x0 x1 (0 : Int) y hy
  cases y with
  | ret w0_4 =>
    have h0 := hy
    exact Ans.some (P83_0 q0 x0 x1 w0_4 h0)
  | x0 =>
    have h0 := hy
    exact Ans.some (P83_1 q0 x0 x1 h0)
theorem loop83_ok (l : List S132) (s : ByteArray) (hl : l.length ≤ 1048576) : ∀ (k i n : Nat), i + k = l.length → k < n → loop83_0 n l s i = some (cond ((l.drop i).any (isTask · s)) (.ret (i + (l.drop i).findIdx (isTask · s) : Nat)) .x0)
  | 0, i, n, hi, hn => by
    obtain ⟨n, rfl⟩ : ∃ m, n = m + 1 := ⟨n - 1, by omega⟩
    simp only [loop83_0]
    rw [show decide ((i : Int) < (l.length : Int)) = false from decide_eq_false (by omega), List.drop_of_length_le (by omega)]
    rfl
  | k + 1, i, n, hi, hn => by
    obtain ⟨n, rfl⟩ : ∃ m, n = m + 1 := ⟨n - 1, by omega⟩
    have hil : i < l.length := by omega
    have ih := loop83_ok l s hl k (i + 1) n (by omega) (by omega)
    simp only [loop83_0]
    rw [show decide ((i : Int) < (l.length : Int)) = true from decide_eq_true (by omega), getI_nat, List.getElem?_eq_getElem hil, wrap1 i (by omega)]
    simp only [cond_true, Option.bind_some]
    rw [ih, List.drop_eq_getElem_cons hil, List.any_cons, List.findIdx_cons]
    change cond (isTask l[i] s) _ _ = _
    cases isTask l[i] s
    · simp only [cond_false, Bool.false_or]
      cases (List.drop (i + 1) l).any (isTask · s)
      · rfl
      · simp only [cond_true, Option.some.injEq, X83_0.ret.injEq]; omega
    · simp
theorem T83 {q : Kd} (l : List S132) (s : ByteArray) (h : l.length ≤ 1048576) : Does E 83 [.one (.s .far () 5 (l.map (S132.t q))), .one (tS s)] [(false, [tI (taskIn l s)])] := D83 q (l.length + 1) l s _ (by
  unfold sem83 taskIn
  rw [show (0 : Int) = ((0 : Nat) : Int) from rfl, loop83_ok l s h l.length 0 _ (by omega) (by omega), List.drop_zero]
  cases l.any (isTask · s)
  · rfl
  · simp)
-- function 33: loop.example/g00188/impl.TaskAt
theorem L33_0 (q0 : Kd) (x0 : S53) (x1 : ByteArray) (h0 : x0.f5.length ≤ 1048576) : Does E 33 [.agg (S53.t .far q0 x0), .one (tS x1)] [(false, [tI (taskIn x0.f5 x1)])] :=
  Does.path (fn := Try.f33) [.ret [(false, [tI (taskIn x0.f5 x1)])]] [fun k => E.C k 85 [.one (.s .far () 5 (x0.f5.map (S132.t q0))), .fni 86 [((), [tS x1])]] = some [(false, [tI (taskIn x0.f5 x1)])]] rfl rfl (fun k => by kernel_rfl) ⟨T85_86 x0.f5 x1 h0, trivial⟩
noncomputable def sem33 (x0 : S53) (x1 : ByteArray) : Option (Int) :=
    if x0.f5.length ≤ 1048576 then some (taskIn x0.f5 x1) else none
theorem D33 (q0 : Kd) (x0 : S53) (x1 : ByteArray) : Ans (sem33 x0 x1) (fun r => Does E 33 [.agg (S53.t .far q0 x0), .one (tS x1)] [(false, [tI r])]) := by
  unfold sem33
  refine Ans.pre (fun h0 => ?_)
  exact Ans.some (L33_0 q0 x0 x1 h0)
-- function 31: loop.example/g00188/spec.TaskAt
theorem L31_0 (q0 : Kd) (x0 : S53) (x1 : ByteArray) (h0 : x0.f5.length ≤ 1048576) : Does E 31 [.agg (S53.t .far q0 x0), .one (tS x1)] [(false, [tI (taskIn x0.f5 x1)])] :=
  Does.path (fn := Try.f31) [.ret [(false, [tI (taskIn x0.f5 x1)])]] [fun k => E.C k 83 [.one (.s .far () 5 (x0.f5.map (S132.t q0))), .one (tS x1)] = some [(false, [tI (taskIn x0.f5 x1)])]] rfl rfl (fun k => by kernel_rfl) ⟨T83 x0.f5 x1 h0, trivial⟩
noncomputable def sem31 (x0 : S53) (x1 : ByteArray) : Option (Int) :=
    if x0.f5.length ≤ 1048576 then some (taskIn x0.f5 x1) else none
theorem D31 (q0 : Kd) (x0 : S53) (x1 : ByteArray) : Ans (sem31 x0 x1) (fun r => Does E 31 [.agg (S53.t .far q0 x0), .one (tS x1)] [(false, [tI r])]) := by
  unfold sem31
  refine Ans.pre (fun h0 => ?_)
  exact Ans.some (L31_0 q0 x0 x1 h0)
def taskAt (x : S53) (s : ByteArray) : Int := taskIn x.f5 s
theorem T33 {q : Kd} (x : S53) (s : ByteArray) (h : x.f5.length ≤ 1048576) : Does E 33 [.agg (S53.t .far q x), .one (tS s)] [(false, [tI (taskAt x s)])] := D33 q x s _ (by unfold sem33; rw [if_pos h]; rfl)
theorem T31 {q : Kd} (x : S53) (s : ByteArray) (h : x.f5.length ≤ 1048576) : Does E 31 [.agg (S53.t .far q x), .one (tS s)] [(false, [tI (taskAt x s)])] := D31 q x s _ (by unfold sem31; rw [if_pos h]; rfl)
-- function 8: loop.example/g00188/laws.FnExactTaskAt
theorem L8_0 (q0 : Kd) (x0 : S48) (x1 : ByteArray) (h0 : (decide ((x1.size : Int) > (1048576 : Int))) = true) : Does E 8 [.agg (S48.t .far q0 x0), .one (tS x1)] [(false, [tB true])] :=
  Does.path (fn := Try.f8) [.b true] [fun _ => (decide ((x1.size : Int) > (1048576 : Int))) = true] rfl rfl (fun k => by kernel_rfl) ⟨Ev.c h0, trivial⟩
theorem L8_1 (q0 : Kd) (x0 : S48) (x1 : ByteArray) (h0 : (decide ((x1.size : Int) > (1048576 : Int))) = false) (h1 : x0.f5.length ≤ 9223372036854775807) (h2 : ∀ y ∈ x0.f5, y.f4.length ≤ 9223372036854775807) (h3 : (decide ((szDag x0 (1048576 : Int)) < (0 : Int))) = true) : Does E 8 [.agg (S48.t .far q0 x0), .one (tS x1)] [(false, [tB true])] :=
  Does.path (fn := Try.f8) [.b false, .ret [(false, [tI (szDag x0 (1048576 : Int))])], .b true] [fun _ => (decide ((x1.size : Int) > (1048576 : Int))) = false, fun k => E.C k 30 [.agg (S48.t .far q0 x0), .one (tI (1048576 : Int))] = some [(false, [tI (szDag x0 (1048576 : Int))])], fun _ => (decide ((szDag x0 (1048576 : Int)) < (0 : Int))) = true] rfl rfl (fun k => by kernel_rfl) ⟨Ev.c h0, T30 x0 (1048576 : Int) h1 h2, Ev.c h3, trivial⟩
theorem L8_2 (q0 : Kd) (x0 : S48) (x1 : ByteArray) (h0 : (decide ((x1.size : Int) > (1048576 : Int))) = false) (h1 : x0.f5.length ≤ 9223372036854775807) (h2 : ∀ y ∈ x0.f5, y.f4.length ≤ 9223372036854775807) (h3 : (decide ((szDag x0 (1048576 : Int)) < (0 : Int))) = false) (h4 : x0.f5.length ≤ 1048576) (h5 : ∀ y ∈ x0.f5, y.f4.length ≤ 1048576) (h6 : (toDag x0).f5.length ≤ 1048576) (h7 : ((taskAt (toDag x0) x1) != (taskAt (toDag x0) x1)) = true) : Does E 8 [.agg (S48.t .far q0 x0), .one (tS x1)] [(false, [tB false])] :=
  Does.path (fn := Try.f8) [.b false, .ret [(false, [tI (szDag x0 (1048576 : Int))])], .b false, .ret [(true, S53.t .own .own (toDag x0))], .ret [(false, [tI (taskAt (toDag x0) x1)])], .ret [(true, S53.t .own .own (toDag x0))], .ret [(false, [tI (taskAt (toDag x0) x1)])], .b true] [fun _ => (decide ((x1.size : Int) > (1048576 : Int))) = false, fun k => E.C k 30 [.agg (S48.t .far q0 x0), .one (tI (1048576 : Int))] = some [(false, [tI (szDag x0 (1048576 : Int))])], fun _ => (decide ((szDag x0 (1048576 : Int)) < (0 : Int))) = false, fun k => E.C k 32 [.agg (S48.t .far q0 x0)] = some [(true, S53.t .own .own (toDag x0))], fun k => E.C k 31 [.agg (S53.t .far .own (toDag x0)), .one (tS x1)] = some [(false, [tI (taskAt (toDag x0) x1)])], fun k => E.C k 32 [.agg (S48.t .far q0 x0)] = some [(true, S53.t .own .own (toDag x0))], fun k => E.C k 33 [.agg (S53.t .far .own (toDag x0)), .one (tS x1)] = some [(false, [tI (taskAt (toDag x0) x1)])], fun _ => ((taskAt (toDag x0) x1) != (taskAt (toDag x0) x1)) = true] rfl rfl (fun k => by kernel_rfl) ⟨Ev.c h0, T30 x0 (1048576 : Int) h1 h2, Ev.c h3, T32 x0 h4 h5, T31 (toDag x0) x1 h6, T32 x0 h4 h5, T33 (toDag x0) x1 h6, Ev.c h7, trivial⟩
theorem L8_3 (q0 : Kd) (x0 : S48) (x1 : ByteArray) (h0 : (decide ((x1.size : Int) > (1048576 : Int))) = false) (h1 : x0.f5.length ≤ 9223372036854775807) (h2 : ∀ y ∈ x0.f5, y.f4.length ≤ 9223372036854775807) (h3 : (decide ((szDag x0 (1048576 : Int)) < (0 : Int))) = false) (h4 : x0.f5.length ≤ 1048576) (h5 : ∀ y ∈ x0.f5, y.f4.length ≤ 1048576) (h6 : (toDag x0).f5.length ≤ 1048576) (h7 : ((taskAt (toDag x0) x1) != (taskAt (toDag x0) x1)) = false) (h8 : (toDag x0) = (toDag x0)) (h9 : ∀ y ∈ (toDag x0).f5, y.f4.length ≤ 1048576) (h10 : (yes (toDag x0) (toDag x0)) = true) : Does E 8 [.agg (S48.t .far q0 x0), .one (tS x1)] [(false, [tB true])] :=
  Does.path (fn := Try.f8) [.b false, .ret [(false, [tI (szDag x0 (1048576 : Int))])], .b false, .ret [(true, S53.t .own .own (toDag x0))], .ret [(false, [tI (taskAt (toDag x0) x1)])], .ret [(true, S53.t .own .own (toDag x0))], .ret [(false, [tI (taskAt (toDag x0) x1)])], .b false, .ret [(true, S53.t .own .own (toDag x0))], .ret [(false, [tB true])]] [fun _ => (decide ((x1.size : Int) > (1048576 : Int))) = false, fun k => E.C k 30 [.agg (S48.t .far q0 x0), .one (tI (1048576 : Int))] = some [(false, [tI (szDag x0 (1048576 : Int))])], fun _ => (decide ((szDag x0 (1048576 : Int)) < (0 : Int))) = false, fun k => E.C k 32 [.agg (S48.t .far q0 x0)] = some [(true, S53.t .own .own (toDag x0))], fun k => E.C k 31 [.agg (S53.t .far .own (toDag x0)), .one (tS x1)] = some [(false, [tI (taskAt (toDag x0) x1)])], fun k => E.C k 32 [.agg (S48.t .far q0 x0)] = some [(true, S53.t .own .own (toDag x0))], fun k => E.C k 33 [.agg (S53.t .far .own (toDag x0)), .one (tS x1)] = some [(false, [tI (taskAt (toDag x0) x1)])], fun _ => ((taskAt (toDag x0) x1) != (taskAt (toDag x0) x1)) = false, fun k => E.C k 32 [.agg (S48.t .far q0 x0)] = some [(true, S53.t .own .own (toDag x0))], fun k => E.C k 34 [.agg (S53.t .far .own (toDag x0)), .agg (S53.t .far .own (toDag x0))] = some [(false, [tB true])]] rfl rfl (fun k => by kernel_rfl) ⟨Ev.c h0, T30 x0 (1048576 : Int) h1 h2, Ev.c h3, T32 x0 h4 h5, T31 (toDag x0) x1 h6, T32 x0 h4 h5, T33 (toDag x0) x1 h6, Ev.c h7, T32 x0 h4 h5, Does.to (T34 (toDag x0) (toDag x0) h8 h6 h9) (by rw [h10]), trivial⟩
theorem L8_4 (q0 : Kd) (x0 : S48) (x1 : ByteArray) (h0 : (decide ((x1.size : Int) > (1048576 : Int))) = false) (h1 : x0.f5.length ≤ 9223372036854775807) (h2 : ∀ y ∈ x0.f5, y.f4.length ≤ 9223372036854775807) (h3 : (decide ((szDag x0 (1048576 : Int)) < (0 : Int))) = false) (h4 : x0.f5.length ≤ 1048576) (h5 : ∀ y ∈ x0.f5, y.f4.length ≤ 1048576) (h6 : (toDag x0).f5.length ≤ 1048576) (h7 : ((taskAt (toDag x0) x1) != (taskAt (toDag x0) x1)) = false) (h8 : (toDag x0) = (toDag x0)) (h9 : ∀ y ∈ (toDag x0).f5, y.f4.length ≤ 1048576) (h10 : (yes (toDag x0) (toDag x0)) = false) : Does E 8 [.agg (S48.t .far q0 x0), .one (tS x1)] [(false, [tB false])] :=
  Does.path (fn := Try.f8) [.b false, .ret [(false, [tI (szDag x0 (1048576 : Int))])], .b false, .ret [(true, S53.t .own .own (toDag x0))], .ret [(false, [tI (taskAt (toDag x0) x1)])], .ret [(true, S53.t .own .own (toDag x0))], .ret [(false, [tI (taskAt (toDag x0) x1)])], .b false, .ret [(true, S53.t .own .own (toDag x0))], .ret [(false, [tB false])]] [fun _ => (decide ((x1.size : Int) > (1048576 : Int))) = false, fun k => E.C k 30 [.agg (S48.t .far q0 x0), .one (tI (1048576 : Int))] = some [(false, [tI (szDag x0 (1048576 : Int))])], fun _ => (decide ((szDag x0 (1048576 : Int)) < (0 : Int))) = false, fun k => E.C k 32 [.agg (S48.t .far q0 x0)] = some [(true, S53.t .own .own (toDag x0))], fun k => E.C k 31 [.agg (S53.t .far .own (toDag x0)), .one (tS x1)] = some [(false, [tI (taskAt (toDag x0) x1)])], fun k => E.C k 32 [.agg (S48.t .far q0 x0)] = some [(true, S53.t .own .own (toDag x0))], fun k => E.C k 33 [.agg (S53.t .far .own (toDag x0)), .one (tS x1)] = some [(false, [tI (taskAt (toDag x0) x1)])], fun _ => ((taskAt (toDag x0) x1) != (taskAt (toDag x0) x1)) = false, fun k => E.C k 32 [.agg (S48.t .far q0 x0)] = some [(true, S53.t .own .own (toDag x0))], fun k => E.C k 34 [.agg (S53.t .far .own (toDag x0)), .agg (S53.t .far .own (toDag x0))] = some [(false, [tB false])]] rfl rfl (fun k => by kernel_rfl) ⟨Ev.c h0, T30 x0 (1048576 : Int) h1 h2, Ev.c h3, T32 x0 h4 h5, T31 (toDag x0) x1 h6, T32 x0 h4 h5, T33 (toDag x0) x1 h6, Ev.c h7, T32 x0 h4 h5, Does.to (T34 (toDag x0) (toDag x0) h8 h6 h9) (by rw [h10]), trivial⟩
noncomputable def sem8 (x0 : S48) (x1 : ByteArray) : Option (Bool) :=
    cond (decide ((x1.size : Int) > (1048576 : Int)))
      (some (true))
      (if x0.f5.length ≤ 9223372036854775807 then if ∀ y ∈ x0.f5, y.f4.length ≤ 9223372036854775807 then cond (decide ((szDag x0 (1048576 : Int)) < (0 : Int)))
        (some (true))
        (if x0.f5.length ≤ 1048576 then if ∀ y ∈ x0.f5, y.f4.length ≤ 1048576 then if (toDag x0).f5.length ≤ 1048576 then cond ((taskAt (toDag x0) x1) != (taskAt (toDag x0) x1))
          (some (false))
          (if (toDag x0) = (toDag x0) then if ∀ y ∈ (toDag x0).f5, y.f4.length ≤ 1048576 then cond (yes (toDag x0) (toDag x0))
            (some (true))
            (some (false)) else none else none) else none else none else none) else none else none)
theorem D8 (q0 : Kd) (x0 : S48) (x1 : ByteArray) : Ans (sem8 x0 x1) (fun r => Does E 8 [.agg (S48.t .far q0 x0), .one (tS x1)] [(false, [tB r])]) := by
  unfold sem8
  refine Ans.ite (fun h0 => ?_) (fun h0 => ?_)
  · exact Ans.some (L8_0 q0 x0 x1 h0)
  · refine Ans.pre (fun h1 => ?_)
    refine Ans.pre (fun h2 => ?_)
    refine Ans.ite (fun h3 => ?_) (fun h3 => ?_)
    · exact Ans.some (L8_1 q0 x0 x1 h0 h1 h2 h3)
    · refine Ans.pre (fun h4 => ?_)
      refine Ans.pre (fun h5 => ?_)
      refine Ans.pre (fun h6 => ?_)
      refine Ans.ite (fun h7 => ?_) (fun h7 => ?_)
      · exact Ans.some (L8_2 q0 x0 x1 h0 h1 h2 h3 h4 h5 h6 h7)
      · refine Ans.pre (fun h8 => ?_)
        refine Ans.pre (fun h9 => ?_)
        refine Ans.ite (fun h10 => ?_) (fun h10 => ?_)
        · exact Ans.some (L8_3 q0 x0 x1 h0 h1 h2 h3 h4 h5 h6 h7 h8 h9 h10)
        · exact Ans.some (L8_4 q0 x0 x1 h0 h1 h2 h3 h4 h5 h6 h7 h8 h9 h10)
theorem law8 {q : Kd} (x : S48) (s : ByteArray) (h0 : x.f0.size ≤ 9223372036854775807) (h1 : x.f1.size ≤ 9223372036854775807) (hl : x.f5.length ≤ 9223372036854775807) (hs : ∀ s ∈ x.f5, Ok132 s) : Does E 8 [.agg (S48.t .far q x), .one (tS s)] [(false, [tB true])] := D8 q x s _ (by
  unfold sem8
  have ha : ∀ y ∈ x.f5, y.f4.length ≤ 9223372036854775807 := fun y hy => (hs y hy).2.2.1
  simp only [if_pos hl, if_pos ha]
  cases decide ((s.size : Int) > (1048576 : Int))
  · cases h : decide (szDag x (1048576 : Int) < (0 : Int))
    · obtain ⟨k1, k2⟩ := szDag_short x h0 h1 hl hs h
      simp only [if_pos k1, if_pos k2]
      simp [toDag, k1, yes]
      exact if_pos k2
    · rfl
  · rfl)
end Go.Proofs.Ytbphhigmepdohaa.Am
