/- What the functions that measure and copy under MessageOk do. Conditions: none. -/
import Derived.Test.YtbphhigmepdohaaEnv
namespace Go.Proofs.Ytbphhigmepdohaa.Am
set_option linter.unusedVariables false
set_option linter.unusedSimpArgs false
open Go Go.Proofs Classical
set_option maxRecDepth 100000
set_option linter.unusedVariables false
structure S152 where
  f0 : Int
  f1 : Int
  f2 : ByteArray
def S152.t (x : S152) : List (T Unit) := [tI x.f0, tI x.f1, tS x.f2]
structure S81 where
  f0 : Int
  f1 : Int
  f2 : Int
  f3 : Int
  f4 : Int
  f5 : Int
  f6 : Int
  f7 : Bool
  f8 : List S152
  f9 : List Int
  f10 : ByteArray
  f11 : Bool
def S81.t (k : Kd) (x : S81) : List (T Unit) := [tI x.f0, tI x.f1, tI x.f2, tI x.f3, tI x.f4, tI x.f5, tI x.f6, tB x.f7, .s k () 3 (x.f8.map S152.t), .s k () 1 (x.f9.map etI), tS x.f10, tB x.f11]
structure S86 where
  f0 : Int
  f1 : Int
  f2 : Int
  f3 : Int
  f4 : Int
  f5 : Int
  f6 : Int
  f7 : Bool
  f8 : List S152
  f9 : List Int
  f10 : ByteArray
  f11 : Bool
def S86.t (k : Kd) (x : S86) : List (T Unit) := [tI x.f0, tI x.f1, tI x.f2, tI x.f3, tI x.f4, tI x.f5, tI x.f6, tB x.f7, .s k () 3 (x.f8.map S152.t), .s k () 1 (x.f9.map etI), tS x.f10, tB x.f11]
def yes {α : Type} (a b : α) : Bool := true
def Tot {α : Type} (o : Option α) : Prop := ∃ b, o = some b
theorem Tot.some {α : Type} (b : α) : Tot (some b) := ⟨b, rfl⟩
theorem Tot.cond {α : Type} {c : Bool} {a b : Option α} (h : Tot a) (g : Tot b) : Tot (cond c a b) := by cases c; exact g; exact h
theorem Tot.getD {α : Type} {o : Option α} (h : Tot o) (d : α) : o = Option.some (o.getD d) := by obtain ⟨b, rfl⟩ := h; rfl
theorem wrap_id (n : Int) (h : -9223372036854775808 ≤ n) (h' : n ≤ 9223372036854775807) : IntKind.wrap .i64 n = n := by
  simp only [IntKind.wrap, IntKind.bits, IntKind.signed]
  simp
  omega
theorem getI_nat {α : Type} (l : List α) (i : Nat) : getI l (i : Int) = l[i]? := by unfold getI; rw [if_pos (by omega)]; simp
theorem wrap1 (i : Nat) (h : i < 9223372036854775807) : IntKind.wrap .i64 ((i : Int) + 1) = ((i + 1 : Nat) : Int) := by rw [wrap_id _ (by omega) (by omega)]; omega
theorem take_set {α : Type} {l v : List α} {i : Nat} (hi : i < l.length) (hv : v.length = l.length) (h : v.take i = l.take i) : (v.set i l[i]).take (i + 1) = l.take (i + 1) := by
  rw [List.take_add_one, List.take_add_one, List.getElem?_set_self (by omega), List.getElem?_eq_getElem hi]
  congr 1
  rw [List.take_set_of_le (Nat.le_refl i)]
  exact h
-- function 148: loop.example/g00188/laws.szEntry
theorem L148_0 (x0 : S152) (x1 : Int) (h0 : (decide ((IntKind.wrap .i64 (x1 - (x0.f2.size : Int))) < (0 : Int))) = true) : Does E 148 [.agg (S152.t x0), .one (tI x1)] [(false, [tI (-1 : Int)])] :=
  Does.path (fn := Try.f148) [.no, .b true] [fun _ => (decide ((IntKind.wrap .i64 (x1 - (x0.f2.size : Int))) < (0 : Int))) = true] rfl rfl (fun k => by kernel_rfl) ⟨Ev.c h0, trivial⟩
theorem L148_1 (x0 : S152) (x1 : Int) (h0 : (decide ((IntKind.wrap .i64 (x1 - (x0.f2.size : Int))) < (0 : Int))) = false) : Does E 148 [.agg (S152.t x0), .one (tI x1)] [(false, [tI (IntKind.wrap .i64 (x1 - (x0.f2.size : Int)))])] :=
  Does.path (fn := Try.f148) [.no, .b false] [fun _ => (decide ((IntKind.wrap .i64 (x1 - (x0.f2.size : Int))) < (0 : Int))) = false] rfl rfl (fun k => by kernel_rfl) ⟨Ev.c h0, trivial⟩
noncomputable def sem148 (x0 : S152) (x1 : Int) : Option (Int) :=
    cond (decide ((IntKind.wrap .i64 (x1 - (x0.f2.size : Int))) < (0 : Int)))
      (some ((-1 : Int)))
      (some (IntKind.wrap .i64 (x1 - (x0.f2.size : Int))))
theorem D148 (x0 : S152) (x1 : Int) : Ans (sem148 x0 x1) (fun r => Does E 148 [.agg (S152.t x0), .one (tI x1)] [(false, [tI r])]) := by
  unfold sem148
  refine Ans.ite (fun h0 => ?_) (fun h0 => ?_)
  · exact Ans.some (L148_0 x0 x1 h0)
  · exact Ans.some (L148_1 x0 x1 h0)
noncomputable def szEntry (x : S152) (n : Int) : Int := (sem148 x n).getD 0
theorem T148 (x : S152) (n : Int) : Does E 148 [.agg (S152.t x), .one (tI n)] [(false, [tI (szEntry x n)])] := D148 x n _ (by
  refine Tot.getD ?_ _
  unfold sem148
  repeat' (first | exact Tot.some _ | apply Tot.cond))
theorem sub_id (n : Int) (k : Nat) (h0 : 0 ≤ n) (h1 : n ≤ 1048576) (hk : k ≤ 9223372036854775807) : IntKind.wrap .i64 (n - (k : Int)) = n - (k : Int) := wrap_id _ (by omega) (by omega)
theorem szEntry_le (x : S152) (n : Int) (h0 : 0 ≤ n) (h1 : n ≤ 1048576) (hx : x.f2.size ≤ 9223372036854775807) (h : 0 ≤ szEntry x n) : szEntry x n ≤ n ∧ x.f2.size ≤ 1048576 := by
  unfold szEntry sem148 at h ⊢
  rw [sub_id n _ h0 h1 hx] at h ⊢
  by_cases h5 : n - (x.f2.size : Int) < 0
  · rw [decide_eq_true h5] at h; simp at h
  · rw [decide_eq_false h5] at h ⊢
    simp only [cond_false, Option.getD_some] at h ⊢
    omega
-- function 111: loop.example/g00188/laws.szEntryS
inductive X111_0 where
  | ret (v4 : Int)
  | x0 (v1 : Int)
noncomputable def loop111_0 : Nat → (List S152) → Int → Int → Option X111_0
  | 0, _, _, _ => none
  | n + 1, v0, v1, v5 => cond (decide (v5 < (v0.length : Int)))
    ((getI v0 v5).bind fun g0 => cond (decide ((szEntry g0 v1) < (0 : Int)))
      (some (.ret (-1 : Int)))
      (loop111_0 n v0 (szEntry g0 v1) (IntKind.wrap .i64 (v5 + (1 : Int)))))
    (some (.x0 v1))
def Q111_0 (v0 : List S152) (v1 : Int) (v5 : Int) : X111_0 → Prop
  | .ret zv4 => Loops E 111 (lpAt Try.f111 0) (stL 27 [(0, .one (.s .far () 3 (v0.map S152.t))), (1, .one (tI v1)), (5, .one (tI v5))]) .ret (stL 27 [(4, .one (tI zv4))])
  | .x0 zv1 => Loops E 111 (lpAt Try.f111 0) (stL 27 [(0, .one (.s .far () 3 (v0.map S152.t))), (1, .one (tI v1)), (5, .one (tI v5))]) (.exit 0) (stL 27 [(1, .one (tI zv1))])
theorem R111_0_0 (v0 : List S152) (v1 : Int) (v5 : Int) (g0 : S152) (h0 : (decide (v5 < (v0.length : Int))) = true) (h1 : getI v0 v5 = some g0) (h2 : (decide ((szEntry g0 v1) < (0 : Int))) = true) : Round E 111 (lpAt Try.f111 0) (stL 27 [(0, .one (.s .far () 3 (v0.map S152.t))), (1, .one (tI v1)), (5, .one (tI v5))]) .ret (stL 27 [(4, .one (tI (-1 : Int)))]) :=
  Round.path [.val (.int .i64 (v0.length : Int)), .b true, .row (S152.t g0), .ret [(false, [tI (szEntry g0 v1)])], .b true] [fun _ => ((v0.map S152.t).length : Int) = (v0.length : Int), fun _ => (decide (v5 < (v0.length : Int))) = true, fun _ => 0 ≤ v5 ∧ (v0.map S152.t)[v5.toNat]? = some (S152.t g0), fun k => E.C k 148 [.agg (S152.t g0), .one (tI v1)] = some [(false, [tI (szEntry g0 v1)])], fun _ => (decide ((szEntry g0 v1) < (0 : Int))) = true] (fun k => by kernel_rfl) ⟨Ev.c lenMap, Ev.c h0, Ev.c (getRow h1), T148 g0 v1, Ev.c h2, trivial⟩
theorem R111_0_1 (v0 : List S152) (v1 : Int) (v5 : Int) (g0 : S152) (h0 : (decide (v5 < (v0.length : Int))) = true) (h1 : getI v0 v5 = some g0) (h2 : (decide ((szEntry g0 v1) < (0 : Int))) = false) : Round E 111 (lpAt Try.f111 0) (stL 27 [(0, .one (.s .far () 3 (v0.map S152.t))), (1, .one (tI v1)), (5, .one (tI v5))]) .normal (stL 27 [(0, .one (.s .far () 3 (v0.map S152.t))), (1, .one (tI (szEntry g0 v1))), (5, .one (tI (IntKind.wrap .i64 (v5 + (1 : Int)))))]) :=
  Round.path [.val (.int .i64 (v0.length : Int)), .b true, .row (S152.t g0), .ret [(false, [tI (szEntry g0 v1)])], .b false] [fun _ => ((v0.map S152.t).length : Int) = (v0.length : Int), fun _ => (decide (v5 < (v0.length : Int))) = true, fun _ => 0 ≤ v5 ∧ (v0.map S152.t)[v5.toNat]? = some (S152.t g0), fun k => E.C k 148 [.agg (S152.t g0), .one (tI v1)] = some [(false, [tI (szEntry g0 v1)])], fun _ => (decide ((szEntry g0 v1) < (0 : Int))) = false] (fun k => by kernel_rfl) ⟨Ev.c lenMap, Ev.c h0, Ev.c (getRow h1), T148 g0 v1, Ev.c h2, trivial⟩
theorem R111_0_2 (v0 : List S152) (v1 : Int) (v5 : Int) (h0 : (decide (v5 < (v0.length : Int))) = false) : Round E 111 (lpAt Try.f111 0) (stL 27 [(0, .one (.s .far () 3 (v0.map S152.t))), (1, .one (tI v1)), (5, .one (tI v5))]) (.exit 0) (stL 27 [(1, .one (tI v1))]) :=
  Round.path [.val (.int .i64 (v0.length : Int)), .b false] [fun _ => ((v0.map S152.t).length : Int) = (v0.length : Int), fun _ => (decide (v5 < (v0.length : Int))) = false] (fun k => by kernel_rfl) ⟨Ev.c lenMap, Ev.c h0, trivial⟩
theorem L111_0 (n : Nat) : ∀ (v0 : List S152) (v1 : Int) (v5 : Int), Ans (loop111_0 n v0 v1 v5) (Q111_0 v0 v1 v5) := by
  induction n with
  | zero => intros; exact Ans.none
  | succ n ih =>
    intro v0 v1 v5
    unfold loop111_0
    refine Ans.ite (fun h0 => ?_) (fun h0 => ?_)
    · refine Ans.bind (fun g0 h1 => ?_)
      refine Ans.ite (fun h2 => ?_) (fun h2 => ?_)
      · exact Ans.some (Loops.stop (R111_0_0 v0 v1 v5 g0 h0 h1 h2) (by intro h; cases h))
      · exact (ih v0 (szEntry g0 v1) (IntKind.wrap .i64 (v5 + (1 : Int)))).mono fun y hy => by cases y <;> exact Loops.next (R111_0_1 v0 v1 v5 g0 h0 h1 h2) hy
    · exact Ans.some (Loops.stop (R111_0_2 v0 v1 v5 h0) (by intro h; cases h))
theorem P111_0 (x0 : List S152) (x1 : Int) (h0 : (decide ((IntKind.wrap .i64 (x1 - (x0.length : Int))) < (0 : Int))) = true) : Does E 111 [.one (.s .far () 3 (x0.map S152.t)), .one (tI x1)] [(false, [tI (-1 : Int)])] :=
  Does.path (fn := Try.f111) [.val (.int .i64 (x0.length : Int)), .no, .b true] [fun _ => ((x0.map S152.t).length : Int) = (x0.length : Int), fun _ => (decide ((IntKind.wrap .i64 (x1 - (x0.length : Int))) < (0 : Int))) = true] rfl rfl (fun k => by kernel_rfl) ⟨Ev.c lenMap, Ev.c h0, trivial⟩
theorem P111_1 (x0 : List S152) (x1 : Int) (w0_4 : Int) (h0 : (decide ((IntKind.wrap .i64 (x1 - (x0.length : Int))) < (0 : Int))) = false) (h1 : Loops E 111 (lpAt Try.f111 0) (stL 27 [(0, .one (.s .far () 3 (x0.map S152.t))), (1, .one (tI (IntKind.wrap .i64 (x1 - (x0.length : Int))))), (5, .one (tI (0 : Int)))]) .ret (stL 27 [(4, .one (tI w0_4))])) : Does E 111 [.one (.s .far () 3 (x0.map S152.t)), .one (tI x1)] [(false, [tI w0_4])] :=
  Does.path (fn := Try.f111) [.val (.int .i64 (x0.length : Int)), .no, .b false, .lp .ret (stL 27 [(4, .one (tI w0_4))])] [fun _ => ((x0.map S152.t).length : Int) = (x0.length : Int), fun _ => (decide ((IntKind.wrap .i64 (x1 - (x0.length : Int))) < (0 : Int))) = false, fun k => LoopK E 111 (lpAt Try.f111 0) (stL 27 [(0, .one (.s .far () 3 (x0.map S152.t))), (1, .one (tI (IntKind.wrap .i64 (x1 - (x0.length : Int))))), (5, .one (tI (0 : Int)))]) .ret (stL 27 [(4, .one (tI w0_4))]) k k] rfl rfl (fun k => by kernel_rfl) ⟨Ev.c lenMap, Ev.c h0, Loops.ev h1, trivial⟩
theorem P111_2 (x0 : List S152) (x1 : Int) (w0_1 : Int) (h0 : (decide ((IntKind.wrap .i64 (x1 - (x0.length : Int))) < (0 : Int))) = false) (h1 : Loops E 111 (lpAt Try.f111 0) (stL 27 [(0, .one (.s .far () 3 (x0.map S152.t))), (1, .one (tI (IntKind.wrap .i64 (x1 - (x0.length : Int))))), (5, .one (tI (0 : Int)))]) (.exit 0) (stL 27 [(1, .one (tI w0_1))])) : Does E 111 [.one (.s .far () 3 (x0.map S152.t)), .one (tI x1)] [(false, [tI w0_1])] :=
  Does.path (fn := Try.f111) [.val (.int .i64 (x0.length : Int)), .no, .b false, .lp (.exit 0) (stL 27 [(1, .one (tI w0_1))])] [fun _ => ((x0.map S152.t).length : Int) = (x0.length : Int), fun _ => (decide ((IntKind.wrap .i64 (x1 - (x0.length : Int))) < (0 : Int))) = false, fun k => LoopK E 111 (lpAt Try.f111 0) (stL 27 [(0, .one (.s .far () 3 (x0.map S152.t))), (1, .one (tI (IntKind.wrap .i64 (x1 - (x0.length : Int))))), (5, .one (tI (0 : Int)))]) (.exit 0) (stL 27 [(1, .one (tI w0_1))]) k k] rfl rfl (fun k => by kernel_rfl) ⟨Ev.c lenMap, Ev.c h0, Loops.ev h1, trivial⟩
noncomputable def sem111 (n : Nat) (x0 : List S152) (x1 : Int) : Option (Int) :=
    cond (decide ((IntKind.wrap .i64 (x1 - (x0.length : Int))) < (0 : Int)))
      (some ((-1 : Int)))
      ((loop111_0 n x0 (IntKind.wrap .i64 (x1 - (x0.length : Int))) (0 : Int)).bind fun y => match y with
        | .ret w0_4 => (some (w0_4))
        | .x0 w0_1 => (some (w0_1)))
theorem D111 (n : Nat) (x0 : List S152) (x1 : Int) : Ans (sem111 n x0 x1) (fun r => Does E 111 [.one (.s .far () 3 (x0.map S152.t)), .one (tI x1)] [(false, [tI r])]) := by
  unfold sem111
  refine Ans.ite (fun h0 => ?_) (fun h0 => ?_)
  · exact Ans.some (P111_0 x0 x1 h0)
  · refine Ans.bind (fun y hy => ?_)
    replace hy := L111_0 n x0 (IntKind.wrap .i64 (x1 - (x0.length : Int))) (0 : Int) y hy
    cases y with
    | ret w0_4 =>
      have h1 := hy
      exact Ans.some (P111_1 x0 x1 w0_4 h0 h1)
    | x0 w0_1 =>
      have h1 := hy
      exact Ans.some (P111_2 x0 x1 w0_1 h0 h1)
noncomputable def goN : List S152 → Int → Option Int
  | [], n => some n
  | s :: l, n => cond (decide (szEntry s n < 0)) none (goN l (szEntry s n))
noncomputable def szEntries (l : List S152) (n : Int) : Int := cond (decide (IntKind.wrap .i64 (n - (l.length : Int)) < 0)) (-1) ((goN l (IntKind.wrap .i64 (n - (l.length : Int)))).getD (-1))
def endN : Option Int → X111_0
  | some r => .x0 r
  | none => .ret (-1)
theorem loop111_ok (l : List S152) (hl : l.length ≤ 9223372036854775807) : ∀ (d i k : Nat) (m : Int), i + d = l.length → d < k → loop111_0 k l m i = some (endN (goN (l.drop i) m))
  | 0, i, n, m, hi, hn => by
    obtain ⟨n, rfl⟩ : ∃ m, n = m + 1 := ⟨n - 1, by omega⟩
    simp only [loop111_0]
    rw [show decide ((i : Int) < (l.length : Int)) = false from decide_eq_false (by omega), List.drop_of_length_le (by omega)]
    rfl
  | k + 1, i, n, m, hi, hn => by
    obtain ⟨n, rfl⟩ : ∃ m, n = m + 1 := ⟨n - 1, by omega⟩
    have hil : i < l.length := by omega
    simp only [loop111_0]
    rw [show decide ((i : Int) < (l.length : Int)) = true from decide_eq_true (by omega), getI_nat, List.getElem?_eq_getElem hil, wrap1 i (by omega)]
    simp only [cond_true, Option.bind_some]
    rw [loop111_ok l hl k (i + 1) n _ (by omega) (by omega), List.drop_eq_getElem_cons hil, goN]
    cases decide (szEntry l[i] m < 0) <;> rfl
theorem T111 (l : List S152) (n : Int) (hl : l.length ≤ 9223372036854775807) : Does E 111 [.one (.s .far () 3 (l.map S152.t)), .one (tI n)] [(false, [tI (szEntries l n)])] := D111 (l.length + 1) l n _ (by
  unfold sem111 szEntries
  rw [show (0 : Int) = ((0 : Nat) : Int) from rfl, loop111_ok l hl l.length 0 _ _ (by omega) (by omega), List.drop_zero]
  cases decide (IntKind.wrap .i64 (n - (l.length : Int)) < ((0 : Nat) : Int))
  · cases goN l (IntKind.wrap .i64 (n - (l.length : Int))) <;> rfl
  · rfl)
theorem goN_le : ∀ (l : List S152) (n r : Int), 0 ≤ n → n ≤ 1048576 → (∀ s ∈ l, s.f2.size ≤ 9223372036854775807) → goN l n = some r → 0 ≤ r ∧ r ≤ n ∧ ∀ s ∈ l, s.f2.size ≤ 1048576
  | [], n, r, h0, h1, hs, h => by cases h; exact ⟨h0, Int.le_refl _, fun s hs => by cases hs⟩
  | s :: l, n, r, h0, h1, hs, h => by
    simp only [goN] at h
    by_cases h5 : szEntry s n < 0
    · rw [decide_eq_true h5] at h; cases h
    · rw [decide_eq_false h5] at h
      obtain ⟨k1, k2⟩ := szEntry_le s n h0 h1 (hs s (by simp)) (by omega)
      obtain ⟨g1, g2, g3⟩ := goN_le l _ r (by omega) (by omega) (fun s hs' => hs s (by simp [hs'])) h
      refine ⟨g1, by omega, fun y hy => ?_⟩
      rcases List.mem_cons.1 hy with rfl | hy
      · exact k2
      · exact g3 y hy
theorem szEntries_le (l : List S152) (n : Int) (h0 : 0 ≤ n) (h1 : n ≤ 1048576) (hl : l.length ≤ 9223372036854775807) (hs : ∀ s ∈ l, s.f2.size ≤ 9223372036854775807) (h : 0 ≤ szEntries l n) : szEntries l n ≤ n ∧ l.length ≤ 1048576 ∧ ∀ s ∈ l, s.f2.size ≤ 1048576 := by
  unfold szEntries at h ⊢
  rw [sub_id n l.length h0 h1 hl] at h ⊢
  by_cases h5 : n - (l.length : Int) < 0
  · rw [decide_eq_true h5] at h; simp at h
  · rw [decide_eq_false h5] at h ⊢
    simp only [cond_false] at h ⊢
    cases hg : goN l (n - (l.length : Int)) with
    | none => rw [hg] at h; simp at h
    | some r =>
      obtain ⟨g1, g2, g3⟩ := goN_le l _ r (by omega) (by omega) hs hg
      simp only [Option.getD_some]
      exact ⟨by omega, by omega, g3⟩
-- function 112: loop.example/g00188/laws.szIntS
theorem L112_0 (x0 : List Int) (x1 : Int) (h0 : (decide ((IntKind.wrap .i64 (x1 - (x0.length : Int))) < (0 : Int))) = true) : Does E 112 [.one (.s .far () 1 (x0.map etI)), .one (tI x1)] [(false, [tI (-1 : Int)])] :=
  Does.path (fn := Try.f112) [.val (.int .i64 (x0.length : Int)), .no, .b true] [fun _ => ((x0.map etI).length : Int) = (x0.length : Int), fun _ => (decide ((IntKind.wrap .i64 (x1 - (x0.length : Int))) < (0 : Int))) = true] rfl rfl (fun k => by kernel_rfl) ⟨Ev.c lenMap, Ev.c h0, trivial⟩
theorem L112_1 (x0 : List Int) (x1 : Int) (h0 : (decide ((IntKind.wrap .i64 (x1 - (x0.length : Int))) < (0 : Int))) = false) : Does E 112 [.one (.s .far () 1 (x0.map etI)), .one (tI x1)] [(false, [tI (IntKind.wrap .i64 (x1 - (x0.length : Int)))])] :=
  Does.path (fn := Try.f112) [.val (.int .i64 (x0.length : Int)), .no, .b false] [fun _ => ((x0.map etI).length : Int) = (x0.length : Int), fun _ => (decide ((IntKind.wrap .i64 (x1 - (x0.length : Int))) < (0 : Int))) = false] rfl rfl (fun k => by kernel_rfl) ⟨Ev.c lenMap, Ev.c h0, trivial⟩
noncomputable def sem112 (x0 : List Int) (x1 : Int) : Option (Int) :=
    cond (decide ((IntKind.wrap .i64 (x1 - (x0.length : Int))) < (0 : Int)))
      (some ((-1 : Int)))
      (some (IntKind.wrap .i64 (x1 - (x0.length : Int))))
theorem D112 (x0 : List Int) (x1 : Int) : Ans (sem112 x0 x1) (fun r => Does E 112 [.one (.s .far () 1 (x0.map etI)), .one (tI x1)] [(false, [tI r])]) := by
  unfold sem112
  refine Ans.ite (fun h0 => ?_) (fun h0 => ?_)
  · exact Ans.some (L112_0 x0 x1 h0)
  · exact Ans.some (L112_1 x0 x1 h0)
noncomputable def szInts (l : List Int) (n : Int) : Int := (sem112 l n).getD 0
theorem T112 (l : List Int) (n : Int) : Does E 112 [.one (.s .far () 1 (l.map etI)), .one (tI n)] [(false, [tI (szInts l n)])] := D112 l n _ (by
  refine Tot.getD ?_ _
  unfold sem112
  repeat' (first | exact Tot.some _ | apply Tot.cond))
theorem szInts_le (l : List Int) (n : Int) (h0 : 0 ≤ n) (h1 : n ≤ 1048576) (hx : l.length ≤ 9223372036854775807) (h : 0 ≤ szInts l n) : szInts l n ≤ n ∧ l.length ≤ 1048576 := by
  unfold szInts sem112 at h ⊢
  rw [sub_id n _ h0 h1 hx] at h ⊢
  by_cases h5 : n - (l.length : Int) < 0
  · rw [decide_eq_true h5] at h; simp at h
  · rw [decide_eq_false h5] at h ⊢
    simp only [cond_false, Option.getD_some] at h ⊢
    omega
-- function 51: loop.example/g00188/laws.szMessage
theorem L51_0 (x0 : S81) (x1 : Int) (h0 : x0.f8.length ≤ 9223372036854775807) (h1 : (decide ((szEntries x0.f8 x1) < (0 : Int))) = true) : Does E 51 [.agg (S81.t .far x0), .one (tI x1)] [(false, [tI (-1 : Int)])] :=
  Does.path (fn := Try.f51) [.ret [(false, [tI (szEntries x0.f8 x1)])], .b true] [fun k => E.C k 111 [.one (.s .far () 3 (x0.f8.map S152.t)), .one (tI x1)] = some [(false, [tI (szEntries x0.f8 x1)])], fun _ => (decide ((szEntries x0.f8 x1) < (0 : Int))) = true] rfl rfl (fun k => by kernel_rfl) ⟨T111 x0.f8 x1 h0, Ev.c h1, trivial⟩
theorem L51_1 (x0 : S81) (x1 : Int) (h0 : x0.f8.length ≤ 9223372036854775807) (h1 : (decide ((szEntries x0.f8 x1) < (0 : Int))) = false) (h2 : (decide ((szInts x0.f9 (szEntries x0.f8 x1)) < (0 : Int))) = true) : Does E 51 [.agg (S81.t .far x0), .one (tI x1)] [(false, [tI (-1 : Int)])] :=
  Does.path (fn := Try.f51) [.ret [(false, [tI (szEntries x0.f8 x1)])], .b false, .ret [(false, [tI (szInts x0.f9 (szEntries x0.f8 x1))])], .b true] [fun k => E.C k 111 [.one (.s .far () 3 (x0.f8.map S152.t)), .one (tI x1)] = some [(false, [tI (szEntries x0.f8 x1)])], fun _ => (decide ((szEntries x0.f8 x1) < (0 : Int))) = false, fun k => E.C k 112 [.one (.s .far () 1 (x0.f9.map etI)), .one (tI (szEntries x0.f8 x1))] = some [(false, [tI (szInts x0.f9 (szEntries x0.f8 x1))])], fun _ => (decide ((szInts x0.f9 (szEntries x0.f8 x1)) < (0 : Int))) = true] rfl rfl (fun k => by kernel_rfl) ⟨T111 x0.f8 x1 h0, Ev.c h1, T112 x0.f9 (szEntries x0.f8 x1), Ev.c h2, trivial⟩
theorem L51_2 (x0 : S81) (x1 : Int) (h0 : x0.f8.length ≤ 9223372036854775807) (h1 : (decide ((szEntries x0.f8 x1) < (0 : Int))) = false) (h2 : (decide ((szInts x0.f9 (szEntries x0.f8 x1)) < (0 : Int))) = false) (h3 : (decide ((IntKind.wrap .i64 ((szInts x0.f9 (szEntries x0.f8 x1)) - (x0.f10.size : Int))) < (0 : Int))) = true) : Does E 51 [.agg (S81.t .far x0), .one (tI x1)] [(false, [tI (-1 : Int)])] :=
  Does.path (fn := Try.f51) [.ret [(false, [tI (szEntries x0.f8 x1)])], .b false, .ret [(false, [tI (szInts x0.f9 (szEntries x0.f8 x1))])], .b false, .no, .b true] [fun k => E.C k 111 [.one (.s .far () 3 (x0.f8.map S152.t)), .one (tI x1)] = some [(false, [tI (szEntries x0.f8 x1)])], fun _ => (decide ((szEntries x0.f8 x1) < (0 : Int))) = false, fun k => E.C k 112 [.one (.s .far () 1 (x0.f9.map etI)), .one (tI (szEntries x0.f8 x1))] = some [(false, [tI (szInts x0.f9 (szEntries x0.f8 x1))])], fun _ => (decide ((szInts x0.f9 (szEntries x0.f8 x1)) < (0 : Int))) = false, fun _ => (decide ((IntKind.wrap .i64 ((szInts x0.f9 (szEntries x0.f8 x1)) - (x0.f10.size : Int))) < (0 : Int))) = true] rfl rfl (fun k => by kernel_rfl) ⟨T111 x0.f8 x1 h0, Ev.c h1, T112 x0.f9 (szEntries x0.f8 x1), Ev.c h2, Ev.c h3, trivial⟩
theorem L51_3 (x0 : S81) (x1 : Int) (h0 : x0.f8.length ≤ 9223372036854775807) (h1 : (decide ((szEntries x0.f8 x1) < (0 : Int))) = false) (h2 : (decide ((szInts x0.f9 (szEntries x0.f8 x1)) < (0 : Int))) = false) (h3 : (decide ((IntKind.wrap .i64 ((szInts x0.f9 (szEntries x0.f8 x1)) - (x0.f10.size : Int))) < (0 : Int))) = false) : Does E 51 [.agg (S81.t .far x0), .one (tI x1)] [(false, [tI (IntKind.wrap .i64 ((szInts x0.f9 (szEntries x0.f8 x1)) - (x0.f10.size : Int)))])] :=
  Does.path (fn := Try.f51) [.ret [(false, [tI (szEntries x0.f8 x1)])], .b false, .ret [(false, [tI (szInts x0.f9 (szEntries x0.f8 x1))])], .b false, .no, .b false] [fun k => E.C k 111 [.one (.s .far () 3 (x0.f8.map S152.t)), .one (tI x1)] = some [(false, [tI (szEntries x0.f8 x1)])], fun _ => (decide ((szEntries x0.f8 x1) < (0 : Int))) = false, fun k => E.C k 112 [.one (.s .far () 1 (x0.f9.map etI)), .one (tI (szEntries x0.f8 x1))] = some [(false, [tI (szInts x0.f9 (szEntries x0.f8 x1))])], fun _ => (decide ((szInts x0.f9 (szEntries x0.f8 x1)) < (0 : Int))) = false, fun _ => (decide ((IntKind.wrap .i64 ((szInts x0.f9 (szEntries x0.f8 x1)) - (x0.f10.size : Int))) < (0 : Int))) = false] rfl rfl (fun k => by kernel_rfl) ⟨T111 x0.f8 x1 h0, Ev.c h1, T112 x0.f9 (szEntries x0.f8 x1), Ev.c h2, Ev.c h3, trivial⟩
noncomputable def sem51 (x0 : S81) (x1 : Int) : Option (Int) :=
    if x0.f8.length ≤ 9223372036854775807 then cond (decide ((szEntries x0.f8 x1) < (0 : Int)))
      (some ((-1 : Int)))
      (cond (decide ((szInts x0.f9 (szEntries x0.f8 x1)) < (0 : Int)))
        (some ((-1 : Int)))
        (cond (decide ((IntKind.wrap .i64 ((szInts x0.f9 (szEntries x0.f8 x1)) - (x0.f10.size : Int))) < (0 : Int)))
          (some ((-1 : Int)))
          (some (IntKind.wrap .i64 ((szInts x0.f9 (szEntries x0.f8 x1)) - (x0.f10.size : Int)))))) else none
theorem D51 (x0 : S81) (x1 : Int) : Ans (sem51 x0 x1) (fun r => Does E 51 [.agg (S81.t .far x0), .one (tI x1)] [(false, [tI r])]) := by
  unfold sem51
  refine Ans.pre (fun h0 => ?_)
  refine Ans.ite (fun h1 => ?_) (fun h1 => ?_)
  · exact Ans.some (L51_0 x0 x1 h0 h1)
  · refine Ans.ite (fun h2 => ?_) (fun h2 => ?_)
    · exact Ans.some (L51_1 x0 x1 h0 h1 h2)
    · refine Ans.ite (fun h3 => ?_) (fun h3 => ?_)
      · exact Ans.some (L51_2 x0 x1 h0 h1 h2 h3)
      · exact Ans.some (L51_3 x0 x1 h0 h1 h2 h3)
noncomputable def szMsg (x : S81) (n : Int) : Int := (sem51 x n).getD 0
theorem T51 (x : S81) (n : Int) (h : x.f8.length ≤ 9223372036854775807) : Does E 51 [.agg (S81.t .far x), .one (tI n)] [(false, [tI (szMsg x n)])] := D51 x n _ (by
  refine Tot.getD ?_ _
  unfold sem51
  simp only [if_pos h]
  repeat' (first | exact Tot.some _ | apply Tot.cond))
theorem szMsg_short (x : S81) (hl : x.f8.length ≤ 9223372036854775807) (hs : ∀ s ∈ x.f8, s.f2.size ≤ 9223372036854775807) (h9 : x.f9.length ≤ 9223372036854775807) (h10 : x.f10.size ≤ 9223372036854775807) (h : decide (szMsg x (1048576 : Int) < (0 : Int)) = false) :
    x.f8.length ≤ 1048576 ∧ (∀ s ∈ x.f8, s.f2.size ≤ 1048576) ∧ x.f9.length ≤ 1048576 ∧ x.f10.size ≤ 1048576 := by
  unfold szMsg sem51 at h
  simp only [if_pos hl] at h
  by_cases h5 : szEntries x.f8 1048576 < 0
  · rw [decide_eq_true h5] at h; simp at h
  · rw [decide_eq_false h5] at h
    obtain ⟨k1, k2, k3⟩ := szEntries_le x.f8 1048576 (by omega) (by omega) hl hs (by omega)
    simp only [cond_false] at h
    by_cases h6 : szInts x.f9 (szEntries x.f8 1048576) < 0
    · rw [decide_eq_true h6] at h; simp at h
    · rw [decide_eq_false h6] at h
      obtain ⟨g1, g2⟩ := szInts_le x.f9 (szEntries x.f8 1048576) (by omega) (by omega) h9 (by omega)
      simp only [cond_false] at h
      rw [sub_id _ _ (by omega) (by omega) h10] at h
      by_cases h7 : szInts x.f9 (szEntries x.f8 1048576) - (x.f10.size : Int) < 0
      · rw [decide_eq_true h7] at h; simp at h
      · exact ⟨k2, k3, g2, by omega⟩
-- function 150: loop.example/g00188/laws.toEntry
theorem L150_0 (x0 : S152)  : Does E 150 [.agg (S152.t x0)] [(true, S152.t x0)] :=
  Does.path (fn := Try.f150) [] [] rfl rfl (fun k => by kernel_rfl) trivial
noncomputable def sem150 (x0 : S152) : Option (S152) :=
    some (x0)
theorem D150 (x0 : S152) : Ans (sem150 x0) (fun r => Does E 150 [.agg (S152.t x0)] [(true, S152.t r)]) := by
  unfold sem150
  exact Ans.some (L150_0 x0)
theorem T150 (x : S152) : Does E 150 [.agg (S152.t x)] [(true, S152.t (id x))] := D150 x _ rfl
-- function 115: loop.example/g00188/laws.toEntryS
inductive X115_0 where
  | x0 (v3 : List S152)
noncomputable def loop115_0 : Nat → (List S152) → (List S152) → Int → Option X115_0
  | 0, _, _, _ => none
  | n + 1, v0, v3, v4 => cond (decide (v4 < (v0.length : Int)))
    ((getI v0 v4).bind fun g0 => (getI v3 v4).bind fun g1 => loop115_0 n v0 (v3.set v4.toNat (id g0)) (IntKind.wrap .i64 (v4 + (1 : Int))))
    (some (.x0 v3))
def Q115_0 (v0 : List S152) (v3 : List S152) (v4 : Int) : X115_0 → Prop
  | .x0 zv3 => Loops E 115 (lpAt Try.f115 0) (stL 23 [(0, .one (.s .far () 3 (v0.map S152.t))), (3, .one (.s .own () 3 (v3.map S152.t))), (4, .one (tI v4))]) (.exit 0) (stL 23 [(3, .one (.s .own () 3 (zv3.map S152.t)))])
theorem R115_0_0 (v0 : List S152) (v3 : List S152) (v4 : Int) (g0 : S152) (g1 : S152) (h0 : (decide (v4 < (v0.length : Int))) = true) (h1 : getI v0 v4 = some g0) (h2 : getI v3 v4 = some g1) : Round E 115 (lpAt Try.f115 0) (stL 23 [(0, .one (.s .far () 3 (v0.map S152.t))), (3, .one (.s .own () 3 (v3.map S152.t))), (4, .one (tI v4))]) .normal (stL 23 [(0, .one (.s .far () 3 (v0.map S152.t))), (3, .one (.s .own () 3 ((v3.set v4.toNat (id g0)).map S152.t))), (4, .one (tI (IntKind.wrap .i64 (v4 + (1 : Int)))))]) :=
  Round.path [.val (.int .i64 (v0.length : Int)), .b true, .row (S152.t g0), .ret [(true, S152.t (id g0))], .row (S152.t g1), .rows ((v3.set v4.toNat (id g0)).map S152.t)] [fun _ => ((v0.map S152.t).length : Int) = (v0.length : Int), fun _ => (decide (v4 < (v0.length : Int))) = true, fun _ => 0 ≤ v4 ∧ (v0.map S152.t)[v4.toNat]? = some (S152.t g0), fun k => E.C k 150 [.agg (S152.t g0)] = some [(true, S152.t (id g0))], fun _ => 0 ≤ v4 ∧ v4 < ((v3.map S152.t).length : Int), fun _ => (v3.map S152.t)[0 + v4.toNat]? = some (S152.t g1), fun _ => (v3.map S152.t).set (0 + v4.toNat) (spliceAt (S152.t g1) 0 [tI ((id g0).f0), tI ((id g0).f1), tS ((id g0).f2)]) = (v3.set v4.toNat (id g0)).map S152.t] (fun k => by kernel_rfl) ⟨Ev.c lenMap, Ev.c h0, Ev.c (getRow h1), T150 g0, Ev.c (getLt h2), Ev.c (getRow0 h2), Ev.c (setMap (by rfl)), trivial⟩
theorem R115_0_1 (v0 : List S152) (v3 : List S152) (v4 : Int) (h0 : (decide (v4 < (v0.length : Int))) = false) : Round E 115 (lpAt Try.f115 0) (stL 23 [(0, .one (.s .far () 3 (v0.map S152.t))), (3, .one (.s .own () 3 (v3.map S152.t))), (4, .one (tI v4))]) (.exit 0) (stL 23 [(3, .one (.s .own () 3 (v3.map S152.t)))]) :=
  Round.path [.val (.int .i64 (v0.length : Int)), .b false] [fun _ => ((v0.map S152.t).length : Int) = (v0.length : Int), fun _ => (decide (v4 < (v0.length : Int))) = false] (fun k => by kernel_rfl) ⟨Ev.c lenMap, Ev.c h0, trivial⟩
theorem L115_0 (n : Nat) : ∀ (v0 : List S152) (v3 : List S152) (v4 : Int), Ans (loop115_0 n v0 v3 v4) (Q115_0 v0 v3 v4) := by
  induction n with
  | zero => intros; exact Ans.none
  | succ n ih =>
    intro v0 v3 v4
    unfold loop115_0
    refine Ans.ite (fun h0 => ?_) (fun h0 => ?_)
    · refine Ans.bind (fun g0 h1 => ?_)
      refine Ans.bind (fun g1 h2 => ?_)
      exact (ih v0 (v3.set v4.toNat (id g0)) (IntKind.wrap .i64 (v4 + (1 : Int)))).mono fun y hy => by cases y <;> exact Loops.next (R115_0_0 v0 v3 v4 g0 g1 h0 h1 h2) hy
    · exact Ans.some (Loops.stop (R115_0_1 v0 v3 v4 h0) (by intro h; cases h))
theorem P115_0 (x0 : List S152) (w0_3 : List S152) (h0 : 0 ≤ (x0.length : Int) ∧ (x0.length : Int) ≤ (x0.length : Int) ∧ ((32 : Nat) : Int) * (x0.length : Int) ≤ 281474976710656 ∧ (x0.length : Int) ≤ 4611686018427387904) (h1 : Loops E 115 (lpAt Try.f115 0) (stL 23 [(0, .one (.s .far () 3 (x0.map S152.t))), (3, .one (.s .own () 3 ((List.replicate (x0.length : Int).toNat (S152.mk (0 : Int) (0 : Int) ByteArray.empty)).map S152.t))), (4, .one (tI (0 : Int)))]) (.exit 0) (stL 23 [(3, .one (.s .own () 3 (w0_3.map S152.t)))])) : Does E 115 [.one (.s .far () 3 (x0.map S152.t))] [(false, [.s .own () 3 (w0_3.map S152.t)])] :=
  Does.path (fn := Try.f115) [.val (.int .i64 (x0.length : Int)), .rows ((List.replicate (x0.length : Int).toNat (S152.mk (0 : Int) (0 : Int) ByteArray.empty)).map S152.t), .lp (.exit 0) (stL 23 [(3, .one (.s .own () 3 (w0_3.map S152.t)))])] [fun _ => ((x0.map S152.t).length : Int) = (x0.length : Int), fun _ => 0 ≤ (x0.length : Int) ∧ (x0.length : Int) ≤ (x0.length : Int) ∧ ((32 : Nat) : Int) * (x0.length : Int) ≤ 281474976710656 ∧ (x0.length : Int) ≤ 4611686018427387904, fun _ => List.replicate (x0.length : Int).toNat [tI (0 : Int), tI (0 : Int), tS ByteArray.empty] = (List.replicate (x0.length : Int).toNat (S152.mk (0 : Int) (0 : Int) ByteArray.empty)).map S152.t, fun k => LoopK E 115 (lpAt Try.f115 0) (stL 23 [(0, .one (.s .far () 3 (x0.map S152.t))), (3, .one (.s .own () 3 ((List.replicate (x0.length : Int).toNat (S152.mk (0 : Int) (0 : Int) ByteArray.empty)).map S152.t))), (4, .one (tI (0 : Int)))]) (.exit 0) (stL 23 [(3, .one (.s .own () 3 (w0_3.map S152.t)))]) k k] rfl rfl (fun k => by kernel_rfl) ⟨Ev.c lenMap, Ev.c h0, Ev.c (repMap rfl), Loops.ev h1, trivial⟩
noncomputable def sem115 (n : Nat) (x0 : List S152) : Option ((List S152)) :=
    if 0 ≤ (x0.length : Int) ∧ (x0.length : Int) ≤ (x0.length : Int) ∧ ((32 : Nat) : Int) * (x0.length : Int) ≤ 281474976710656 ∧ (x0.length : Int) ≤ 4611686018427387904 then (loop115_0 n x0 (List.replicate (x0.length : Int).toNat (S152.mk (0 : Int) (0 : Int) ByteArray.empty)) (0 : Int)).bind fun y => match y with
      | .x0 w0_3 => (some (w0_3)) else none
theorem D115 (n : Nat) (x0 : List S152) : Ans (sem115 n x0) (fun r => Does E 115 [.one (.s .far () 3 (x0.map S152.t))] [(false, [.s .own () 3 (r.map S152.t)])]) := by
  unfold sem115
  refine Ans.pre (fun h0 => ?_)
  refine Ans.bind (fun y hy => ?_)
  replace hy := L115_0 n x0 (List.replicate (x0.length : Int).toNat (S152.mk (0 : Int) (0 : Int) ByteArray.empty)) (0 : Int) y hy
  cases y with
  | x0 w0_3 =>
    have h1 := hy
    exact Ans.some (P115_0 x0 w0_3 h0 h1)
theorem loop115_ok (l : List S152) (hl : l.length ≤ 1048576) : ∀ (d i n : Nat) (v : List S152), i + d = l.length → d < n → v.length = l.length → v.take i = l.take i → loop115_0 n l v i = some (.x0 l)
  | 0, i, n, v, hi, hn, hv, h => by
    obtain ⟨n, rfl⟩ : ∃ m, n = m + 1 := ⟨n - 1, by omega⟩
    simp only [loop115_0]
    rw [show decide ((i : Int) < (l.length : Int)) = false from decide_eq_false (by omega)]
    have : v = l := by
      have e1 : v.take i = v := List.take_of_length_le (by omega)
      have e2 : l.take i = l := List.take_of_length_le (by omega)
      rw [← e1, h, e2]
    rw [this]; rfl
  | d + 1, i, n, v, hi, hn, hv, h => by
    obtain ⟨n, rfl⟩ : ∃ m, n = m + 1 := ⟨n - 1, by omega⟩
    have hil : i < l.length := by omega
    simp only [loop115_0]
    rw [show decide ((i : Int) < (l.length : Int)) = true from decide_eq_true (by omega), getI_nat, getI_nat, List.getElem?_eq_getElem hil, List.getElem?_eq_getElem (by omega : i < v.length), wrap1 i (by omega)]
    simp only [cond_true, Option.bind_some, Int.toNat_natCast, id]
    exact loop115_ok l hl d (i + 1) n _ (by omega) (by omega) (by simp [hv]) (take_set hil hv h)
theorem T115 (l : List S152) (hl : l.length ≤ 1048576) : Does E 115 [.one (.s .far () 3 (l.map S152.t))] [(false, [.s .own () 3 ((id l).map S152.t)])] := D115 (l.length + 1) l _ (by
  unfold sem115
  rw [if_pos ⟨by omega, by omega, by omega, by omega⟩, show (0 : Int) = ((0 : Nat) : Int) from rfl, loop115_ok l hl l.length 0 _ _ (by omega) (by omega) (by simp) (by simp)]
  rfl)
-- function 116: loop.example/g00188/laws.toIntS
inductive X116_0 where
  | x0 (v3 : List Int)
noncomputable def loop116_0 : Nat → (List Int) → (List Int) → Int → Option X116_0
  | 0, _, _, _ => none
  | n + 1, v0, v3, v4 => cond (decide (v4 < (v0.length : Int)))
    ((getI v0 v4).bind fun g0 => (getI v3 v4).bind fun g1 => loop116_0 n v0 (v3.set v4.toNat g0) (IntKind.wrap .i64 (v4 + (1 : Int))))
    (some (.x0 v3))
def Q116_0 (v0 : List Int) (v3 : List Int) (v4 : Int) : X116_0 → Prop
  | .x0 zv3 => Loops E 116 (lpAt Try.f116 0) (stL 22 [(0, .one (.s .far () 1 (v0.map etI))), (3, .one (.s .own () 1 (v3.map etI))), (4, .one (tI v4))]) (.exit 0) (stL 22 [(3, .one (.s .own () 1 (zv3.map etI)))])
theorem R116_0_0 (v0 : List Int) (v3 : List Int) (v4 : Int) (g0 : Int) (g1 : Int) (h0 : (decide (v4 < (v0.length : Int))) = true) (h1 : getI v0 v4 = some g0) (h2 : getI v3 v4 = some g1) : Round E 116 (lpAt Try.f116 0) (stL 22 [(0, .one (.s .far () 1 (v0.map etI))), (3, .one (.s .own () 1 (v3.map etI))), (4, .one (tI v4))]) .normal (stL 22 [(0, .one (.s .far () 1 (v0.map etI))), (3, .one (.s .own () 1 ((v3.set v4.toNat g0).map etI))), (4, .one (tI (IntKind.wrap .i64 (v4 + (1 : Int)))))]) :=
  Round.path [.val (.int .i64 (v0.length : Int)), .b true, .row (etI g0), .row (etI g1), .rows ((v3.set v4.toNat g0).map etI)] [fun _ => ((v0.map etI).length : Int) = (v0.length : Int), fun _ => (decide (v4 < (v0.length : Int))) = true, fun _ => 0 ≤ v4 ∧ (v0.map etI)[v4.toNat]? = some (etI g0), fun _ => 0 ≤ v4 ∧ v4 < ((v3.map etI).length : Int), fun _ => (v3.map etI)[0 + v4.toNat]? = some (etI g1), fun _ => (v3.map etI).set (0 + v4.toNat) (spliceAt (etI g1) 0 [tI g0]) = (v3.set v4.toNat g0).map etI] (fun k => by kernel_rfl) ⟨Ev.c lenMap, Ev.c h0, Ev.c (getRow h1), Ev.c (getLt h2), Ev.c (getRow0 h2), Ev.c (setMap (by rfl)), trivial⟩
theorem R116_0_1 (v0 : List Int) (v3 : List Int) (v4 : Int) (h0 : (decide (v4 < (v0.length : Int))) = false) : Round E 116 (lpAt Try.f116 0) (stL 22 [(0, .one (.s .far () 1 (v0.map etI))), (3, .one (.s .own () 1 (v3.map etI))), (4, .one (tI v4))]) (.exit 0) (stL 22 [(3, .one (.s .own () 1 (v3.map etI)))]) :=
  Round.path [.val (.int .i64 (v0.length : Int)), .b false] [fun _ => ((v0.map etI).length : Int) = (v0.length : Int), fun _ => (decide (v4 < (v0.length : Int))) = false] (fun k => by kernel_rfl) ⟨Ev.c lenMap, Ev.c h0, trivial⟩
theorem L116_0 (n : Nat) : ∀ (v0 : List Int) (v3 : List Int) (v4 : Int), Ans (loop116_0 n v0 v3 v4) (Q116_0 v0 v3 v4) := by
  induction n with
  | zero => intros; exact Ans.none
  | succ n ih =>
    intro v0 v3 v4
    unfold loop116_0
    refine Ans.ite (fun h0 => ?_) (fun h0 => ?_)
    · refine Ans.bind (fun g0 h1 => ?_)
      refine Ans.bind (fun g1 h2 => ?_)
      exact (ih v0 (v3.set v4.toNat g0) (IntKind.wrap .i64 (v4 + (1 : Int)))).mono fun y hy => by cases y <;> exact Loops.next (R116_0_0 v0 v3 v4 g0 g1 h0 h1 h2) hy
    · exact Ans.some (Loops.stop (R116_0_1 v0 v3 v4 h0) (by intro h; cases h))
theorem P116_0 (x0 : List Int) (w0_3 : List Int) (h0 : 0 ≤ (x0.length : Int) ∧ (x0.length : Int) ≤ (x0.length : Int) ∧ ((8 : Nat) : Int) * (x0.length : Int) ≤ 281474976710656 ∧ (x0.length : Int) ≤ 4611686018427387904) (h1 : Loops E 116 (lpAt Try.f116 0) (stL 22 [(0, .one (.s .far () 1 (x0.map etI))), (3, .one (.s .own () 1 ((List.replicate (x0.length : Int).toNat (0 : Int)).map etI))), (4, .one (tI (0 : Int)))]) (.exit 0) (stL 22 [(3, .one (.s .own () 1 (w0_3.map etI)))])) : Does E 116 [.one (.s .far () 1 (x0.map etI))] [(false, [.s .own () 1 (w0_3.map etI)])] :=
  Does.path (fn := Try.f116) [.val (.int .i64 (x0.length : Int)), .rows ((List.replicate (x0.length : Int).toNat (0 : Int)).map etI), .lp (.exit 0) (stL 22 [(3, .one (.s .own () 1 (w0_3.map etI)))])] [fun _ => ((x0.map etI).length : Int) = (x0.length : Int), fun _ => 0 ≤ (x0.length : Int) ∧ (x0.length : Int) ≤ (x0.length : Int) ∧ ((8 : Nat) : Int) * (x0.length : Int) ≤ 281474976710656 ∧ (x0.length : Int) ≤ 4611686018427387904, fun _ => List.replicate (x0.length : Int).toNat [tI (0 : Int)] = (List.replicate (x0.length : Int).toNat (0 : Int)).map etI, fun k => LoopK E 116 (lpAt Try.f116 0) (stL 22 [(0, .one (.s .far () 1 (x0.map etI))), (3, .one (.s .own () 1 ((List.replicate (x0.length : Int).toNat (0 : Int)).map etI))), (4, .one (tI (0 : Int)))]) (.exit 0) (stL 22 [(3, .one (.s .own () 1 (w0_3.map etI)))]) k k] rfl rfl (fun k => by kernel_rfl) ⟨Ev.c lenMap, Ev.c h0, Ev.c (repMap rfl), Loops.ev h1, trivial⟩
noncomputable def sem116 (n : Nat) (x0 : List Int) : Option ((List Int)) :=
    if 0 ≤ (x0.length : Int) ∧ (x0.length : Int) ≤ (x0.length : Int) ∧ ((8 : Nat) : Int) * (x0.length : Int) ≤ 281474976710656 ∧ (x0.length : Int) ≤ 4611686018427387904 then (loop116_0 n x0 (List.replicate (x0.length : Int).toNat (0 : Int)) (0 : Int)).bind fun y => match y with
      | .x0 w0_3 => (some (w0_3)) else none
theorem D116 (n : Nat) (x0 : List Int) : Ans (sem116 n x0) (fun r => Does E 116 [.one (.s .far () 1 (x0.map etI))] [(false, [.s .own () 1 (r.map etI)])]) := by
  unfold sem116
  refine Ans.pre (fun h0 => ?_)
  refine Ans.bind (fun y hy => ?_)
  replace hy := L116_0 n x0 (List.replicate (x0.length : Int).toNat (0 : Int)) (0 : Int) y hy
  cases y with
  | x0 w0_3 =>
    have h1 := hy
    exact Ans.some (P116_0 x0 w0_3 h0 h1)
theorem loop116_ok (l : List Int) (hl : l.length ≤ 1048576) : ∀ (d i n : Nat) (v : List Int), i + d = l.length → d < n → v.length = l.length → v.take i = l.take i → loop116_0 n l v i = some (.x0 l)
  | 0, i, n, v, hi, hn, hv, h => by
    obtain ⟨n, rfl⟩ : ∃ m, n = m + 1 := ⟨n - 1, by omega⟩
    simp only [loop116_0]
    rw [show decide ((i : Int) < (l.length : Int)) = false from decide_eq_false (by omega)]
    have : v = l := by
      have e1 : v.take i = v := List.take_of_length_le (by omega)
      have e2 : l.take i = l := List.take_of_length_le (by omega)
      rw [← e1, h, e2]
    rw [this]; rfl
  | d + 1, i, n, v, hi, hn, hv, h => by
    obtain ⟨n, rfl⟩ : ∃ m, n = m + 1 := ⟨n - 1, by omega⟩
    have hil : i < l.length := by omega
    simp only [loop116_0]
    rw [show decide ((i : Int) < (l.length : Int)) = true from decide_eq_true (by omega), getI_nat, getI_nat, List.getElem?_eq_getElem hil, List.getElem?_eq_getElem (by omega : i < v.length), wrap1 i (by omega)]
    simp only [cond_true, Option.bind_some, Int.toNat_natCast, id]
    exact loop116_ok l hl d (i + 1) n _ (by omega) (by omega) (by simp [hv]) (take_set hil hv h)
theorem T116 (l : List Int) (hl : l.length ≤ 1048576) : Does E 116 [.one (.s .far () 1 (l.map etI))] [(false, [.s .own () 1 ((id l).map etI)])] := D116 (l.length + 1) l _ (by
  unfold sem116
  rw [if_pos ⟨by omega, by omega, by omega, by omega⟩, show (0 : Int) = ((0 : Nat) : Int) from rfl, loop116_ok l hl l.length 0 _ _ (by omega) (by omega) (by simp) (by simp)]
  rfl)
-- function 53: loop.example/g00188/laws.toMessage
theorem L53_0 (x0 : S81) (h0 : x0.f8.length ≤ 1048576) (h1 : x0.f9.length ≤ 1048576) : Does E 53 [.agg (S81.t .far x0)] [(true, S86.t .own (S86.mk x0.f0 x0.f1 x0.f2 x0.f3 x0.f4 x0.f5 x0.f6 x0.f7 (id x0.f8) (id x0.f9) x0.f10 x0.f11))] :=
  Does.path (fn := Try.f53) [.ret [(false, [.s .own () 3 ((id x0.f8).map S152.t)])], .ret [(false, [.s .own () 1 ((id x0.f9).map etI)])]] [fun k => E.C k 115 [.one (.s .far () 3 (x0.f8.map S152.t))] = some [(false, [.s .own () 3 ((id x0.f8).map S152.t)])], fun k => E.C k 116 [.one (.s .far () 1 (x0.f9.map etI))] = some [(false, [.s .own () 1 ((id x0.f9).map etI)])]] rfl rfl (fun k => by kernel_rfl) ⟨T115 x0.f8 h0, T116 x0.f9 h1, trivial⟩
noncomputable def sem53 (x0 : S81) : Option (S86) :=
    if x0.f8.length ≤ 1048576 then if x0.f9.length ≤ 1048576 then some ((S86.mk x0.f0 x0.f1 x0.f2 x0.f3 x0.f4 x0.f5 x0.f6 x0.f7 (id x0.f8) (id x0.f9) x0.f10 x0.f11)) else none else none
theorem D53 (x0 : S81) : Ans (sem53 x0) (fun r => Does E 53 [.agg (S81.t .far x0)] [(true, S86.t .own r)]) := by
  unfold sem53
  refine Ans.pre (fun h0 => ?_)
  refine Ans.pre (fun h1 => ?_)
  exact Ans.some (L53_0 x0 h0 h1)
def toMsg (x : S81) : S86 := ⟨x.f0, x.f1, x.f2, x.f3, x.f4, x.f5, x.f6, x.f7, x.f8, x.f9, x.f10, x.f11⟩
theorem T53 (x : S81) (h : x.f8.length ≤ 1048576) (h9 : x.f9.length ≤ 1048576) : Does E 53 [.agg (S81.t .far x)] [(true, S86.t .own (toMsg x))] := D53 x _ (by unfold sem53; rw [if_pos h, if_pos h9]; rfl)
-- function 153: loop.example/g00188/laws.eqEntry
theorem L153_0 (x0 : S152) (x1 : S152) (h0 : (x0.f0 != x1.f0) = true) : Does E 153 [.agg (S152.t x0), .agg (S152.t x1)] [(false, [tB false])] :=
  Does.path (fn := Try.f153) [.b true] [fun _ => (x0.f0 != x1.f0) = true] rfl rfl (fun k => by kernel_rfl) ⟨Ev.c h0, trivial⟩
theorem L153_1 (x0 : S152) (x1 : S152) (h0 : (x0.f0 != x1.f0) = false) (h1 : (x0.f1 != x1.f1) = true) : Does E 153 [.agg (S152.t x0), .agg (S152.t x1)] [(false, [tB false])] :=
  Does.path (fn := Try.f153) [.b false, .b true] [fun _ => (x0.f0 != x1.f0) = false, fun _ => (x0.f1 != x1.f1) = true] rfl rfl (fun k => by kernel_rfl) ⟨Ev.c h0, Ev.c h1, trivial⟩
theorem L153_2 (x0 : S152) (x1 : S152) (h0 : (x0.f0 != x1.f0) = false) (h1 : (x0.f1 != x1.f1) = false) (h2 : (!(x0.f2.toList == x1.f2.toList)) = true) : Does E 153 [.agg (S152.t x0), .agg (S152.t x1)] [(false, [tB false])] :=
  Does.path (fn := Try.f153) [.b false, .b false, .b true] [fun _ => (x0.f0 != x1.f0) = false, fun _ => (x0.f1 != x1.f1) = false, fun _ => (!(x0.f2.toList == x1.f2.toList)) = true] rfl rfl (fun k => by kernel_rfl) ⟨Ev.c h0, Ev.c h1, Ev.c h2, trivial⟩
theorem L153_3 (x0 : S152) (x1 : S152) (h0 : (x0.f0 != x1.f0) = false) (h1 : (x0.f1 != x1.f1) = false) (h2 : (!(x0.f2.toList == x1.f2.toList)) = false) : Does E 153 [.agg (S152.t x0), .agg (S152.t x1)] [(false, [tB true])] :=
  Does.path (fn := Try.f153) [.b false, .b false, .b false] [fun _ => (x0.f0 != x1.f0) = false, fun _ => (x0.f1 != x1.f1) = false, fun _ => (!(x0.f2.toList == x1.f2.toList)) = false] rfl rfl (fun k => by kernel_rfl) ⟨Ev.c h0, Ev.c h1, Ev.c h2, trivial⟩
noncomputable def sem153 (x0 : S152) (x1 : S152) : Option (Bool) :=
    cond (x0.f0 != x1.f0)
      (some (false))
      (cond (x0.f1 != x1.f1)
        (some (false))
        (cond (!(x0.f2.toList == x1.f2.toList))
          (some (false))
          (some (true))))
theorem D153 (x0 : S152) (x1 : S152) : Ans (sem153 x0 x1) (fun r => Does E 153 [.agg (S152.t x0), .agg (S152.t x1)] [(false, [tB r])]) := by
  unfold sem153
  refine Ans.ite (fun h0 => ?_) (fun h0 => ?_)
  · exact Ans.some (L153_0 x0 x1 h0)
  · refine Ans.ite (fun h1 => ?_) (fun h1 => ?_)
    · exact Ans.some (L153_1 x0 x1 h0 h1)
    · refine Ans.ite (fun h2 => ?_) (fun h2 => ?_)
      · exact Ans.some (L153_2 x0 x1 h0 h1 h2)
      · exact Ans.some (L153_3 x0 x1 h0 h1 h2)
theorem T153 (a b : S152) (h : a = b) : Does E 153 [.agg (S152.t a), .agg (S152.t b)] [(false, [tB (yes a b)])] := by
  subst h
  exact D153 a a _ (by unfold sem153; simp [yes])
-- function 121: loop.example/g00188/laws.eqEntryS
inductive X121_0 where
  | ret (v4 : Bool)
  | x0 
noncomputable def loop121_0 : Nat → (List S152) → (List S152) → Int → Option X121_0
  | 0, _, _, _ => none
  | n + 1, v0, v1, v5 => cond (decide (v5 < (v0.length : Int)))
    ((getI v0 v5).bind fun g0 => (getI v1 v5).bind fun g1 => if g0 = g1 then cond (yes g0 g1)
      (loop121_0 n v0 v1 (IntKind.wrap .i64 (v5 + (1 : Int))))
      (some (.ret false)) else none)
    (some (.x0))
def Q121_0 (v0 : List S152) (v1 : List S152) (v5 : Int) : X121_0 → Prop
  | .ret zv4 => Loops E 121 (lpAt Try.f121 0) (stL 27 [(0, .one (.s .far () 3 (v0.map S152.t))), (1, .one (.s .far () 3 (v1.map S152.t))), (5, .one (tI v5))]) .ret (stL 27 [(4, .one (tB zv4))])
  | .x0 => Loops E 121 (lpAt Try.f121 0) (stL 27 [(0, .one (.s .far () 3 (v0.map S152.t))), (1, .one (.s .far () 3 (v1.map S152.t))), (5, .one (tI v5))]) (.exit 0) (stL 27 [])
theorem R121_0_0 (v0 : List S152) (v1 : List S152) (v5 : Int) (g0 : S152) (g1 : S152) (h0 : (decide (v5 < (v0.length : Int))) = true) (h1 : getI v0 v5 = some g0) (h2 : getI v1 v5 = some g1) (h3 : g0 = g1) (h4 : (yes g0 g1) = true) : Round E 121 (lpAt Try.f121 0) (stL 27 [(0, .one (.s .far () 3 (v0.map S152.t))), (1, .one (.s .far () 3 (v1.map S152.t))), (5, .one (tI v5))]) .normal (stL 27 [(0, .one (.s .far () 3 (v0.map S152.t))), (1, .one (.s .far () 3 (v1.map S152.t))), (5, .one (tI (IntKind.wrap .i64 (v5 + (1 : Int)))))]) :=
  Round.path [.val (.int .i64 (v0.length : Int)), .b true, .row (S152.t g0), .row (S152.t g1), .ret [(false, [tB true])]] [fun _ => ((v0.map S152.t).length : Int) = (v0.length : Int), fun _ => (decide (v5 < (v0.length : Int))) = true, fun _ => 0 ≤ v5 ∧ (v0.map S152.t)[v5.toNat]? = some (S152.t g0), fun _ => 0 ≤ v5 ∧ (v1.map S152.t)[v5.toNat]? = some (S152.t g1), fun k => E.C k 153 [.agg (S152.t g0), .agg (S152.t g1)] = some [(false, [tB true])]] (fun k => by kernel_rfl) ⟨Ev.c lenMap, Ev.c h0, Ev.c (getRow h1), Ev.c (getRow h2), Does.to (T153 g0 g1 h3) (by rw [h4]), trivial⟩
theorem R121_0_1 (v0 : List S152) (v1 : List S152) (v5 : Int) (g0 : S152) (g1 : S152) (h0 : (decide (v5 < (v0.length : Int))) = true) (h1 : getI v0 v5 = some g0) (h2 : getI v1 v5 = some g1) (h3 : g0 = g1) (h4 : (yes g0 g1) = false) : Round E 121 (lpAt Try.f121 0) (stL 27 [(0, .one (.s .far () 3 (v0.map S152.t))), (1, .one (.s .far () 3 (v1.map S152.t))), (5, .one (tI v5))]) .ret (stL 27 [(4, .one (tB false))]) :=
  Round.path [.val (.int .i64 (v0.length : Int)), .b true, .row (S152.t g0), .row (S152.t g1), .ret [(false, [tB false])]] [fun _ => ((v0.map S152.t).length : Int) = (v0.length : Int), fun _ => (decide (v5 < (v0.length : Int))) = true, fun _ => 0 ≤ v5 ∧ (v0.map S152.t)[v5.toNat]? = some (S152.t g0), fun _ => 0 ≤ v5 ∧ (v1.map S152.t)[v5.toNat]? = some (S152.t g1), fun k => E.C k 153 [.agg (S152.t g0), .agg (S152.t g1)] = some [(false, [tB false])]] (fun k => by kernel_rfl) ⟨Ev.c lenMap, Ev.c h0, Ev.c (getRow h1), Ev.c (getRow h2), Does.to (T153 g0 g1 h3) (by rw [h4]), trivial⟩
theorem R121_0_2 (v0 : List S152) (v1 : List S152) (v5 : Int) (h0 : (decide (v5 < (v0.length : Int))) = false) : Round E 121 (lpAt Try.f121 0) (stL 27 [(0, .one (.s .far () 3 (v0.map S152.t))), (1, .one (.s .far () 3 (v1.map S152.t))), (5, .one (tI v5))]) (.exit 0) (stL 27 []) :=
  Round.path [.val (.int .i64 (v0.length : Int)), .b false] [fun _ => ((v0.map S152.t).length : Int) = (v0.length : Int), fun _ => (decide (v5 < (v0.length : Int))) = false] (fun k => by kernel_rfl) ⟨Ev.c lenMap, Ev.c h0, trivial⟩
theorem L121_0 (n : Nat) : ∀ (v0 : List S152) (v1 : List S152) (v5 : Int), Ans (loop121_0 n v0 v1 v5) (Q121_0 v0 v1 v5) := by
  induction n with
  | zero => intros; exact Ans.none
  | succ n ih =>
    intro v0 v1 v5
    unfold loop121_0
    refine Ans.ite (fun h0 => ?_) (fun h0 => ?_)
    · refine Ans.bind (fun g0 h1 => ?_)
      refine Ans.bind (fun g1 h2 => ?_)
      refine Ans.pre (fun h3 => ?_)
      refine Ans.ite (fun h4 => ?_) (fun h4 => ?_)
      · exact (ih v0 v1 (IntKind.wrap .i64 (v5 + (1 : Int)))).mono fun y hy => by cases y <;> exact Loops.next (R121_0_0 v0 v1 v5 g0 g1 h0 h1 h2 h3 h4) hy
      · exact Ans.some (Loops.stop (R121_0_1 v0 v1 v5 g0 g1 h0 h1 h2 h3 h4) (by intro h; cases h))
    · exact Ans.some (Loops.stop (R121_0_2 v0 v1 v5 h0) (by intro h; cases h))
theorem P121_0 (x0 : List S152) (x1 : List S152) (h0 : ((x0.length : Int) != (x1.length : Int)) = true) : Does E 121 [.one (.s .far () 3 (x0.map S152.t)), .one (.s .far () 3 (x1.map S152.t))] [(false, [tB false])] :=
  Does.path (fn := Try.f121) [.val (.int .i64 (x0.length : Int)), .val (.int .i64 (x1.length : Int)), .b true] [fun _ => ((x0.map S152.t).length : Int) = (x0.length : Int), fun _ => ((x1.map S152.t).length : Int) = (x1.length : Int), fun _ => ((x0.length : Int) != (x1.length : Int)) = true] rfl rfl (fun k => by kernel_rfl) ⟨Ev.c lenMap, Ev.c lenMap, Ev.c h0, trivial⟩
theorem P121_1 (x0 : List S152) (x1 : List S152) (w0_4 : Bool) (h0 : ((x0.length : Int) != (x1.length : Int)) = false) (h1 : Loops E 121 (lpAt Try.f121 0) (stL 27 [(0, .one (.s .far () 3 (x0.map S152.t))), (1, .one (.s .far () 3 (x1.map S152.t))), (5, .one (tI (0 : Int)))]) .ret (stL 27 [(4, .one (tB w0_4))])) : Does E 121 [.one (.s .far () 3 (x0.map S152.t)), .one (.s .far () 3 (x1.map S152.t))] [(false, [tB w0_4])] :=
  Does.path (fn := Try.f121) [.val (.int .i64 (x0.length : Int)), .val (.int .i64 (x1.length : Int)), .b false, .lp .ret (stL 27 [(4, .one (tB w0_4))])] [fun _ => ((x0.map S152.t).length : Int) = (x0.length : Int), fun _ => ((x1.map S152.t).length : Int) = (x1.length : Int), fun _ => ((x0.length : Int) != (x1.length : Int)) = false, fun k => LoopK E 121 (lpAt Try.f121 0) (stL 27 [(0, .one (.s .far () 3 (x0.map S152.t))), (1, .one (.s .far () 3 (x1.map S152.t))), (5, .one (tI (0 : Int)))]) .ret (stL 27 [(4, .one (tB w0_4))]) k k] rfl rfl (fun k => by kernel_rfl) ⟨Ev.c lenMap, Ev.c lenMap, Ev.c h0, Loops.ev h1, trivial⟩
theorem P121_2 (x0 : List S152) (x1 : List S152) (h0 : ((x0.length : Int) != (x1.length : Int)) = false) (h1 : Loops E 121 (lpAt Try.f121 0) (stL 27 [(0, .one (.s .far () 3 (x0.map S152.t))), (1, .one (.s .far () 3 (x1.map S152.t))), (5, .one (tI (0 : Int)))]) (.exit 0) (stL 27 [])) : Does E 121 [.one (.s .far () 3 (x0.map S152.t)), .one (.s .far () 3 (x1.map S152.t))] [(false, [tB true])] :=
  Does.path (fn := Try.f121) [.val (.int .i64 (x0.length : Int)), .val (.int .i64 (x1.length : Int)), .b false, .lp (.exit 0) (stL 27 [])] [fun _ => ((x0.map S152.t).length : Int) = (x0.length : Int), fun _ => ((x1.map S152.t).length : Int) = (x1.length : Int), fun _ => ((x0.length : Int) != (x1.length : Int)) = false, fun k => LoopK E 121 (lpAt Try.f121 0) (stL 27 [(0, .one (.s .far () 3 (x0.map S152.t))), (1, .one (.s .far () 3 (x1.map S152.t))), (5, .one (tI (0 : Int)))]) (.exit 0) (stL 27 []) k k] rfl rfl (fun k => by kernel_rfl) ⟨Ev.c lenMap, Ev.c lenMap, Ev.c h0, Loops.ev h1, trivial⟩
noncomputable def sem121 (n : Nat) (x0 : List S152) (x1 : List S152) : Option (Bool) :=
    cond ((x0.length : Int) != (x1.length : Int))
      (some (false))
      ((loop121_0 n x0 x1 (0 : Int)).bind fun y => match y with
        | .ret w0_4 => (some (w0_4))
        | .x0 => (some (true)))
theorem D121 (n : Nat) (x0 : List S152) (x1 : List S152) : Ans (sem121 n x0 x1) (fun r => Does E 121 [.one (.s .far () 3 (x0.map S152.t)), .one (.s .far () 3 (x1.map S152.t))] [(false, [tB r])]) := by
  unfold sem121
  refine Ans.ite (fun h0 => ?_) (fun h0 => ?_)
  · exact Ans.some (P121_0 x0 x1 h0)
  · refine Ans.bind (fun y hy => ?_)
    replace hy := L121_0 n x0 x1 (0 : Int) y hy
    cases y with
    | ret w0_4 =>
      have h1 := hy
      exact Ans.some (P121_1 x0 x1 w0_4 h0 h1)
    | x0 =>
      have h1 := hy
      exact Ans.some (P121_2 x0 x1 h0 h1)
theorem loop121_ok (l : List S152) (hl : l.length ≤ 1048576) : ∀ (k i n : Nat), i + k = l.length → k < n → loop121_0 n l l i = some .x0
  | 0, i, n, hi, hn => by
    obtain ⟨n, rfl⟩ : ∃ m, n = m + 1 := ⟨n - 1, by omega⟩
    simp only [loop121_0]
    rw [show decide ((i : Int) < (l.length : Int)) = false from decide_eq_false (by omega)]
    rfl
  | k + 1, i, n, hi, hn => by
    obtain ⟨n, rfl⟩ : ∃ m, n = m + 1 := ⟨n - 1, by omega⟩
    have hil : i < l.length := by omega
    have ih := loop121_ok l hl k (i + 1) n (by omega) (by omega)
    simp only [loop121_0]
    rw [show decide ((i : Int) < (l.length : Int)) = true from decide_eq_true (by omega), getI_nat, List.getElem?_eq_getElem hil, wrap1 i (by omega)]
    simp only [cond_true, Option.bind_some]
    simp [yes]
    exact ih
theorem T121 (a b : List S152) (h : a = b) (hl : a.length ≤ 1048576) : Does E 121 [.one (.s .far () 3 (a.map S152.t)), .one (.s .far () 3 (b.map S152.t))] [(false, [tB (yes a b)])] := by
  subst h
  exact D121 (a.length + 1) a a _ (by
    unfold sem121
    rw [show (0 : Int) = ((0 : Nat) : Int) from rfl, loop121_ok a hl a.length 0 _ (by omega) (by omega)]
    simp [yes])
-- function 66: loop.example/g00188/laws.eqIntS
inductive X66_0 where
  | ret (v4 : Bool)
  | x0 
noncomputable def loop66_0 : Nat → (List Int) → (List Int) → Int → Option X66_0
  | 0, _, _, _ => none
  | n + 1, v0, v1, v5 => cond (decide (v5 < (v0.length : Int)))
    ((getI v0 v5).bind fun g0 => (getI v1 v5).bind fun g1 => cond (g0 != g1)
      (some (.ret false))
      (loop66_0 n v0 v1 (IntKind.wrap .i64 (v5 + (1 : Int)))))
    (some (.x0))
def Q66_0 (v0 : List Int) (v1 : List Int) (v5 : Int) : X66_0 → Prop
  | .ret zv4 => Loops E 66 (lpAt Try.f66 0) (stL 26 [(0, .one (.s .far () 1 (v0.map etI))), (1, .one (.s .far () 1 (v1.map etI))), (5, .one (tI v5))]) .ret (stL 26 [(4, .one (tB zv4))])
  | .x0 => Loops E 66 (lpAt Try.f66 0) (stL 26 [(0, .one (.s .far () 1 (v0.map etI))), (1, .one (.s .far () 1 (v1.map etI))), (5, .one (tI v5))]) (.exit 0) (stL 26 [])
theorem R66_0_0 (v0 : List Int) (v1 : List Int) (v5 : Int) (g0 : Int) (g1 : Int) (h0 : (decide (v5 < (v0.length : Int))) = true) (h1 : getI v0 v5 = some g0) (h2 : getI v1 v5 = some g1) (h3 : (g0 != g1) = true) : Round E 66 (lpAt Try.f66 0) (stL 26 [(0, .one (.s .far () 1 (v0.map etI))), (1, .one (.s .far () 1 (v1.map etI))), (5, .one (tI v5))]) .ret (stL 26 [(4, .one (tB false))]) :=
  Round.path [.val (.int .i64 (v0.length : Int)), .b true, .row (etI g0), .row (etI g1), .b true] [fun _ => ((v0.map etI).length : Int) = (v0.length : Int), fun _ => (decide (v5 < (v0.length : Int))) = true, fun _ => 0 ≤ v5 ∧ (v0.map etI)[v5.toNat]? = some (etI g0), fun _ => 0 ≤ v5 ∧ (v1.map etI)[v5.toNat]? = some (etI g1), fun _ => (g0 != g1) = true] (fun k => by kernel_rfl) ⟨Ev.c lenMap, Ev.c h0, Ev.c (getRow h1), Ev.c (getRow h2), Ev.c h3, trivial⟩
theorem R66_0_1 (v0 : List Int) (v1 : List Int) (v5 : Int) (g0 : Int) (g1 : Int) (h0 : (decide (v5 < (v0.length : Int))) = true) (h1 : getI v0 v5 = some g0) (h2 : getI v1 v5 = some g1) (h3 : (g0 != g1) = false) : Round E 66 (lpAt Try.f66 0) (stL 26 [(0, .one (.s .far () 1 (v0.map etI))), (1, .one (.s .far () 1 (v1.map etI))), (5, .one (tI v5))]) .normal (stL 26 [(0, .one (.s .far () 1 (v0.map etI))), (1, .one (.s .far () 1 (v1.map etI))), (5, .one (tI (IntKind.wrap .i64 (v5 + (1 : Int)))))]) :=
  Round.path [.val (.int .i64 (v0.length : Int)), .b true, .row (etI g0), .row (etI g1), .b false] [fun _ => ((v0.map etI).length : Int) = (v0.length : Int), fun _ => (decide (v5 < (v0.length : Int))) = true, fun _ => 0 ≤ v5 ∧ (v0.map etI)[v5.toNat]? = some (etI g0), fun _ => 0 ≤ v5 ∧ (v1.map etI)[v5.toNat]? = some (etI g1), fun _ => (g0 != g1) = false] (fun k => by kernel_rfl) ⟨Ev.c lenMap, Ev.c h0, Ev.c (getRow h1), Ev.c (getRow h2), Ev.c h3, trivial⟩
theorem R66_0_2 (v0 : List Int) (v1 : List Int) (v5 : Int) (h0 : (decide (v5 < (v0.length : Int))) = false) : Round E 66 (lpAt Try.f66 0) (stL 26 [(0, .one (.s .far () 1 (v0.map etI))), (1, .one (.s .far () 1 (v1.map etI))), (5, .one (tI v5))]) (.exit 0) (stL 26 []) :=
  Round.path [.val (.int .i64 (v0.length : Int)), .b false] [fun _ => ((v0.map etI).length : Int) = (v0.length : Int), fun _ => (decide (v5 < (v0.length : Int))) = false] (fun k => by kernel_rfl) ⟨Ev.c lenMap, Ev.c h0, trivial⟩
theorem L66_0 (n : Nat) : ∀ (v0 : List Int) (v1 : List Int) (v5 : Int), Ans (loop66_0 n v0 v1 v5) (Q66_0 v0 v1 v5) := by
  induction n with
  | zero => intros; exact Ans.none
  | succ n ih =>
    intro v0 v1 v5
    unfold loop66_0
    refine Ans.ite (fun h0 => ?_) (fun h0 => ?_)
    · refine Ans.bind (fun g0 h1 => ?_)
      refine Ans.bind (fun g1 h2 => ?_)
      refine Ans.ite (fun h3 => ?_) (fun h3 => ?_)
      · exact Ans.some (Loops.stop (R66_0_0 v0 v1 v5 g0 g1 h0 h1 h2 h3) (by intro h; cases h))
      · exact (ih v0 v1 (IntKind.wrap .i64 (v5 + (1 : Int)))).mono fun y hy => by cases y <;> exact Loops.next (R66_0_1 v0 v1 v5 g0 g1 h0 h1 h2 h3) hy
    · exact Ans.some (Loops.stop (R66_0_2 v0 v1 v5 h0) (by intro h; cases h))
theorem P66_0 (x0 : List Int) (x1 : List Int) (h0 : ((x0.length : Int) != (x1.length : Int)) = true) : Does E 66 [.one (.s .far () 1 (x0.map etI)), .one (.s .far () 1 (x1.map etI))] [(false, [tB false])] :=
  Does.path (fn := Try.f66) [.val (.int .i64 (x0.length : Int)), .val (.int .i64 (x1.length : Int)), .b true] [fun _ => ((x0.map etI).length : Int) = (x0.length : Int), fun _ => ((x1.map etI).length : Int) = (x1.length : Int), fun _ => ((x0.length : Int) != (x1.length : Int)) = true] rfl rfl (fun k => by kernel_rfl) ⟨Ev.c lenMap, Ev.c lenMap, Ev.c h0, trivial⟩
theorem P66_1 (x0 : List Int) (x1 : List Int) (w0_4 : Bool) (h0 : ((x0.length : Int) != (x1.length : Int)) = false) (h1 : Loops E 66 (lpAt Try.f66 0) (stL 26 [(0, .one (.s .far () 1 (x0.map etI))), (1, .one (.s .far () 1 (x1.map etI))), (5, .one (tI (0 : Int)))]) .ret (stL 26 [(4, .one (tB w0_4))])) : Does E 66 [.one (.s .far () 1 (x0.map etI)), .one (.s .far () 1 (x1.map etI))] [(false, [tB w0_4])] :=
  Does.path (fn := Try.f66) [.val (.int .i64 (x0.length : Int)), .val (.int .i64 (x1.length : Int)), .b false, .lp .ret (stL 26 [(4, .one (tB w0_4))])] [fun _ => ((x0.map etI).length : Int) = (x0.length : Int), fun _ => ((x1.map etI).length : Int) = (x1.length : Int), fun _ => ((x0.length : Int) != (x1.length : Int)) = false, fun k => LoopK E 66 (lpAt Try.f66 0) (stL 26 [(0, .one (.s .far () 1 (x0.map etI))), (1, .one (.s .far () 1 (x1.map etI))), (5, .one (tI (0 : Int)))]) .ret (stL 26 [(4, .one (tB w0_4))]) k k] rfl rfl (fun k => by kernel_rfl) ⟨Ev.c lenMap, Ev.c lenMap, Ev.c h0, Loops.ev h1, trivial⟩
theorem P66_2 (x0 : List Int) (x1 : List Int) (h0 : ((x0.length : Int) != (x1.length : Int)) = false) (h1 : Loops E 66 (lpAt Try.f66 0) (stL 26 [(0, .one (.s .far () 1 (x0.map etI))), (1, .one (.s .far () 1 (x1.map etI))), (5, .one (tI (0 : Int)))]) (.exit 0) (stL 26 [])) : Does E 66 [.one (.s .far () 1 (x0.map etI)), .one (.s .far () 1 (x1.map etI))] [(false, [tB true])] :=
  Does.path (fn := Try.f66) [.val (.int .i64 (x0.length : Int)), .val (.int .i64 (x1.length : Int)), .b false, .lp (.exit 0) (stL 26 [])] [fun _ => ((x0.map etI).length : Int) = (x0.length : Int), fun _ => ((x1.map etI).length : Int) = (x1.length : Int), fun _ => ((x0.length : Int) != (x1.length : Int)) = false, fun k => LoopK E 66 (lpAt Try.f66 0) (stL 26 [(0, .one (.s .far () 1 (x0.map etI))), (1, .one (.s .far () 1 (x1.map etI))), (5, .one (tI (0 : Int)))]) (.exit 0) (stL 26 []) k k] rfl rfl (fun k => by kernel_rfl) ⟨Ev.c lenMap, Ev.c lenMap, Ev.c h0, Loops.ev h1, trivial⟩
noncomputable def sem66 (n : Nat) (x0 : List Int) (x1 : List Int) : Option (Bool) :=
    cond ((x0.length : Int) != (x1.length : Int))
      (some (false))
      ((loop66_0 n x0 x1 (0 : Int)).bind fun y => match y with
        | .ret w0_4 => (some (w0_4))
        | .x0 => (some (true)))
theorem D66 (n : Nat) (x0 : List Int) (x1 : List Int) : Ans (sem66 n x0 x1) (fun r => Does E 66 [.one (.s .far () 1 (x0.map etI)), .one (.s .far () 1 (x1.map etI))] [(false, [tB r])]) := by
  unfold sem66
  refine Ans.ite (fun h0 => ?_) (fun h0 => ?_)
  · exact Ans.some (P66_0 x0 x1 h0)
  · refine Ans.bind (fun y hy => ?_)
    replace hy := L66_0 n x0 x1 (0 : Int) y hy
    cases y with
    | ret w0_4 =>
      have h1 := hy
      exact Ans.some (P66_1 x0 x1 w0_4 h0 h1)
    | x0 =>
      have h1 := hy
      exact Ans.some (P66_2 x0 x1 h0 h1)
theorem loop66_ok (l : List Int) (hl : l.length ≤ 1048576) : ∀ (k i n : Nat), i + k = l.length → k < n → loop66_0 n l l i = some .x0
  | 0, i, n, hi, hn => by
    obtain ⟨n, rfl⟩ : ∃ m, n = m + 1 := ⟨n - 1, by omega⟩
    simp only [loop66_0]
    rw [show decide ((i : Int) < (l.length : Int)) = false from decide_eq_false (by omega)]
    rfl
  | k + 1, i, n, hi, hn => by
    obtain ⟨n, rfl⟩ : ∃ m, n = m + 1 := ⟨n - 1, by omega⟩
    have hil : i < l.length := by omega
    have ih := loop66_ok l hl k (i + 1) n (by omega) (by omega)
    simp only [loop66_0]
    rw [show decide ((i : Int) < (l.length : Int)) = true from decide_eq_true (by omega), getI_nat, List.getElem?_eq_getElem hil, wrap1 i (by omega)]
    simp only [cond_true, Option.bind_some]
    simp [yes]
    exact ih
theorem T66 (a b : List Int) (h : a = b) (hl : a.length ≤ 1048576) : Does E 66 [.one (.s .far () 1 (a.map etI)), .one (.s .far () 1 (b.map etI))] [(false, [tB (yes a b)])] := by
  subst h
  exact D66 (a.length + 1) a a _ (by
    unfold sem66
    rw [show (0 : Int) = ((0 : Nat) : Int) from rfl, loop66_ok a hl a.length 0 _ (by omega) (by omega)]
    simp [yes])
-- function 55: loop.example/g00188/laws.eqMessage
theorem L55_0 (x0 : S86) (x1 : S86) (h0 : (x0.f0 != x1.f0) = true) : Does E 55 [.agg (S86.t .far x0), .agg (S86.t .far x1)] [(false, [tB false])] :=
  Does.path (fn := Try.f55) [.b true] [fun _ => (x0.f0 != x1.f0) = true] rfl rfl (fun k => by kernel_rfl) ⟨Ev.c h0, trivial⟩
theorem L55_1 (x0 : S86) (x1 : S86) (h0 : (x0.f0 != x1.f0) = false) (h1 : (x0.f1 != x1.f1) = true) : Does E 55 [.agg (S86.t .far x0), .agg (S86.t .far x1)] [(false, [tB false])] :=
  Does.path (fn := Try.f55) [.b false, .b true] [fun _ => (x0.f0 != x1.f0) = false, fun _ => (x0.f1 != x1.f1) = true] rfl rfl (fun k => by kernel_rfl) ⟨Ev.c h0, Ev.c h1, trivial⟩
theorem L55_2 (x0 : S86) (x1 : S86) (h0 : (x0.f0 != x1.f0) = false) (h1 : (x0.f1 != x1.f1) = false) (h2 : (x0.f2 != x1.f2) = true) : Does E 55 [.agg (S86.t .far x0), .agg (S86.t .far x1)] [(false, [tB false])] :=
  Does.path (fn := Try.f55) [.b false, .b false, .b true] [fun _ => (x0.f0 != x1.f0) = false, fun _ => (x0.f1 != x1.f1) = false, fun _ => (x0.f2 != x1.f2) = true] rfl rfl (fun k => by kernel_rfl) ⟨Ev.c h0, Ev.c h1, Ev.c h2, trivial⟩
theorem L55_3 (x0 : S86) (x1 : S86) (h0 : (x0.f0 != x1.f0) = false) (h1 : (x0.f1 != x1.f1) = false) (h2 : (x0.f2 != x1.f2) = false) (h3 : (x0.f3 != x1.f3) = true) : Does E 55 [.agg (S86.t .far x0), .agg (S86.t .far x1)] [(false, [tB false])] :=
  Does.path (fn := Try.f55) [.b false, .b false, .b false, .b true] [fun _ => (x0.f0 != x1.f0) = false, fun _ => (x0.f1 != x1.f1) = false, fun _ => (x0.f2 != x1.f2) = false, fun _ => (x0.f3 != x1.f3) = true] rfl rfl (fun k => by kernel_rfl) ⟨Ev.c h0, Ev.c h1, Ev.c h2, Ev.c h3, trivial⟩
theorem L55_4 (x0 : S86) (x1 : S86) (h0 : (x0.f0 != x1.f0) = false) (h1 : (x0.f1 != x1.f1) = false) (h2 : (x0.f2 != x1.f2) = false) (h3 : (x0.f3 != x1.f3) = false) (h4 : (x0.f4 != x1.f4) = true) : Does E 55 [.agg (S86.t .far x0), .agg (S86.t .far x1)] [(false, [tB false])] :=
  Does.path (fn := Try.f55) [.b false, .b false, .b false, .b false, .b true] [fun _ => (x0.f0 != x1.f0) = false, fun _ => (x0.f1 != x1.f1) = false, fun _ => (x0.f2 != x1.f2) = false, fun _ => (x0.f3 != x1.f3) = false, fun _ => (x0.f4 != x1.f4) = true] rfl rfl (fun k => by kernel_rfl) ⟨Ev.c h0, Ev.c h1, Ev.c h2, Ev.c h3, Ev.c h4, trivial⟩
theorem L55_5 (x0 : S86) (x1 : S86) (h0 : (x0.f0 != x1.f0) = false) (h1 : (x0.f1 != x1.f1) = false) (h2 : (x0.f2 != x1.f2) = false) (h3 : (x0.f3 != x1.f3) = false) (h4 : (x0.f4 != x1.f4) = false) (h5 : (x0.f5 != x1.f5) = true) : Does E 55 [.agg (S86.t .far x0), .agg (S86.t .far x1)] [(false, [tB false])] :=
  Does.path (fn := Try.f55) [.b false, .b false, .b false, .b false, .b false, .b true] [fun _ => (x0.f0 != x1.f0) = false, fun _ => (x0.f1 != x1.f1) = false, fun _ => (x0.f2 != x1.f2) = false, fun _ => (x0.f3 != x1.f3) = false, fun _ => (x0.f4 != x1.f4) = false, fun _ => (x0.f5 != x1.f5) = true] rfl rfl (fun k => by kernel_rfl) ⟨Ev.c h0, Ev.c h1, Ev.c h2, Ev.c h3, Ev.c h4, Ev.c h5, trivial⟩
theorem L55_6 (x0 : S86) (x1 : S86) (h0 : (x0.f0 != x1.f0) = false) (h1 : (x0.f1 != x1.f1) = false) (h2 : (x0.f2 != x1.f2) = false) (h3 : (x0.f3 != x1.f3) = false) (h4 : (x0.f4 != x1.f4) = false) (h5 : (x0.f5 != x1.f5) = false) (h6 : (x0.f6 != x1.f6) = true) : Does E 55 [.agg (S86.t .far x0), .agg (S86.t .far x1)] [(false, [tB false])] :=
  Does.path (fn := Try.f55) [.b false, .b false, .b false, .b false, .b false, .b false, .b true] [fun _ => (x0.f0 != x1.f0) = false, fun _ => (x0.f1 != x1.f1) = false, fun _ => (x0.f2 != x1.f2) = false, fun _ => (x0.f3 != x1.f3) = false, fun _ => (x0.f4 != x1.f4) = false, fun _ => (x0.f5 != x1.f5) = false, fun _ => (x0.f6 != x1.f6) = true] rfl rfl (fun k => by kernel_rfl) ⟨Ev.c h0, Ev.c h1, Ev.c h2, Ev.c h3, Ev.c h4, Ev.c h5, Ev.c h6, trivial⟩
theorem L55_7 (x0 : S86) (x1 : S86) (h0 : (x0.f0 != x1.f0) = false) (h1 : (x0.f1 != x1.f1) = false) (h2 : (x0.f2 != x1.f2) = false) (h3 : (x0.f3 != x1.f3) = false) (h4 : (x0.f4 != x1.f4) = false) (h5 : (x0.f5 != x1.f5) = false) (h6 : (x0.f6 != x1.f6) = false) (h7 : (!(x0.f7 == x1.f7)) = true) : Does E 55 [.agg (S86.t .far x0), .agg (S86.t .far x1)] [(false, [tB false])] :=
  Does.path (fn := Try.f55) [.b false, .b false, .b false, .b false, .b false, .b false, .b false, .b true] [fun _ => (x0.f0 != x1.f0) = false, fun _ => (x0.f1 != x1.f1) = false, fun _ => (x0.f2 != x1.f2) = false, fun _ => (x0.f3 != x1.f3) = false, fun _ => (x0.f4 != x1.f4) = false, fun _ => (x0.f5 != x1.f5) = false, fun _ => (x0.f6 != x1.f6) = false, fun _ => (!(x0.f7 == x1.f7)) = true] rfl rfl (fun k => by kernel_rfl) ⟨Ev.c h0, Ev.c h1, Ev.c h2, Ev.c h3, Ev.c h4, Ev.c h5, Ev.c h6, Ev.c h7, trivial⟩
theorem L55_8 (x0 : S86) (x1 : S86) (h0 : (x0.f0 != x1.f0) = false) (h1 : (x0.f1 != x1.f1) = false) (h2 : (x0.f2 != x1.f2) = false) (h3 : (x0.f3 != x1.f3) = false) (h4 : (x0.f4 != x1.f4) = false) (h5 : (x0.f5 != x1.f5) = false) (h6 : (x0.f6 != x1.f6) = false) (h7 : (!(x0.f7 == x1.f7)) = false) (h8 : x0.f8 = x1.f8) (h9 : x0.f8.length ≤ 1048576) (h10 : (yes x0.f8 x1.f8) = true) (h11 : x0.f9 = x1.f9) (h12 : x0.f9.length ≤ 1048576) (h13 : (yes x0.f9 x1.f9) = true) (h14 : (!(x0.f10.toList == x1.f10.toList)) = true) : Does E 55 [.agg (S86.t .far x0), .agg (S86.t .far x1)] [(false, [tB false])] :=
  Does.path (fn := Try.f55) [.b false, .b false, .b false, .b false, .b false, .b false, .b false, .b false, .ret [(false, [tB true])], .ret [(false, [tB true])], .b true] [fun _ => (x0.f0 != x1.f0) = false, fun _ => (x0.f1 != x1.f1) = false, fun _ => (x0.f2 != x1.f2) = false, fun _ => (x0.f3 != x1.f3) = false, fun _ => (x0.f4 != x1.f4) = false, fun _ => (x0.f5 != x1.f5) = false, fun _ => (x0.f6 != x1.f6) = false, fun _ => (!(x0.f7 == x1.f7)) = false, fun k => E.C k 121 [.one (.s .far () 3 (x0.f8.map S152.t)), .one (.s .far () 3 (x1.f8.map S152.t))] = some [(false, [tB true])], fun k => E.C k 66 [.one (.s .far () 1 (x0.f9.map etI)), .one (.s .far () 1 (x1.f9.map etI))] = some [(false, [tB true])], fun _ => (!(x0.f10.toList == x1.f10.toList)) = true] rfl rfl (fun k => by kernel_rfl) ⟨Ev.c h0, Ev.c h1, Ev.c h2, Ev.c h3, Ev.c h4, Ev.c h5, Ev.c h6, Ev.c h7, Does.to (T121 x0.f8 x1.f8 h8 h9) (by rw [h10]), Does.to (T66 x0.f9 x1.f9 h11 h12) (by rw [h13]), Ev.c h14, trivial⟩
theorem L55_9 (x0 : S86) (x1 : S86) (h0 : (x0.f0 != x1.f0) = false) (h1 : (x0.f1 != x1.f1) = false) (h2 : (x0.f2 != x1.f2) = false) (h3 : (x0.f3 != x1.f3) = false) (h4 : (x0.f4 != x1.f4) = false) (h5 : (x0.f5 != x1.f5) = false) (h6 : (x0.f6 != x1.f6) = false) (h7 : (!(x0.f7 == x1.f7)) = false) (h8 : x0.f8 = x1.f8) (h9 : x0.f8.length ≤ 1048576) (h10 : (yes x0.f8 x1.f8) = true) (h11 : x0.f9 = x1.f9) (h12 : x0.f9.length ≤ 1048576) (h13 : (yes x0.f9 x1.f9) = true) (h14 : (!(x0.f10.toList == x1.f10.toList)) = false) (h15 : (!(x0.f11 == x1.f11)) = true) : Does E 55 [.agg (S86.t .far x0), .agg (S86.t .far x1)] [(false, [tB false])] :=
  Does.path (fn := Try.f55) [.b false, .b false, .b false, .b false, .b false, .b false, .b false, .b false, .ret [(false, [tB true])], .ret [(false, [tB true])], .b false, .b true] [fun _ => (x0.f0 != x1.f0) = false, fun _ => (x0.f1 != x1.f1) = false, fun _ => (x0.f2 != x1.f2) = false, fun _ => (x0.f3 != x1.f3) = false, fun _ => (x0.f4 != x1.f4) = false, fun _ => (x0.f5 != x1.f5) = false, fun _ => (x0.f6 != x1.f6) = false, fun _ => (!(x0.f7 == x1.f7)) = false, fun k => E.C k 121 [.one (.s .far () 3 (x0.f8.map S152.t)), .one (.s .far () 3 (x1.f8.map S152.t))] = some [(false, [tB true])], fun k => E.C k 66 [.one (.s .far () 1 (x0.f9.map etI)), .one (.s .far () 1 (x1.f9.map etI))] = some [(false, [tB true])], fun _ => (!(x0.f10.toList == x1.f10.toList)) = false, fun _ => (!(x0.f11 == x1.f11)) = true] rfl rfl (fun k => by kernel_rfl) ⟨Ev.c h0, Ev.c h1, Ev.c h2, Ev.c h3, Ev.c h4, Ev.c h5, Ev.c h6, Ev.c h7, Does.to (T121 x0.f8 x1.f8 h8 h9) (by rw [h10]), Does.to (T66 x0.f9 x1.f9 h11 h12) (by rw [h13]), Ev.c h14, Ev.c h15, trivial⟩
theorem L55_10 (x0 : S86) (x1 : S86) (h0 : (x0.f0 != x1.f0) = false) (h1 : (x0.f1 != x1.f1) = false) (h2 : (x0.f2 != x1.f2) = false) (h3 : (x0.f3 != x1.f3) = false) (h4 : (x0.f4 != x1.f4) = false) (h5 : (x0.f5 != x1.f5) = false) (h6 : (x0.f6 != x1.f6) = false) (h7 : (!(x0.f7 == x1.f7)) = false) (h8 : x0.f8 = x1.f8) (h9 : x0.f8.length ≤ 1048576) (h10 : (yes x0.f8 x1.f8) = true) (h11 : x0.f9 = x1.f9) (h12 : x0.f9.length ≤ 1048576) (h13 : (yes x0.f9 x1.f9) = true) (h14 : (!(x0.f10.toList == x1.f10.toList)) = false) (h15 : (!(x0.f11 == x1.f11)) = false) : Does E 55 [.agg (S86.t .far x0), .agg (S86.t .far x1)] [(false, [tB true])] :=
  Does.path (fn := Try.f55) [.b false, .b false, .b false, .b false, .b false, .b false, .b false, .b false, .ret [(false, [tB true])], .ret [(false, [tB true])], .b false, .b false] [fun _ => (x0.f0 != x1.f0) = false, fun _ => (x0.f1 != x1.f1) = false, fun _ => (x0.f2 != x1.f2) = false, fun _ => (x0.f3 != x1.f3) = false, fun _ => (x0.f4 != x1.f4) = false, fun _ => (x0.f5 != x1.f5) = false, fun _ => (x0.f6 != x1.f6) = false, fun _ => (!(x0.f7 == x1.f7)) = false, fun k => E.C k 121 [.one (.s .far () 3 (x0.f8.map S152.t)), .one (.s .far () 3 (x1.f8.map S152.t))] = some [(false, [tB true])], fun k => E.C k 66 [.one (.s .far () 1 (x0.f9.map etI)), .one (.s .far () 1 (x1.f9.map etI))] = some [(false, [tB true])], fun _ => (!(x0.f10.toList == x1.f10.toList)) = false, fun _ => (!(x0.f11 == x1.f11)) = false] rfl rfl (fun k => by kernel_rfl) ⟨Ev.c h0, Ev.c h1, Ev.c h2, Ev.c h3, Ev.c h4, Ev.c h5, Ev.c h6, Ev.c h7, Does.to (T121 x0.f8 x1.f8 h8 h9) (by rw [h10]), Does.to (T66 x0.f9 x1.f9 h11 h12) (by rw [h13]), Ev.c h14, Ev.c h15, trivial⟩
theorem L55_11 (x0 : S86) (x1 : S86) (h0 : (x0.f0 != x1.f0) = false) (h1 : (x0.f1 != x1.f1) = false) (h2 : (x0.f2 != x1.f2) = false) (h3 : (x0.f3 != x1.f3) = false) (h4 : (x0.f4 != x1.f4) = false) (h5 : (x0.f5 != x1.f5) = false) (h6 : (x0.f6 != x1.f6) = false) (h7 : (!(x0.f7 == x1.f7)) = false) (h8 : x0.f8 = x1.f8) (h9 : x0.f8.length ≤ 1048576) (h10 : (yes x0.f8 x1.f8) = true) (h11 : x0.f9 = x1.f9) (h12 : x0.f9.length ≤ 1048576) (h13 : (yes x0.f9 x1.f9) = false) : Does E 55 [.agg (S86.t .far x0), .agg (S86.t .far x1)] [(false, [tB false])] :=
  Does.path (fn := Try.f55) [.b false, .b false, .b false, .b false, .b false, .b false, .b false, .b false, .ret [(false, [tB true])], .ret [(false, [tB false])]] [fun _ => (x0.f0 != x1.f0) = false, fun _ => (x0.f1 != x1.f1) = false, fun _ => (x0.f2 != x1.f2) = false, fun _ => (x0.f3 != x1.f3) = false, fun _ => (x0.f4 != x1.f4) = false, fun _ => (x0.f5 != x1.f5) = false, fun _ => (x0.f6 != x1.f6) = false, fun _ => (!(x0.f7 == x1.f7)) = false, fun k => E.C k 121 [.one (.s .far () 3 (x0.f8.map S152.t)), .one (.s .far () 3 (x1.f8.map S152.t))] = some [(false, [tB true])], fun k => E.C k 66 [.one (.s .far () 1 (x0.f9.map etI)), .one (.s .far () 1 (x1.f9.map etI))] = some [(false, [tB false])]] rfl rfl (fun k => by kernel_rfl) ⟨Ev.c h0, Ev.c h1, Ev.c h2, Ev.c h3, Ev.c h4, Ev.c h5, Ev.c h6, Ev.c h7, Does.to (T121 x0.f8 x1.f8 h8 h9) (by rw [h10]), Does.to (T66 x0.f9 x1.f9 h11 h12) (by rw [h13]), trivial⟩
theorem L55_12 (x0 : S86) (x1 : S86) (h0 : (x0.f0 != x1.f0) = false) (h1 : (x0.f1 != x1.f1) = false) (h2 : (x0.f2 != x1.f2) = false) (h3 : (x0.f3 != x1.f3) = false) (h4 : (x0.f4 != x1.f4) = false) (h5 : (x0.f5 != x1.f5) = false) (h6 : (x0.f6 != x1.f6) = false) (h7 : (!(x0.f7 == x1.f7)) = false) (h8 : x0.f8 = x1.f8) (h9 : x0.f8.length ≤ 1048576) (h10 : (yes x0.f8 x1.f8) = false) : Does E 55 [.agg (S86.t .far x0), .agg (S86.t .far x1)] [(false, [tB false])] :=
  Does.path (fn := Try.f55) [.b false, .b false, .b false, .b false, .b false, .b false, .b false, .b false, .ret [(false, [tB false])]] [fun _ => (x0.f0 != x1.f0) = false, fun _ => (x0.f1 != x1.f1) = false, fun _ => (x0.f2 != x1.f2) = false, fun _ => (x0.f3 != x1.f3) = false, fun _ => (x0.f4 != x1.f4) = false, fun _ => (x0.f5 != x1.f5) = false, fun _ => (x0.f6 != x1.f6) = false, fun _ => (!(x0.f7 == x1.f7)) = false, fun k => E.C k 121 [.one (.s .far () 3 (x0.f8.map S152.t)), .one (.s .far () 3 (x1.f8.map S152.t))] = some [(false, [tB false])]] rfl rfl (fun k => by kernel_rfl) ⟨Ev.c h0, Ev.c h1, Ev.c h2, Ev.c h3, Ev.c h4, Ev.c h5, Ev.c h6, Ev.c h7, Does.to (T121 x0.f8 x1.f8 h8 h9) (by rw [h10]), trivial⟩
noncomputable def sem55 (x0 : S86) (x1 : S86) : Option (Bool) :=
    cond (x0.f0 != x1.f0)
      (some (false))
      (cond (x0.f1 != x1.f1)
        (some (false))
        (cond (x0.f2 != x1.f2)
          (some (false))
          (cond (x0.f3 != x1.f3)
            (some (false))
            (cond (x0.f4 != x1.f4)
              (some (false))
              (cond (x0.f5 != x1.f5)
                (some (false))
                (cond (x0.f6 != x1.f6)
                  (some (false))
                  (cond (!(x0.f7 == x1.f7))
                    (some (false))
                    (if x0.f8 = x1.f8 then if x0.f8.length ≤ 1048576 then cond (yes x0.f8 x1.f8)
                      (if x0.f9 = x1.f9 then if x0.f9.length ≤ 1048576 then cond (yes x0.f9 x1.f9)
                        (cond (!(x0.f10.toList == x1.f10.toList))
                          (some (false))
                          (cond (!(x0.f11 == x1.f11))
                            (some (false))
                            (some (true))))
                        (some (false)) else none else none)
                      (some (false)) else none else none))))))))
theorem D55 (x0 : S86) (x1 : S86) : Ans (sem55 x0 x1) (fun r => Does E 55 [.agg (S86.t .far x0), .agg (S86.t .far x1)] [(false, [tB r])]) := by
  unfold sem55
  refine Ans.ite (fun h0 => ?_) (fun h0 => ?_)
  · exact Ans.some (L55_0 x0 x1 h0)
  · refine Ans.ite (fun h1 => ?_) (fun h1 => ?_)
    · exact Ans.some (L55_1 x0 x1 h0 h1)
    · refine Ans.ite (fun h2 => ?_) (fun h2 => ?_)
      · exact Ans.some (L55_2 x0 x1 h0 h1 h2)
      · refine Ans.ite (fun h3 => ?_) (fun h3 => ?_)
        · exact Ans.some (L55_3 x0 x1 h0 h1 h2 h3)
        · refine Ans.ite (fun h4 => ?_) (fun h4 => ?_)
          · exact Ans.some (L55_4 x0 x1 h0 h1 h2 h3 h4)
          · refine Ans.ite (fun h5 => ?_) (fun h5 => ?_)
            · exact Ans.some (L55_5 x0 x1 h0 h1 h2 h3 h4 h5)
            · refine Ans.ite (fun h6 => ?_) (fun h6 => ?_)
              · exact Ans.some (L55_6 x0 x1 h0 h1 h2 h3 h4 h5 h6)
              · refine Ans.ite (fun h7 => ?_) (fun h7 => ?_)
                · exact Ans.some (L55_7 x0 x1 h0 h1 h2 h3 h4 h5 h6 h7)
                · refine Ans.pre (fun h8 => ?_)
                  refine Ans.pre (fun h9 => ?_)
                  refine Ans.ite (fun h10 => ?_) (fun h10 => ?_)
                  · refine Ans.pre (fun h11 => ?_)
                    refine Ans.pre (fun h12 => ?_)
                    refine Ans.ite (fun h13 => ?_) (fun h13 => ?_)
                    · refine Ans.ite (fun h14 => ?_) (fun h14 => ?_)
                      · exact Ans.some (L55_8 x0 x1 h0 h1 h2 h3 h4 h5 h6 h7 h8 h9 h10 h11 h12 h13 h14)
                      · refine Ans.ite (fun h15 => ?_) (fun h15 => ?_)
                        · exact Ans.some (L55_9 x0 x1 h0 h1 h2 h3 h4 h5 h6 h7 h8 h9 h10 h11 h12 h13 h14 h15)
                        · exact Ans.some (L55_10 x0 x1 h0 h1 h2 h3 h4 h5 h6 h7 h8 h9 h10 h11 h12 h13 h14 h15)
                    · exact Ans.some (L55_11 x0 x1 h0 h1 h2 h3 h4 h5 h6 h7 h8 h9 h10 h11 h12 h13)
                  · exact Ans.some (L55_12 x0 x1 h0 h1 h2 h3 h4 h5 h6 h7 h8 h9 h10)
theorem T55 (a b : S86) (h : a = b) (hl : a.f8.length ≤ 1048576) (h9 : a.f9.length ≤ 1048576) : Does E 55 [.agg (S86.t .far a), .agg (S86.t .far b)] [(false, [tB (yes a b)])] := by
  subst h
  exact D55 a a _ (by unfold sem55; simp [yes, hl, h9])
end Go.Proofs.Ytbphhigmepdohaa.Am
