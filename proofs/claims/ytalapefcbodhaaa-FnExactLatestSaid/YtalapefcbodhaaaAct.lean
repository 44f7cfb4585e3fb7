/- What rules fire. Conditions: none. -/
import Derived.Test.YtalapefcbodhaaaCron
namespace Go.Proofs.Ytalapefcbodhaaa.Am
set_option linter.unusedVariables false
set_option linter.unusedSimpArgs false
open Go Go.Proofs Classical
set_option maxRecDepth 100000
set_option linter.unusedVariables false
set_option linter.unusedSimpArgs false
inductive s_l10In_X0 where
  | ret (v4 : Bool)
  | x0 
def s_l10In_Q0 (v0 : List Int) (v1 : Int) (v5 : Int) : s_l10In_X0 → Prop
  | .ret zv4 => Loops E 31 (lpAt Try.f31 0) (stL 18 [(0, .one (.s .far () 1 (v0.map etI))), (1, .one (tI v1)), (5, .one (tI v5))]) .ret (stL 18 [(4, .one (tB zv4))])
  | .x0 => Loops E 31 (lpAt Try.f31 0) (stL 18 [(0, .one (.s .far () 1 (v0.map etI))), (1, .one (tI v1)), (5, .one (tI v5))]) (.exit 0) (stL 18 [])
theorem s_l10In_R0_0 (v0 : List Int) (v1 : Int) (v5 : Int) (g0 : Int) (h0 : (decide (v5 < (v0.length : Int))) = true) (h1 : getI v0 v5 = some g0) (h2 : (g0 == v1) = true) : Round E 31 (lpAt Try.f31 0) (stL 18 [(0, .one (.s .far () 1 (v0.map etI))), (1, .one (tI v1)), (5, .one (tI v5))]) .ret (stL 18 [(4, .one (tB true))]) :=
  Round.path [.val (.int .i64 (v0.length : Int)), .b true, .row (etI g0), .b true] _ (fun k => by kernel_rfl) (AV (ψ := fun _ => ((v0.map etI).length : Int) = (v0.length : Int)) (Ev.c lenMap) <| AC h0 <| AV (ψ := fun _ => 0 ≤ v5 ∧ (v0.map etI)[v5.toNat]? = some (etI g0)) (Ev.c (getRow h1)) <| AC h2 <| AN)
theorem s_l10In_R0_1 (v0 : List Int) (v1 : Int) (v5 : Int) (g0 : Int) (h0 : (decide (v5 < (v0.length : Int))) = true) (h1 : getI v0 v5 = some g0) (h2 : (g0 == v1) = false) : Round E 31 (lpAt Try.f31 0) (stL 18 [(0, .one (.s .far () 1 (v0.map etI))), (1, .one (tI v1)), (5, .one (tI v5))]) .normal (stL 18 [(0, .one (.s .far () 1 (v0.map etI))), (1, .one (tI v1)), (5, .one (tI (inc v5)))]) :=
  Round.path [.val (.int .i64 (v0.length : Int)), .b true, .row (etI g0), .b false] _ (fun k => by kernel_rfl) (AV (ψ := fun _ => ((v0.map etI).length : Int) = (v0.length : Int)) (Ev.c lenMap) <| AC h0 <| AV (ψ := fun _ => 0 ≤ v5 ∧ (v0.map etI)[v5.toNat]? = some (etI g0)) (Ev.c (getRow h1)) <| AC h2 <| AN)
theorem s_l10In_R0_2 (v0 : List Int) (v1 : Int) (v5 : Int) (h0 : (decide (v5 < (v0.length : Int))) = false) : Round E 31 (lpAt Try.f31 0) (stL 18 [(0, .one (.s .far () 1 (v0.map etI))), (1, .one (tI v1)), (5, .one (tI v5))]) (.exit 0) (stL 18 []) :=
  Round.path [.val (.int .i64 (v0.length : Int)), .b false] _ (fun k => by kernel_rfl) (AV (ψ := fun _ => ((v0.map etI).length : Int) = (v0.length : Int)) (Ev.c lenMap) <| AC h0 <| AN)
noncomputable def s_l10In_l0 (v1 : Int) : List Int → Nat → Option s_l10In_X0
  | [], i => some (.x0)
  | hd :: rest, i => cond (hd == v1)
    (some (.ret true))
    (s_l10In_l0 v1 rest (i + 1))
theorem s_l10In_L0 (v0 : List Int) (v1 : Int) (rest : List Int) : ∀ (i : Nat) , (v0).drop i = rest → v0.length ≤ 9223372036854775807 → Ans (s_l10In_l0 v1 rest i) (s_l10In_Q0 v0 v1 (i : Int)) := by
  induction rest with
  | nil =>
    intro i hE hl
    have hb := foldEnd hE
    unfold s_l10In_l0
    exact Ans.some (Loops.stop (s_l10In_R0_2 v0 v1 (i : Int) hb) (by intro h; cases h))
  | cons hd rest ih =>
    intro i hE hl
    have hb := foldMore hE
    have hw := foldNext hE hl
    have hE2 := foldRest hE
    have hg := foldGet hE
    unfold s_l10In_l0
    refine Ans.ite (fun h2 => ?_) (fun h2 => ?_)
    · exact Ans.some (Loops.stop (s_l10In_R0_0 v0 v1 (i : Int) hd hb hg h2) (by intro h; cases h))
    · exact (ih (i + 1) hE2 hl).mono fun y hy => by have r := s_l10In_R0_1 v0 v1 (i : Int) hd hb hg h2; rw [hw] at r; cases y <;> exact Loops.next r hy
theorem s_l10In_P0 (x0 : List Int) (x1 : Int) (w0_4 : Bool) (h0 : Loops E 31 (lpAt Try.f31 0) (stL 18 [(0, .one (.s .far () 1 (x0.map etI))), (1, .one (tI x1)), (5, .one (tI (0 : Int)))]) .ret (stL 18 [(4, .one (tB w0_4))])) : Does E 31 [.one (.s .far () 1 (x0.map etI)), .one (tI x1)] [(false, [tB w0_4])] :=
  Does.path (fn := Try.f31) [.lp .ret (stL 18 [(4, .one (tB w0_4))])] _ rfl (fun _ => rfl) (fun k => by kernel_rfl) (AV (ψ := fun k => LoopK E 31 (lpAt Try.f31 0) (stL 18 [(0, .one (.s .far () 1 (x0.map etI))), (1, .one (tI x1)), (5, .one (tI (0 : Int)))]) .ret (stL 18 [(4, .one (tB w0_4))]) k k) (Loops.ev h0) <| AN)
theorem s_l10In_P1 (x0 : List Int) (x1 : Int) (h0 : Loops E 31 (lpAt Try.f31 0) (stL 18 [(0, .one (.s .far () 1 (x0.map etI))), (1, .one (tI x1)), (5, .one (tI (0 : Int)))]) (.exit 0) (stL 18 [])) : Does E 31 [.one (.s .far () 1 (x0.map etI)), .one (tI x1)] [(false, [tB false])] :=
  Does.path (fn := Try.f31) [.lp (.exit 0) (stL 18 [])] _ rfl (fun _ => rfl) (fun k => by kernel_rfl) (AV (ψ := fun k => LoopK E 31 (lpAt Try.f31 0) (stL 18 [(0, .one (.s .far () 1 (x0.map etI))), (1, .one (tI x1)), (5, .one (tI (0 : Int)))]) (.exit 0) (stL 18 []) k k) (Loops.ev h0) <| AN)
noncomputable def s_l10In_F (x0 : List Int) (x1 : Int) : Option (Bool) :=
    if x0.length ≤ 9223372036854775807 then (s_l10In_l0 x1 x0 0).bind fun y => match y with
      | .ret w0_4 => (some (w0_4))
      | .x0 => (some (false)) else none
theorem s_l10In_D (x0 : List Int) (x1 : Int) : Ans (s_l10In_F x0 x1) (fun r => Does E 31 [.one (.s .far () 1 (x0.map etI)), .one (tI x1)] [(false, [tB r])]) := by
  unfold s_l10In_F
  refine Ans.pre (fun hl1 => ?_)
  refine Ans.bind (fun y hy => ?_)
  replace hy := s_l10In_L0 x0 x1 x0 0 rfl hl1 y hy
  cases y with
  | ret w0_4 =>
    have h0 := hy
    exact Ans.some (s_l10In_P0 x0 x1 w0_4 h0)
  | x0 =>
    have h0 := hy
    exact Ans.some (s_l10In_P1 x0 x1 h0)
def isIn (l : List Int) (x : Int) : Bool := l.any fun y => y == x
theorem isIn_l (x : Int) : ∀ (rest : List Int) (i : Nat), s_l10In_l0 x rest i = some (if isIn rest x = true then .ret true else .x0)
  | [], i => rfl
  | y :: rest, i => by
    unfold s_l10In_l0
    rw [isIn_l x rest (i + 1)]
    unfold isIn
    rw [List.any_cons]
    cases y == x <;> rfl
theorem T_s_l10In (x0 : List Int) (x1 : Int) (h : x0.length ≤ 1050000) : Does E 31 [.one (.s .far () 1 (x0.map etI)), .one (tI x1)] [(false, [tB (isIn x0 x1)])] := by
  exact s_l10In_D x0 x1 _ (by
    unfold s_l10In_F
    rw [if_pos (by omega), isIn_l]
    cases q : isIn x0 x1 <;> rfl)
inductive slices_Index_int_X0 where
  | ret (v4 : Int)
  | x0 
def slices_Index_int_Q0 (v0 : List Int) (v1 : Int) (v7 : Int) (v8 : Int) : slices_Index_int_X0 → Prop
  | .ret zv4 => Loops E 44 (lpAt Try.f44 0) (stL 19 [(0, .one (.s .far () 1 (v0.map etI))), (1, .one (tI v1)), (7, .one (tI v7)), (8, .one (tI v8))]) .ret (stL 19 [(4, .one (tI zv4))])
  | .x0 => Loops E 44 (lpAt Try.f44 0) (stL 19 [(0, .one (.s .far () 1 (v0.map etI))), (1, .one (tI v1)), (7, .one (tI v7)), (8, .one (tI v8))]) (.exit 0) (stL 19 [])
theorem slices_Index_int_R0_0 (v0 : List Int) (v1 : Int) (v7 : Int) (v8 : Int) (g0 : Int) (h0 : (decide (v8 < v7)) = true) (h1 : getI v0 v8 = some g0) (h2 : (v1 == g0) = true) : Round E 44 (lpAt Try.f44 0) (stL 19 [(0, .one (.s .far () 1 (v0.map etI))), (1, .one (tI v1)), (7, .one (tI v7)), (8, .one (tI v8))]) .ret (stL 19 [(4, .one (tI v8))]) :=
  Round.path [.b true, .row (etI g0), .b true] _ (fun k => by kernel_rfl) (AC h0 <| AV (ψ := fun _ => 0 ≤ v8 ∧ (v0.map etI)[v8.toNat]? = some (etI g0)) (Ev.c (getRow h1)) <| AC h2 <| AN)
theorem slices_Index_int_R0_1 (v0 : List Int) (v1 : Int) (v7 : Int) (v8 : Int) (g0 : Int) (h0 : (decide (v8 < v7)) = true) (h1 : getI v0 v8 = some g0) (h2 : (v1 == g0) = false) : Round E 44 (lpAt Try.f44 0) (stL 19 [(0, .one (.s .far () 1 (v0.map etI))), (1, .one (tI v1)), (7, .one (tI v7)), (8, .one (tI v8))]) .normal (stL 19 [(0, .one (.s .far () 1 (v0.map etI))), (1, .one (tI v1)), (7, .one (tI v7)), (8, .one (tI (inc v8)))]) :=
  Round.path [.b true, .row (etI g0), .b false] _ (fun k => by kernel_rfl) (AC h0 <| AV (ψ := fun _ => 0 ≤ v8 ∧ (v0.map etI)[v8.toNat]? = some (etI g0)) (Ev.c (getRow h1)) <| AC h2 <| AN)
theorem slices_Index_int_R0_2 (v0 : List Int) (v1 : Int) (v7 : Int) (v8 : Int) (h0 : (decide (v8 < v7)) = false) : Round E 44 (lpAt Try.f44 0) (stL 19 [(0, .one (.s .far () 1 (v0.map etI))), (1, .one (tI v1)), (7, .one (tI v7)), (8, .one (tI v8))]) (.exit 0) (stL 19 []) :=
  Round.path [.b false] _ (fun k => by kernel_rfl) (AC h0 <| AN)
noncomputable def slices_Index_int_l0 (v1 : Int) : List Int → Nat → Option slices_Index_int_X0
  | [], i => some (.x0)
  | hd :: rest, i => cond (v1 == hd)
    (some (.ret (i : Int)))
    (slices_Index_int_l0 v1 rest (i + 1))
theorem slices_Index_int_L0 (v0 : List Int) (v1 : Int) (rest : List Int) : ∀ (i : Nat) , (v0).drop i = rest → v0.length ≤ 9223372036854775807 → Ans (slices_Index_int_l0 v1 rest i) (slices_Index_int_Q0 v0 v1 (v0.length : Int) (i : Int)) := by
  induction rest with
  | nil =>
    intro i hE hl
    have hb := foldEnd hE
    unfold slices_Index_int_l0
    exact Ans.some (Loops.stop (slices_Index_int_R0_2 v0 v1 (v0.length : Int) (i : Int) hb) (by intro h; cases h))
  | cons hd rest ih =>
    intro i hE hl
    have hb := foldMore hE
    have hw := foldNext hE hl
    have hE2 := foldRest hE
    have hg := foldGet hE
    unfold slices_Index_int_l0
    refine Ans.ite (fun h2 => ?_) (fun h2 => ?_)
    · exact Ans.some (Loops.stop (slices_Index_int_R0_0 v0 v1 (v0.length : Int) (i : Int) hd hb hg h2) (by intro h; cases h))
    · exact (ih (i + 1) hE2 hl).mono fun y hy => by have r := slices_Index_int_R0_1 v0 v1 (v0.length : Int) (i : Int) hd hb hg h2; rw [hw] at r; cases y <;> exact Loops.next r hy
theorem slices_Index_int_P0 (x0 : List Int) (x1 : Int) (w0_4 : Int) (h0 : Loops E 44 (lpAt Try.f44 0) (stL 19 [(0, .one (.s .far () 1 (x0.map etI))), (1, .one (tI x1)), (7, .one (tI (x0.length : Int))), (8, .one (tI (0 : Int)))]) .ret (stL 19 [(4, .one (tI w0_4))])) : Does E 44 [.one (.s .far () 1 (x0.map etI)), .one (tI x1)] [(false, [tI w0_4])] :=
  Does.path (fn := Try.f44) [.val (.int .i64 (x0.length : Int)), .lp .ret (stL 19 [(4, .one (tI w0_4))])] _ rfl (fun _ => rfl) (fun k => by kernel_rfl) (AV (ψ := fun _ => ((x0.map etI).length : Int) = (x0.length : Int)) (Ev.c lenMap) <| AV (ψ := fun k => LoopK E 44 (lpAt Try.f44 0) (stL 19 [(0, .one (.s .far () 1 (x0.map etI))), (1, .one (tI x1)), (7, .one (tI (x0.length : Int))), (8, .one (tI (0 : Int)))]) .ret (stL 19 [(4, .one (tI w0_4))]) k k) (Loops.ev h0) <| AN)
theorem slices_Index_int_P1 (x0 : List Int) (x1 : Int) (h0 : Loops E 44 (lpAt Try.f44 0) (stL 19 [(0, .one (.s .far () 1 (x0.map etI))), (1, .one (tI x1)), (7, .one (tI (x0.length : Int))), (8, .one (tI (0 : Int)))]) (.exit 0) (stL 19 [])) : Does E 44 [.one (.s .far () 1 (x0.map etI)), .one (tI x1)] [(false, [tI (-1 : Int)])] :=
  Does.path (fn := Try.f44) [.val (.int .i64 (x0.length : Int)), .lp (.exit 0) (stL 19 [])] _ rfl (fun _ => rfl) (fun k => by kernel_rfl) (AV (ψ := fun _ => ((x0.map etI).length : Int) = (x0.length : Int)) (Ev.c lenMap) <| AV (ψ := fun k => LoopK E 44 (lpAt Try.f44 0) (stL 19 [(0, .one (.s .far () 1 (x0.map etI))), (1, .one (tI x1)), (7, .one (tI (x0.length : Int))), (8, .one (tI (0 : Int)))]) (.exit 0) (stL 19 []) k k) (Loops.ev h0) <| AN)
noncomputable def slices_Index_int_F (x0 : List Int) (x1 : Int) : Option (Int) :=
    if x0.length ≤ 9223372036854775807 then (slices_Index_int_l0 x1 x0 0).bind fun y => match y with
      | .ret w0_4 => (some (w0_4))
      | .x0 => (some ((-1 : Int))) else none
theorem slices_Index_int_D (x0 : List Int) (x1 : Int) : Ans (slices_Index_int_F x0 x1) (fun r => Does E 44 [.one (.s .far () 1 (x0.map etI)), .one (tI x1)] [(false, [tI r])]) := by
  unfold slices_Index_int_F
  refine Ans.pre (fun hl1 => ?_)
  refine Ans.bind (fun y hy => ?_)
  replace hy := slices_Index_int_L0 x0 x1 x0 0 rfl hl1 y hy
  cases y with
  | ret w0_4 =>
    have h0 := hy
    exact Ans.some (slices_Index_int_P0 x0 x1 w0_4 h0)
  | x0 =>
    have h0 := hy
    exact Ans.some (slices_Index_int_P1 x0 x1 h0)
noncomputable def idxI (l : List Int) (x : Int) : Int := (slices_Index_int_F l x).getD (-1)
theorem idx_l (x : Int) : ∀ (rest : List Int) (i : Nat), (∃ k : Nat, slices_Index_int_l0 x rest i = some (.ret (k : Int)) ∧ isIn rest x = true) ∨ slices_Index_int_l0 x rest i = some .x0 ∧ isIn rest x = false
  | [], i => .inr ⟨rfl, rfl⟩
  | y :: rest, i => by
    have e : (x == y) = (y == x) := by cases q : y == x with | true => rw [eq_of_beq q]; simp | false => exact beq_eq_false_iff_ne.2 fun e => by rw [e] at q; simp at q
    unfold slices_Index_int_l0 isIn
    rw [List.any_cons, e]
    cases y == x with
    | true => exact .inl ⟨i, rfl, rfl⟩
    | false => exact idx_l x rest (i + 1)
theorem idx_ok (l : List Int) (x : Int) (h : l.length ≤ 1050000) : slices_Index_int_F l x = some (idxI l x) ∧ decide (idxI l x ≥ (0 : Int)) = isIn l x := by
  have e : ∃ r, slices_Index_int_F l x = some r ∧ decide (r ≥ (0 : Int)) = isIn l x := by
    unfold slices_Index_int_F
    rw [if_pos (by omega)]
    rcases idx_l x l 0 with ⟨k, h1, h2⟩ | ⟨h1, h2⟩
    · exact ⟨(k : Int), by rw [h1]; rfl, by rw [h2]; exact decide_eq_true (by omega)⟩
    · exact ⟨-1, by rw [h1]; rfl, by rw [h2]; rfl⟩
  obtain ⟨r, h1, h2⟩ := e
  have p : idxI l x = r := by unfold idxI; rw [h1]; rfl
  rw [p]; exact ⟨h1, h2⟩
theorem T_slices_Index_int (x0 : List Int) (x1 : Int) (h : x0.length ≤ 1050000) : Does E 44 [.one (.s .far () 1 (x0.map etI)), .one (tI x1)] [(false, [tI (idxI x0 x1)])] := by
  exact slices_Index_int_D x0 x1 _ (idx_ok x0 x1 h).1
theorem slices_Contains_int_P0 (x0 : List Int) (x1 : Int) (h0 : x0.length ≤ 1050000) : Does E 32 [.one (.s .far () 1 (x0.map etI)), .one (tI x1)] [(false, [tB (decide ((idxI x0 x1) ≥ (0 : Int)))])] :=
  Does.path (fn := Try.f32) [.ret [(false, [tI (idxI x0 x1)])]] _ rfl (fun _ => rfl) (fun k => by kernel_rfl) (AD (T_slices_Index_int x0 x1 h0) <| AN)
noncomputable def slices_Contains_int_F (x0 : List Int) (x1 : Int) : Option (Bool) :=
    if x0.length ≤ 1050000 then some (decide ((idxI x0 x1) ≥ (0 : Int))) else none
theorem slices_Contains_int_D (x0 : List Int) (x1 : Int) : Ans (slices_Contains_int_F x0 x1) (fun r => Does E 32 [.one (.s .far () 1 (x0.map etI)), .one (tI x1)] [(false, [tB r])]) := by
  unfold slices_Contains_int_F
  refine Ans.pre (fun h0 => ?_)
  exact Ans.some (slices_Contains_int_P0 x0 x1 h0)
theorem T_slices_Contains_int (x0 : List Int) (x1 : Int) (h : x0.length ≤ 1050000) : Does E 32 [.one (.s .far () 1 (x0.map etI)), .one (tI x1)] [(false, [tB (isIn x0 x1)])] := by
  exact slices_Contains_int_D x0 x1 _ (by
    unfold slices_Contains_int_F
    try rw [if_pos h]
    rw [(idx_ok x0 x1 h).2])
inductive s_l10List_X0 where
  | ret (v6 : Bool)
  | x0 
def s_l10List_Q0 (v0 : List Int) (v1 : Int) (v2 : Int) (v7 : Int) : s_l10List_X0 → Prop
  | .ret zv6 => Loops E 41 (lpAt Try.f41 0) (stL 41 [(0, .one (.s .far () 1 (v0.map etI))), (1, .one (tI v1)), (2, .one (tI v2)), (7, .one (tI v7))]) .ret (stL 41 [(6, .one (tB zv6))])
  | .x0 => Loops E 41 (lpAt Try.f41 0) (stL 41 [(0, .one (.s .far () 1 (v0.map etI))), (1, .one (tI v1)), (2, .one (tI v2)), (7, .one (tI v7))]) (.exit 0) (stL 41 [(0, .one (.s .far () 1 (v0.map etI)))])
theorem s_l10List_R0_0 (v0 : List Int) (v1 : Int) (v2 : Int) (v7 : Int) (g0 : Int) (g1 : Int) (h0 : (decide (v7 < (v0.length : Int))) = true) (h1 : getI v0 v7 = some g0) (h2 : (inRange g0 v1 v2) = true) (h3 : (decide (v7 > (0 : Int))) = true) (h4 : getI v0 (IntKind.wrap .i64 (v7 - (1 : Int))) = some g1) (h5 : (decide (g1 ≥ g0)) = true) : Round E 41 (lpAt Try.f41 0) (stL 41 [(0, .one (.s .far () 1 (v0.map etI))), (1, .one (tI v1)), (2, .one (tI v2)), (7, .one (tI v7))]) .ret (stL 41 [(6, .one (tB false))]) :=
  Round.path [.val (.int .i64 (v0.length : Int)), .b true, .row (etI g0), rT, .b true, .row (etI g1), .row (etI g0), .b true] _ (fun k => by kernel_rfl) (AV (ψ := fun _ => ((v0.map etI).length : Int) = (v0.length : Int)) (Ev.c lenMap) <| AC h0 <| AV (ψ := fun _ => 0 ≤ v7 ∧ (v0.map etI)[v7.toNat]? = some (etI g0)) (Ev.c (getRow h1)) <| AD (Does.tB (T_s_l01In g0 v1 v2) h2) <| AC h3 <| AV (ψ := fun _ => 0 ≤ (IntKind.wrap .i64 (v7 - (1 : Int))) ∧ (v0.map etI)[(IntKind.wrap .i64 (v7 - (1 : Int))).toNat]? = some (etI g1)) (Ev.c (getRow h4)) <| AV (ψ := fun _ => 0 ≤ v7 ∧ (v0.map etI)[v7.toNat]? = some (etI g0)) (Ev.c (getRow h1)) <| AC h5 <| AN)
theorem s_l10List_R0_1 (v0 : List Int) (v1 : Int) (v2 : Int) (v7 : Int) (g0 : Int) (g1 : Int) (h0 : (decide (v7 < (v0.length : Int))) = true) (h1 : getI v0 v7 = some g0) (h2 : (inRange g0 v1 v2) = true) (h3 : (decide (v7 > (0 : Int))) = true) (h4 : getI v0 (IntKind.wrap .i64 (v7 - (1 : Int))) = some g1) (h5 : (decide (g1 ≥ g0)) = false) : Round E 41 (lpAt Try.f41 0) (stL 41 [(0, .one (.s .far () 1 (v0.map etI))), (1, .one (tI v1)), (2, .one (tI v2)), (7, .one (tI v7))]) .normal (stL 41 [(0, .one (.s .far () 1 (v0.map etI))), (1, .one (tI v1)), (2, .one (tI v2)), (7, .one (tI (inc v7)))]) :=
  Round.path [.val (.int .i64 (v0.length : Int)), .b true, .row (etI g0), rT, .b true, .row (etI g1), .row (etI g0), .b false] _ (fun k => by kernel_rfl) (AV (ψ := fun _ => ((v0.map etI).length : Int) = (v0.length : Int)) (Ev.c lenMap) <| AC h0 <| AV (ψ := fun _ => 0 ≤ v7 ∧ (v0.map etI)[v7.toNat]? = some (etI g0)) (Ev.c (getRow h1)) <| AD (Does.tB (T_s_l01In g0 v1 v2) h2) <| AC h3 <| AV (ψ := fun _ => 0 ≤ (IntKind.wrap .i64 (v7 - (1 : Int))) ∧ (v0.map etI)[(IntKind.wrap .i64 (v7 - (1 : Int))).toNat]? = some (etI g1)) (Ev.c (getRow h4)) <| AV (ψ := fun _ => 0 ≤ v7 ∧ (v0.map etI)[v7.toNat]? = some (etI g0)) (Ev.c (getRow h1)) <| AC h5 <| AN)
theorem s_l10List_R0_2 (v0 : List Int) (v1 : Int) (v2 : Int) (v7 : Int) (g0 : Int) (h0 : (decide (v7 < (v0.length : Int))) = true) (h1 : getI v0 v7 = some g0) (h2 : (inRange g0 v1 v2) = true) (h3 : (decide (v7 > (0 : Int))) = false) : Round E 41 (lpAt Try.f41 0) (stL 41 [(0, .one (.s .far () 1 (v0.map etI))), (1, .one (tI v1)), (2, .one (tI v2)), (7, .one (tI v7))]) .normal (stL 41 [(0, .one (.s .far () 1 (v0.map etI))), (1, .one (tI v1)), (2, .one (tI v2)), (7, .one (tI (inc v7)))]) :=
  Round.path [.val (.int .i64 (v0.length : Int)), .b true, .row (etI g0), rT, .b false] _ (fun k => by kernel_rfl) (AV (ψ := fun _ => ((v0.map etI).length : Int) = (v0.length : Int)) (Ev.c lenMap) <| AC h0 <| AV (ψ := fun _ => 0 ≤ v7 ∧ (v0.map etI)[v7.toNat]? = some (etI g0)) (Ev.c (getRow h1)) <| AD (Does.tB (T_s_l01In g0 v1 v2) h2) <| AC h3 <| AN)
theorem s_l10List_R0_3 (v0 : List Int) (v1 : Int) (v2 : Int) (v7 : Int) (g0 : Int) (h0 : (decide (v7 < (v0.length : Int))) = true) (h1 : getI v0 v7 = some g0) (h2 : (inRange g0 v1 v2) = false) : Round E 41 (lpAt Try.f41 0) (stL 41 [(0, .one (.s .far () 1 (v0.map etI))), (1, .one (tI v1)), (2, .one (tI v2)), (7, .one (tI v7))]) .ret (stL 41 [(6, .one (tB false))]) :=
  Round.path [.val (.int .i64 (v0.length : Int)), .b true, .row (etI g0), rF] _ (fun k => by kernel_rfl) (AV (ψ := fun _ => ((v0.map etI).length : Int) = (v0.length : Int)) (Ev.c lenMap) <| AC h0 <| AV (ψ := fun _ => 0 ≤ v7 ∧ (v0.map etI)[v7.toNat]? = some (etI g0)) (Ev.c (getRow h1)) <| AD (Does.tB (T_s_l01In g0 v1 v2) h2) <| AN)
theorem s_l10List_R0_4 (v0 : List Int) (v1 : Int) (v2 : Int) (v7 : Int) (h0 : (decide (v7 < (v0.length : Int))) = false) : Round E 41 (lpAt Try.f41 0) (stL 41 [(0, .one (.s .far () 1 (v0.map etI))), (1, .one (tI v1)), (2, .one (tI v2)), (7, .one (tI v7))]) (.exit 0) (stL 41 [(0, .one (.s .far () 1 (v0.map etI)))]) :=
  Round.path [.val (.int .i64 (v0.length : Int)), .b false] _ (fun k => by kernel_rfl) (AV (ψ := fun _ => ((v0.map etI).length : Int) = (v0.length : Int)) (Ev.c lenMap) <| AC h0 <| AN)
noncomputable def s_l10List_l0 (v0 : List Int) (v1 : Int) (v2 : Int) : List Int → Nat → Option s_l10List_X0
  | [], i => some (.x0)
  | hd :: rest, i => cond (inRange hd v1 v2)
    (cond (decide ((i : Int) > (0 : Int)))
      ((getI v0 (IntKind.wrap .i64 ((i : Int) - (1 : Int)))).bind fun g1 => cond (decide (g1 ≥ hd))
        (some (.ret false))
        (s_l10List_l0 v0 v1 v2 rest (i + 1)))
      (s_l10List_l0 v0 v1 v2 rest (i + 1)))
    (some (.ret false))
theorem s_l10List_L0 (v0 : List Int) (v1 : Int) (v2 : Int) (rest : List Int) : ∀ (i : Nat) , (v0).drop i = rest → v0.length ≤ 9223372036854775807 → Ans (s_l10List_l0 v0 v1 v2 rest i) (s_l10List_Q0 v0 v1 v2 (i : Int)) := by
  induction rest with
  | nil =>
    intro i hE hl
    have hb := foldEnd hE
    unfold s_l10List_l0
    exact Ans.some (Loops.stop (s_l10List_R0_4 v0 v1 v2 (i : Int) hb) (by intro h; cases h))
  | cons hd rest ih =>
    intro i hE hl
    have hb := foldMore hE
    have hw := foldNext hE hl
    have hE2 := foldRest hE
    have hg := foldGet hE
    unfold s_l10List_l0
    refine Ans.ite (fun h2 => ?_) (fun h2 => ?_)
    · refine Ans.ite (fun h3 => ?_) (fun h3 => ?_)
      · refine Ans.bind (fun g1 h4 => ?_)
        refine Ans.ite (fun h5 => ?_) (fun h5 => ?_)
        · exact Ans.some (Loops.stop (s_l10List_R0_0 v0 v1 v2 (i : Int) hd g1 hb hg h2 h3 h4 h5) (by intro h; cases h))
        · exact (ih (i + 1) hE2 hl).mono fun y hy => by have r := s_l10List_R0_1 v0 v1 v2 (i : Int) hd g1 hb hg h2 h3 h4 h5; rw [hw] at r; cases y <;> exact Loops.next r hy
      · exact (ih (i + 1) hE2 hl).mono fun y hy => by have r := s_l10List_R0_2 v0 v1 v2 (i : Int) hd hb hg h2 h3; rw [hw] at r; cases y <;> exact Loops.next r hy
    · exact Ans.some (Loops.stop (s_l10List_R0_3 v0 v1 v2 (i : Int) hd hb hg h2) (by intro h; cases h))
theorem s_l10List_P0 (x0 : List Int) (x1 : Int) (x2 : Int) (w0_6 : Bool) (h0 : Loops E 41 (lpAt Try.f41 0) (stL 41 [(0, .one (.s .far () 1 (x0.map etI))), (1, .one (tI x1)), (2, .one (tI x2)), (7, .one (tI (0 : Int)))]) .ret (stL 41 [(6, .one (tB w0_6))])) : Does E 41 [.one (.s .far () 1 (x0.map etI)), .one (tI x1), .one (tI x2)] [(false, [tB w0_6])] :=
  Does.path (fn := Try.f41) [.lp .ret (stL 41 [(6, .one (tB w0_6))])] _ rfl (fun _ => rfl) (fun k => by kernel_rfl) (AV (ψ := fun k => LoopK E 41 (lpAt Try.f41 0) (stL 41 [(0, .one (.s .far () 1 (x0.map etI))), (1, .one (tI x1)), (2, .one (tI x2)), (7, .one (tI (0 : Int)))]) .ret (stL 41 [(6, .one (tB w0_6))]) k k) (Loops.ev h0) <| AN)
theorem s_l10List_P1 (x0 : List Int) (x1 : Int) (x2 : Int) (h0 : Loops E 41 (lpAt Try.f41 0) (stL 41 [(0, .one (.s .far () 1 (x0.map etI))), (1, .one (tI x1)), (2, .one (tI x2)), (7, .one (tI (0 : Int)))]) (.exit 0) (stL 41 [(0, .one (.s .far () 1 (x0.map etI)))])) : Does E 41 [.one (.s .far () 1 (x0.map etI)), .one (tI x1), .one (tI x2)] [(false, [tB (decide ((x0.length : Int) > (0 : Int)))])] :=
  Does.path (fn := Try.f41) [.lp (.exit 0) (stL 41 [(0, .one (.s .far () 1 (x0.map etI)))]), .val (.int .i64 (x0.length : Int))] _ rfl (fun _ => rfl) (fun k => by kernel_rfl) (AV (ψ := fun k => LoopK E 41 (lpAt Try.f41 0) (stL 41 [(0, .one (.s .far () 1 (x0.map etI))), (1, .one (tI x1)), (2, .one (tI x2)), (7, .one (tI (0 : Int)))]) (.exit 0) (stL 41 [(0, .one (.s .far () 1 (x0.map etI)))]) k k) (Loops.ev h0) <| AV (ψ := fun _ => ((x0.map etI).length : Int) = (x0.length : Int)) (Ev.c lenMap) <| AN)
noncomputable def s_l10List_F (x0 : List Int) (x1 : Int) (x2 : Int) : Option (Bool) :=
    if x0.length ≤ 9223372036854775807 then (s_l10List_l0 x0 x1 x2 x0 0).bind fun y => match y with
      | .ret w0_6 => (some (w0_6))
      | .x0 => (some (decide ((x0.length : Int) > (0 : Int)))) else none
theorem s_l10List_D (x0 : List Int) (x1 : Int) (x2 : Int) : Ans (s_l10List_F x0 x1 x2) (fun r => Does E 41 [.one (.s .far () 1 (x0.map etI)), .one (tI x1), .one (tI x2)] [(false, [tB r])]) := by
  unfold s_l10List_F
  refine Ans.pre (fun hl1 => ?_)
  refine Ans.bind (fun y hy => ?_)
  replace hy := s_l10List_L0 x0 x1 x2 x0 0 rfl hl1 y hy
  cases y with
  | ret w0_6 =>
    have h0 := hy
    exact Ans.some (s_l10List_P0 x0 x1 x2 w0_6 h0)
  | x0 =>
    have h0 := hy
    exact Ans.some (s_l10List_P1 x0 x1 x2 h0)
def riseOk (a b : Int) : List Int → Option Int → Bool
  | [], _ => true
  | x :: l, p => inRange x a b && (match p with | some y => decide (y < x) | none => true) && riseOk a b l (some x)
def listOk (l : List Int) (a b : Int) : Bool := riseOk a b l none && decide ((l.length : Int) > 0)
theorem getBack {full rest : List Int} {x : Int} {i : Nat} (h : full.drop i = x :: rest) : i = 0 ∨ ∃ y, full[i - 1]? = some y := by
  cases i with
  | zero => exact .inl rfl
  | succ i =>
    right
    have : i < full.length := by
      rcases Nat.lt_or_ge i full.length with g | g
      · exact g
      · rw [List.drop_eq_nil_of_le (by omega)] at h; cases h
    exact ⟨full[i], by simp [this]⟩
def prevOf (full : List Int) (i : Nat) : Option Int := if i = 0 then none else full[i - 1]?
theorem prev_next {full rest : List Int} {x : Int} {i : Nat} (h : full.drop i = x :: rest) : prevOf full (i + 1) = some x := by
  unfold prevOf
  rw [if_neg (by omega)]
  show full[i]? = some x
  rw [← List.head?_drop, h]; rfl
theorem list_l (full : List Int) (a b : Int) (hl : full.length ≤ 1050000) : ∀ (rest : List Int) (i : Nat), full.drop i = rest → s_l10List_l0 full a b rest i = some (if riseOk a b rest (prevOf full i) = true then .x0 else .ret false)
  | [], i, _ => rfl
  | x :: rest, i, h => by
    have ih := list_l full a b hl rest (i + 1) (foldRest h)
    rw [prev_next h] at ih
    have hi : i < full.length := by
      rcases Nat.lt_or_ge i full.length with g | g
      · exact g
      · rw [List.drop_eq_nil_of_le g] at h; cases h
    unfold s_l10List_l0 riseOk
    rw [ih]
    cases inRange x a b with
    | false => rfl
    | true =>
      rw [cond_true, Bool.true_and]
      rcases getBack h with rfl | ⟨y, hy⟩
      · simp [prevOf]
      · by_cases z : i = 0
        · subst z; simp [prevOf]
        · have hp : prevOf full i = some y := by unfold prevOf; rw [if_neg z, hy]
          have hg : getI full (IntKind.wrap .i64 ((i : Int) - 1)) = some y := by
            rw [wrap_id _ (by omega) (by omega)]
            have e : ((i : Int) - 1) = ((i - 1 : Nat) : Int) := by omega
            rw [e, getI_nat, hy]
          rw [hp, hg, decide_eq_true (by omega : (i : Int) > 0), cond_true, Option.bind_some]
          simp only
          by_cases c : y ≥ x
          · have yx : ¬ y < x := by omega
            rw [decide_eq_true c, cond_true]; simp [yx]
          · have yx : y < x := by omega
            rw [decide_eq_false c, cond_false]; simp [yx]
theorem T_s_l10List (x0 : List Int) (x1 : Int) (x2 : Int) (h : x0.length ≤ 1050000) : Does E 41 [.one (.s .far () 1 (x0.map etI)), .one (tI x1), .one (tI x2)] [(false, [tB (listOk x0 x1 x2)])] := by
  exact s_l10List_D x0 x1 x2 _ (by
    unfold s_l10List_F
    rw [if_pos (by omega), list_l x0 x1 x2 h x0 0 rfl]
    unfold listOk prevOf
    rw [if_pos rfl]
    cases riseOk x1 x2 x0 none <;> rfl)
theorem s_CronOk_P0 (x0 : GCron) (h0 : x0.f0.length ≤ 1050000) (h1 : (listOk x0.f0 (0 : Int) (59 : Int)) = true) (h2 : x0.f1.length ≤ 1050000) (h3 : (listOk x0.f1 (0 : Int) (23 : Int)) = true) (h4 : x0.f2.length ≤ 1050000) (h5 : (listOk x0.f2 (1 : Int) (31 : Int)) = true) (h6 : x0.f3.length ≤ 1050000) (h7 : (listOk x0.f3 (1 : Int) (12 : Int)) = true) (h8 : x0.f4.length ≤ 1050000) : Does E 28 [.agg (GCron.t .far x0)] [(false, [tB (listOk x0.f4 (0 : Int) (6 : Int))])] :=
  Does.path (fn := Try.f28) [rT, rT, rT, rT, .ret [(false, [tB (listOk x0.f4 (0 : Int) (6 : Int))])]] _ rfl (fun _ => rfl) (fun k => by kernel_rfl) (AD (Does.tB (T_s_l10List x0.f0 (0 : Int) (59 : Int) h0) h1) <| AD (Does.tB (T_s_l10List x0.f1 (0 : Int) (23 : Int) h2) h3) <| AD (Does.tB (T_s_l10List x0.f2 (1 : Int) (31 : Int) h4) h5) <| AD (Does.tB (T_s_l10List x0.f3 (1 : Int) (12 : Int) h6) h7) <| AD (T_s_l10List x0.f4 (0 : Int) (6 : Int) h8) <| AN)
theorem s_CronOk_P1 (x0 : GCron) (h0 : x0.f0.length ≤ 1050000) (h1 : (listOk x0.f0 (0 : Int) (59 : Int)) = true) (h2 : x0.f1.length ≤ 1050000) (h3 : (listOk x0.f1 (0 : Int) (23 : Int)) = true) (h4 : x0.f2.length ≤ 1050000) (h5 : (listOk x0.f2 (1 : Int) (31 : Int)) = true) (h6 : x0.f3.length ≤ 1050000) (h7 : (listOk x0.f3 (1 : Int) (12 : Int)) = false) : Does E 28 [.agg (GCron.t .far x0)] [(false, [tB false])] :=
  Does.path (fn := Try.f28) [rT, rT, rT, rF] _ rfl (fun _ => rfl) (fun k => by kernel_rfl) (AD (Does.tB (T_s_l10List x0.f0 (0 : Int) (59 : Int) h0) h1) <| AD (Does.tB (T_s_l10List x0.f1 (0 : Int) (23 : Int) h2) h3) <| AD (Does.tB (T_s_l10List x0.f2 (1 : Int) (31 : Int) h4) h5) <| AD (Does.tB (T_s_l10List x0.f3 (1 : Int) (12 : Int) h6) h7) <| AN)
theorem s_CronOk_P2 (x0 : GCron) (h0 : x0.f0.length ≤ 1050000) (h1 : (listOk x0.f0 (0 : Int) (59 : Int)) = true) (h2 : x0.f1.length ≤ 1050000) (h3 : (listOk x0.f1 (0 : Int) (23 : Int)) = true) (h4 : x0.f2.length ≤ 1050000) (h5 : (listOk x0.f2 (1 : Int) (31 : Int)) = false) : Does E 28 [.agg (GCron.t .far x0)] [(false, [tB false])] :=
  Does.path (fn := Try.f28) [rT, rT, rF] _ rfl (fun _ => rfl) (fun k => by kernel_rfl) (AD (Does.tB (T_s_l10List x0.f0 (0 : Int) (59 : Int) h0) h1) <| AD (Does.tB (T_s_l10List x0.f1 (0 : Int) (23 : Int) h2) h3) <| AD (Does.tB (T_s_l10List x0.f2 (1 : Int) (31 : Int) h4) h5) <| AN)
theorem s_CronOk_P3 (x0 : GCron) (h0 : x0.f0.length ≤ 1050000) (h1 : (listOk x0.f0 (0 : Int) (59 : Int)) = true) (h2 : x0.f1.length ≤ 1050000) (h3 : (listOk x0.f1 (0 : Int) (23 : Int)) = false) : Does E 28 [.agg (GCron.t .far x0)] [(false, [tB false])] :=
  Does.path (fn := Try.f28) [rT, rF] _ rfl (fun _ => rfl) (fun k => by kernel_rfl) (AD (Does.tB (T_s_l10List x0.f0 (0 : Int) (59 : Int) h0) h1) <| AD (Does.tB (T_s_l10List x0.f1 (0 : Int) (23 : Int) h2) h3) <| AN)
theorem s_CronOk_P4 (x0 : GCron) (h0 : x0.f0.length ≤ 1050000) (h1 : (listOk x0.f0 (0 : Int) (59 : Int)) = false) : Does E 28 [.agg (GCron.t .far x0)] [(false, [tB false])] :=
  Does.path (fn := Try.f28) [rF] _ rfl (fun _ => rfl) (fun k => by kernel_rfl) (AD (Does.tB (T_s_l10List x0.f0 (0 : Int) (59 : Int) h0) h1) <| AN)
noncomputable def s_CronOk_F (x0 : GCron) : Option (Bool) :=
    if x0.f0.length ≤ 1050000 then cond (listOk x0.f0 (0 : Int) (59 : Int))
      (if x0.f1.length ≤ 1050000 then cond (listOk x0.f1 (0 : Int) (23 : Int))
        (if x0.f2.length ≤ 1050000 then cond (listOk x0.f2 (1 : Int) (31 : Int))
          (if x0.f3.length ≤ 1050000 then cond (listOk x0.f3 (1 : Int) (12 : Int))
            (if x0.f4.length ≤ 1050000 then some (listOk x0.f4 (0 : Int) (6 : Int)) else none)
            (some (false)) else none)
          (some (false)) else none)
        (some (false)) else none)
      (some (false)) else none
theorem s_CronOk_D (x0 : GCron) : Ans (s_CronOk_F x0) (fun r => Does E 28 [.agg (GCron.t .far x0)] [(false, [tB r])]) := by
  unfold s_CronOk_F
  refine Ans.pre (fun h0 => ?_)
  refine Ans.ite (fun h1 => ?_) (fun h1 => ?_)
  · refine Ans.pre (fun h2 => ?_)
    refine Ans.ite (fun h3 => ?_) (fun h3 => ?_)
    · refine Ans.pre (fun h4 => ?_)
      refine Ans.ite (fun h5 => ?_) (fun h5 => ?_)
      · refine Ans.pre (fun h6 => ?_)
        refine Ans.ite (fun h7 => ?_) (fun h7 => ?_)
        · refine Ans.pre (fun h8 => ?_)
          exact Ans.some (s_CronOk_P0 x0 h0 h1 h2 h3 h4 h5 h6 h7 h8)
        · exact Ans.some (s_CronOk_P1 x0 h0 h1 h2 h3 h4 h5 h6 h7)
      · exact Ans.some (s_CronOk_P2 x0 h0 h1 h2 h3 h4 h5)
    · exact Ans.some (s_CronOk_P3 x0 h0 h1 h2 h3)
  · exact Ans.some (s_CronOk_P4 x0 h0 h1)
def cronOk (c : GCron) : Bool := listOk c.f0 0 59 && (listOk c.f1 0 23 && (listOk c.f2 1 31 && (listOk c.f3 1 12 && listOk c.f4 0 6)))
theorem T_s_CronOk (x0 : GCron) (h : Small.sm x0) : Does E 28 [.agg (GCron.t .far x0)] [(false, [tB (cronOk x0)])] := by
  exact s_CronOk_D x0 _ (by
    have h0 := h.1.1
    have h1 := h.2.1.1
    have h2 := h.2.2.1.1
    have h3 := h.2.2.2.1.1
    have h4 := h.2.2.2.2.1
    unfold s_CronOk_F cronOk
    simp only [h0, h1, h2, h3, h4, if_true]
    cases listOk x0.f0 0 59 <;> cases listOk x0.f1 0 23 <;> cases listOk x0.f2 1 31 <;> cases listOk x0.f3 1 12 <;> rfl)
theorem i_bounds_P0 (x0 : Int) (h0 : (x0 == (0 : Int)) = true) : Does E 38 [.one (tI x0)] [(false, [tI (0 : Int)]), (false, [tI (59 : Int)])] :=
  Does.path (fn := Try.f38) [.b true] _ rfl (fun _ => rfl) (fun k => by kernel_rfl) (AC h0 <| AN)
theorem i_bounds_P1 (x0 : Int) (h0 : (x0 == (0 : Int)) = false) (h1 : (x0 == (1 : Int)) = true) : Does E 38 [.one (tI x0)] [(false, [tI (0 : Int)]), (false, [tI (23 : Int)])] :=
  Does.path (fn := Try.f38) [.b false, .b true] _ rfl (fun _ => rfl) (fun k => by kernel_rfl) (AC h0 <| AC h1 <| AN)
theorem i_bounds_P2 (x0 : Int) (h0 : (x0 == (0 : Int)) = false) (h1 : (x0 == (1 : Int)) = false) (h2 : (x0 == (2 : Int)) = true) : Does E 38 [.one (tI x0)] [(false, [tI (1 : Int)]), (false, [tI (31 : Int)])] :=
  Does.path (fn := Try.f38) [.b false, .b false, .b true] _ rfl (fun _ => rfl) (fun k => by kernel_rfl) (AC h0 <| AC h1 <| AC h2 <| AN)
theorem i_bounds_P3 (x0 : Int) (h0 : (x0 == (0 : Int)) = false) (h1 : (x0 == (1 : Int)) = false) (h2 : (x0 == (2 : Int)) = false) (h3 : (x0 == (3 : Int)) = true) : Does E 38 [.one (tI x0)] [(false, [tI (1 : Int)]), (false, [tI (12 : Int)])] :=
  Does.path (fn := Try.f38) [.b false, .b false, .b false, .b true] _ rfl (fun _ => rfl) (fun k => by kernel_rfl) (AC h0 <| AC h1 <| AC h2 <| AC h3 <| AN)
theorem i_bounds_P4 (x0 : Int) (h0 : (x0 == (0 : Int)) = false) (h1 : (x0 == (1 : Int)) = false) (h2 : (x0 == (2 : Int)) = false) (h3 : (x0 == (3 : Int)) = false) : Does E 38 [.one (tI x0)] [(false, [tI (0 : Int)]), (false, [tI (6 : Int)])] :=
  Does.path (fn := Try.f38) [.b false, .b false, .b false, .b false] _ rfl (fun _ => rfl) (fun k => by kernel_rfl) (AC h0 <| AC h1 <| AC h2 <| AC h3 <| AN)
noncomputable def i_bounds_F (x0 : Int) : Option (Int × Int) :=
    cond (x0 == (0 : Int))
      (some ((0 : Int), (59 : Int)))
      (cond (x0 == (1 : Int))
        (some ((0 : Int), (23 : Int)))
        (cond (x0 == (2 : Int))
          (some ((1 : Int), (31 : Int)))
          (cond (x0 == (3 : Int))
            (some ((1 : Int), (12 : Int)))
            (some ((0 : Int), (6 : Int))))))
theorem i_bounds_D (x0 : Int) : Ans (i_bounds_F x0) (fun r => Does E 38 [.one (tI x0)] [(false, [tI r.1]), (false, [tI r.2])]) := by
  unfold i_bounds_F
  refine Ans.ite (fun h0 => ?_) (fun h0 => ?_)
  · exact Ans.some (i_bounds_P0 x0 h0)
  · refine Ans.ite (fun h1 => ?_) (fun h1 => ?_)
    · exact Ans.some (i_bounds_P1 x0 h0 h1)
    · refine Ans.ite (fun h2 => ?_) (fun h2 => ?_)
      · exact Ans.some (i_bounds_P2 x0 h0 h1 h2)
      · refine Ans.ite (fun h3 => ?_) (fun h3 => ?_)
        · exact Ans.some (i_bounds_P3 x0 h0 h1 h2 h3)
        · exact Ans.some (i_bounds_P4 x0 h0 h1 h2 h3)
noncomputable def bounds (x : Int) : Int × Int := (i_bounds_F x).getD (0, 6)
theorem T_i_bounds (x0 : Int) : Does E 38 [.one (tI x0)] [(false, [tI ((bounds x0).1)]), (false, [tI ((bounds x0).2)])] := by
  exact i_bounds_D x0 _ (by
    refine Tot.getD ?_ _
    unfold i_bounds_F
    repeat' (first | exact Tot.some _ | apply Tot.cond))
inductive i_CronOk_X1 where
  | ret (v2 : Bool)
  | x2 
def i_CronOk_Q1 (v1_0 : List Int) (v1_1 : List Int) (v1_2 : List Int) (v1_3 : List Int) (v1_4 : List Int) (v5 : Int) (v6 : Int) (v7 : List Int) (v11 : Int) (v23 : List Int) (v24 : Int) (v25 : Int) : i_CronOk_X1 → Prop
  | .ret zv2 => Loops E 25 (lpAt Try.f25 1) (stL 53 [(1, .box () [.s .far () 1 (v1_0.map etI), .s .far () 1 (v1_1.map etI), .s .far () 1 (v1_2.map etI), .s .far () 1 (v1_3.map etI), .s .far () 1 (v1_4.map etI)]), (5, .one (tI v5)), (6, .one (tI v6)), (7, .one (.s .far () 1 (v7.map etI))), (10, .clo (.arr [0, 1, 2, 3, 4]) [1, 1, 1, 1, 1]), (11, .one (tI v11)), (23, .one (.s .far () 1 (v23.map etI))), (24, .one (tI v24)), (25, .one (tI v25))]) .ret (stL 53 [(2, .one (tB zv2))])
  | .x2 => Loops E 25 (lpAt Try.f25 1) (stL 53 [(1, .box () [.s .far () 1 (v1_0.map etI), .s .far () 1 (v1_1.map etI), .s .far () 1 (v1_2.map etI), .s .far () 1 (v1_3.map etI), .s .far () 1 (v1_4.map etI)]), (5, .one (tI v5)), (6, .one (tI v6)), (7, .one (.s .far () 1 (v7.map etI))), (10, .clo (.arr [0, 1, 2, 3, 4]) [1, 1, 1, 1, 1]), (11, .one (tI v11)), (23, .one (.s .far () 1 (v23.map etI))), (24, .one (tI v24)), (25, .one (tI v25))]) (.exit 2) (stL 53 [(1, .box () [.s .far () 1 (v1_0.map etI), .s .far () 1 (v1_1.map etI), .s .far () 1 (v1_2.map etI), .s .far () 1 (v1_3.map etI), .s .far () 1 (v1_4.map etI)]), (7, .one (.s .far () 1 (v7.map etI))), (10, .clo (.arr [0, 1, 2, 3, 4]) [1, 1, 1, 1, 1]), (11, .one (tI v11))])
theorem i_CronOk_R1_0 (v1_0 : List Int) (v1_1 : List Int) (v1_2 : List Int) (v1_3 : List Int) (v1_4 : List Int) (v5 : Int) (v6 : Int) (v7 : List Int) (v11 : Int) (v23 : List Int) (v24 : Int) (v25 : Int) (g0 : Int) (g1 : Int) (h0 : (decide (v25 < v24)) = true) (h1 : getI v23 v25 = some g0) (h2 : (inRange g0 v5 v6) = true) (h3 : (decide (v25 > (0 : Int))) = true) (h4 : getI v7 (IntKind.wrap .i64 (v25 - (1 : Int))) = some g1) (h5 : (decide (g0 ≤ g1)) = true) : Round E 25 (lpAt Try.f25 1) (stL 53 [(1, .box () [.s .far () 1 (v1_0.map etI), .s .far () 1 (v1_1.map etI), .s .far () 1 (v1_2.map etI), .s .far () 1 (v1_3.map etI), .s .far () 1 (v1_4.map etI)]), (5, .one (tI v5)), (6, .one (tI v6)), (7, .one (.s .far () 1 (v7.map etI))), (10, .clo (.arr [0, 1, 2, 3, 4]) [1, 1, 1, 1, 1]), (11, .one (tI v11)), (23, .one (.s .far () 1 (v23.map etI))), (24, .one (tI v24)), (25, .one (tI v25))]) .ret (stL 53 [(2, .one (tB false))]) :=
  Round.path [.b true, .row (etI g0), rT, .b true, .row (etI g1), .b true] _ (fun k => by kernel_rfl) (AC h0 <| AV (ψ := fun _ => 0 ≤ v25 ∧ (v23.map etI)[v25.toNat]? = some (etI g0)) (Ev.c (getRow h1)) <| AD (Does.tB (T_i_inRange g0 v5 v6) h2) <| AC h3 <| AV (ψ := fun _ => 0 ≤ (IntKind.wrap .i64 (v25 - (1 : Int))) ∧ (v7.map etI)[(IntKind.wrap .i64 (v25 - (1 : Int))).toNat]? = some (etI g1)) (Ev.c (getRow h4)) <| AC h5 <| AN)
theorem i_CronOk_R1_1 (v1_0 : List Int) (v1_1 : List Int) (v1_2 : List Int) (v1_3 : List Int) (v1_4 : List Int) (v5 : Int) (v6 : Int) (v7 : List Int) (v11 : Int) (v23 : List Int) (v24 : Int) (v25 : Int) (g0 : Int) (g1 : Int) (h0 : (decide (v25 < v24)) = true) (h1 : getI v23 v25 = some g0) (h2 : (inRange g0 v5 v6) = true) (h3 : (decide (v25 > (0 : Int))) = true) (h4 : getI v7 (IntKind.wrap .i64 (v25 - (1 : Int))) = some g1) (h5 : (decide (g0 ≤ g1)) = false) : Round E 25 (lpAt Try.f25 1) (stL 53 [(1, .box () [.s .far () 1 (v1_0.map etI), .s .far () 1 (v1_1.map etI), .s .far () 1 (v1_2.map etI), .s .far () 1 (v1_3.map etI), .s .far () 1 (v1_4.map etI)]), (5, .one (tI v5)), (6, .one (tI v6)), (7, .one (.s .far () 1 (v7.map etI))), (10, .clo (.arr [0, 1, 2, 3, 4]) [1, 1, 1, 1, 1]), (11, .one (tI v11)), (23, .one (.s .far () 1 (v23.map etI))), (24, .one (tI v24)), (25, .one (tI v25))]) .normal (stL 53 [(1, .box () [.s .far () 1 (v1_0.map etI), .s .far () 1 (v1_1.map etI), .s .far () 1 (v1_2.map etI), .s .far () 1 (v1_3.map etI), .s .far () 1 (v1_4.map etI)]), (5, .one (tI v5)), (6, .one (tI v6)), (7, .one (.s .far () 1 (v7.map etI))), (10, .clo (.arr [0, 1, 2, 3, 4]) [1, 1, 1, 1, 1]), (11, .one (tI v11)), (23, .one (.s .far () 1 (v23.map etI))), (24, .one (tI v24)), (25, .one (tI (inc v25)))]) :=
  Round.path [.b true, .row (etI g0), rT, .b true, .row (etI g1), .b false] _ (fun k => by kernel_rfl) (AC h0 <| AV (ψ := fun _ => 0 ≤ v25 ∧ (v23.map etI)[v25.toNat]? = some (etI g0)) (Ev.c (getRow h1)) <| AD (Does.tB (T_i_inRange g0 v5 v6) h2) <| AC h3 <| AV (ψ := fun _ => 0 ≤ (IntKind.wrap .i64 (v25 - (1 : Int))) ∧ (v7.map etI)[(IntKind.wrap .i64 (v25 - (1 : Int))).toNat]? = some (etI g1)) (Ev.c (getRow h4)) <| AC h5 <| AN)
theorem i_CronOk_R1_2 (v1_0 : List Int) (v1_1 : List Int) (v1_2 : List Int) (v1_3 : List Int) (v1_4 : List Int) (v5 : Int) (v6 : Int) (v7 : List Int) (v11 : Int) (v23 : List Int) (v24 : Int) (v25 : Int) (g0 : Int) (h0 : (decide (v25 < v24)) = true) (h1 : getI v23 v25 = some g0) (h2 : (inRange g0 v5 v6) = true) (h3 : (decide (v25 > (0 : Int))) = false) : Round E 25 (lpAt Try.f25 1) (stL 53 [(1, .box () [.s .far () 1 (v1_0.map etI), .s .far () 1 (v1_1.map etI), .s .far () 1 (v1_2.map etI), .s .far () 1 (v1_3.map etI), .s .far () 1 (v1_4.map etI)]), (5, .one (tI v5)), (6, .one (tI v6)), (7, .one (.s .far () 1 (v7.map etI))), (10, .clo (.arr [0, 1, 2, 3, 4]) [1, 1, 1, 1, 1]), (11, .one (tI v11)), (23, .one (.s .far () 1 (v23.map etI))), (24, .one (tI v24)), (25, .one (tI v25))]) .normal (stL 53 [(1, .box () [.s .far () 1 (v1_0.map etI), .s .far () 1 (v1_1.map etI), .s .far () 1 (v1_2.map etI), .s .far () 1 (v1_3.map etI), .s .far () 1 (v1_4.map etI)]), (5, .one (tI v5)), (6, .one (tI v6)), (7, .one (.s .far () 1 (v7.map etI))), (10, .clo (.arr [0, 1, 2, 3, 4]) [1, 1, 1, 1, 1]), (11, .one (tI v11)), (23, .one (.s .far () 1 (v23.map etI))), (24, .one (tI v24)), (25, .one (tI (inc v25)))]) :=
  Round.path [.b true, .row (etI g0), rT, .b false] _ (fun k => by kernel_rfl) (AC h0 <| AV (ψ := fun _ => 0 ≤ v25 ∧ (v23.map etI)[v25.toNat]? = some (etI g0)) (Ev.c (getRow h1)) <| AD (Does.tB (T_i_inRange g0 v5 v6) h2) <| AC h3 <| AN)
theorem i_CronOk_R1_3 (v1_0 : List Int) (v1_1 : List Int) (v1_2 : List Int) (v1_3 : List Int) (v1_4 : List Int) (v5 : Int) (v6 : Int) (v7 : List Int) (v11 : Int) (v23 : List Int) (v24 : Int) (v25 : Int) (g0 : Int) (h0 : (decide (v25 < v24)) = true) (h1 : getI v23 v25 = some g0) (h2 : (inRange g0 v5 v6) = false) : Round E 25 (lpAt Try.f25 1) (stL 53 [(1, .box () [.s .far () 1 (v1_0.map etI), .s .far () 1 (v1_1.map etI), .s .far () 1 (v1_2.map etI), .s .far () 1 (v1_3.map etI), .s .far () 1 (v1_4.map etI)]), (5, .one (tI v5)), (6, .one (tI v6)), (7, .one (.s .far () 1 (v7.map etI))), (10, .clo (.arr [0, 1, 2, 3, 4]) [1, 1, 1, 1, 1]), (11, .one (tI v11)), (23, .one (.s .far () 1 (v23.map etI))), (24, .one (tI v24)), (25, .one (tI v25))]) .ret (stL 53 [(2, .one (tB false))]) :=
  Round.path [.b true, .row (etI g0), rF] _ (fun k => by kernel_rfl) (AC h0 <| AV (ψ := fun _ => 0 ≤ v25 ∧ (v23.map etI)[v25.toNat]? = some (etI g0)) (Ev.c (getRow h1)) <| AD (Does.tB (T_i_inRange g0 v5 v6) h2) <| AN)
theorem i_CronOk_R1_4 (v1_0 : List Int) (v1_1 : List Int) (v1_2 : List Int) (v1_3 : List Int) (v1_4 : List Int) (v5 : Int) (v6 : Int) (v7 : List Int) (v11 : Int) (v23 : List Int) (v24 : Int) (v25 : Int) (h0 : (decide (v25 < v24)) = false) : Round E 25 (lpAt Try.f25 1) (stL 53 [(1, .box () [.s .far () 1 (v1_0.map etI), .s .far () 1 (v1_1.map etI), .s .far () 1 (v1_2.map etI), .s .far () 1 (v1_3.map etI), .s .far () 1 (v1_4.map etI)]), (5, .one (tI v5)), (6, .one (tI v6)), (7, .one (.s .far () 1 (v7.map etI))), (10, .clo (.arr [0, 1, 2, 3, 4]) [1, 1, 1, 1, 1]), (11, .one (tI v11)), (23, .one (.s .far () 1 (v23.map etI))), (24, .one (tI v24)), (25, .one (tI v25))]) (.exit 2) (stL 53 [(1, .box () [.s .far () 1 (v1_0.map etI), .s .far () 1 (v1_1.map etI), .s .far () 1 (v1_2.map etI), .s .far () 1 (v1_3.map etI), .s .far () 1 (v1_4.map etI)]), (7, .one (.s .far () 1 (v7.map etI))), (10, .clo (.arr [0, 1, 2, 3, 4]) [1, 1, 1, 1, 1]), (11, .one (tI v11))]) :=
  Round.path [.b false] _ (fun k => by kernel_rfl) (AC h0 <| AN)
noncomputable def i_CronOk_l1 (v5 : Int) (v6 : Int) (v7 : List Int) : List Int → Nat → Option i_CronOk_X1
  | [], i => some (.x2)
  | hd :: rest, i => cond (inRange hd v5 v6)
    (cond (decide ((i : Int) > (0 : Int)))
      ((getI v7 (IntKind.wrap .i64 ((i : Int) - (1 : Int)))).bind fun g1 => cond (decide (hd ≤ g1))
        (some (.ret false))
        (i_CronOk_l1 v5 v6 v7 rest (i + 1)))
      (i_CronOk_l1 v5 v6 v7 rest (i + 1)))
    (some (.ret false))
theorem i_CronOk_L1 (v1_0 : List Int) (v1_1 : List Int) (v1_2 : List Int) (v1_3 : List Int) (v1_4 : List Int) (v5 : Int) (v6 : Int) (v7 : List Int) (v11 : Int) (v23 : List Int) (rest : List Int) : ∀ (i : Nat) , (v23).drop i = rest → v23.length ≤ 9223372036854775807 → Ans (i_CronOk_l1 v5 v6 v7 rest i) (i_CronOk_Q1 v1_0 v1_1 v1_2 v1_3 v1_4 v5 v6 v7 v11 v23 (v23.length : Int) (i : Int)) := by
  induction rest with
  | nil =>
    intro i hE hl
    have hb := foldEnd hE
    unfold i_CronOk_l1
    exact Ans.some (Loops.stop (i_CronOk_R1_4 v1_0 v1_1 v1_2 v1_3 v1_4 v5 v6 v7 v11 v23 (v23.length : Int) (i : Int) hb) (by intro h; cases h))
  | cons hd rest ih =>
    intro i hE hl
    have hb := foldMore hE
    have hw := foldNext hE hl
    have hE2 := foldRest hE
    have hg := foldGet hE
    unfold i_CronOk_l1
    refine Ans.ite (fun h2 => ?_) (fun h2 => ?_)
    · refine Ans.ite (fun h3 => ?_) (fun h3 => ?_)
      · refine Ans.bind (fun g1 h4 => ?_)
        refine Ans.ite (fun h5 => ?_) (fun h5 => ?_)
        · exact Ans.some (Loops.stop (i_CronOk_R1_0 v1_0 v1_1 v1_2 v1_3 v1_4 v5 v6 v7 v11 v23 (v23.length : Int) (i : Int) hd g1 hb hg h2 h3 h4 h5) (by intro h; cases h))
        · exact (ih (i + 1) hE2 hl).mono fun y hy => by have r := i_CronOk_R1_1 v1_0 v1_1 v1_2 v1_3 v1_4 v5 v6 v7 v11 v23 (v23.length : Int) (i : Int) hd g1 hb hg h2 h3 h4 h5; rw [hw] at r; cases y <;> exact Loops.next r hy
      · exact (ih (i + 1) hE2 hl).mono fun y hy => by have r := i_CronOk_R1_2 v1_0 v1_1 v1_2 v1_3 v1_4 v5 v6 v7 v11 v23 (v23.length : Int) (i : Int) hd hb hg h2 h3; rw [hw] at r; cases y <;> exact Loops.next r hy
    · exact Ans.some (Loops.stop (i_CronOk_R1_3 v1_0 v1_1 v1_2 v1_3 v1_4 v5 v6 v7 v11 v23 (v23.length : Int) (i : Int) hd hb hg h2) (by intro h; cases h))
inductive i_CronOk_X0 where
  | ret (v2 : Bool)
  | x0 
def i_CronOk_Q0 (v1_0 : List Int) (v1_1 : List Int) (v1_2 : List Int) (v1_3 : List Int) (v1_4 : List Int) (v11 : Int) : i_CronOk_X0 → Prop
  | .ret zv2 => Loops E 25 (lpAt Try.f25 0) (stL 53 [(1, .box () [.s .far () 1 (v1_0.map etI), .s .far () 1 (v1_1.map etI), .s .far () 1 (v1_2.map etI), .s .far () 1 (v1_3.map etI), .s .far () 1 (v1_4.map etI)]), (10, .clo (.arr [0, 1, 2, 3, 4]) [1, 1, 1, 1, 1]), (11, .one (tI v11))]) .ret (stL 53 [(2, .one (tB zv2))])
  | .x0 => Loops E 25 (lpAt Try.f25 0) (stL 53 [(1, .box () [.s .far () 1 (v1_0.map etI), .s .far () 1 (v1_1.map etI), .s .far () 1 (v1_2.map etI), .s .far () 1 (v1_3.map etI), .s .far () 1 (v1_4.map etI)]), (10, .clo (.arr [0, 1, 2, 3, 4]) [1, 1, 1, 1, 1]), (11, .one (tI v11))]) (.exit 0) (stL 53 [])
theorem i_CronOk_R0_0 (v1_0 : List Int) (v1_1 : List Int) (v1_2 : List Int) (v1_3 : List Int) (v1_4 : List Int) (v11 : Int) (w0_2 : Bool) (h0 : (decide (v11 < (5 : Int))) = true) (h1 : (v11 == (0 : Int)) = true) (h2 : Loops E 25 (lpAt Try.f25 1) (stL 53 [(1, .box () [.s .far () 1 (v1_0.map etI), .s .far () 1 (v1_1.map etI), .s .far () 1 (v1_2.map etI), .s .far () 1 (v1_3.map etI), .s .far () 1 (v1_4.map etI)]), (5, .one (tI ((bounds v11).1))), (6, .one (tI ((bounds v11).2))), (7, .one (.s .far () 1 (v1_0.map etI))), (10, .clo (.arr [0, 1, 2, 3, 4]) [1, 1, 1, 1, 1]), (11, .one (tI v11)), (23, .one (.s .far () 1 (v1_0.map etI))), (24, .one (tI (v1_0.length : Int))), (25, .one (tI (0 : Int)))]) .ret (stL 53 [(2, .one (tB w0_2))])) : Round E 25 (lpAt Try.f25 0) (stL 53 [(1, .box () [.s .far () 1 (v1_0.map etI), .s .far () 1 (v1_1.map etI), .s .far () 1 (v1_2.map etI), .s .far () 1 (v1_3.map etI), .s .far () 1 (v1_4.map etI)]), (10, .clo (.arr [0, 1, 2, 3, 4]) [1, 1, 1, 1, 1]), (11, .one (tI v11))]) .ret (stL 53 [(2, .one (tB w0_2))]) :=
  Round.path [.b true, .val (.int .i64 0), .ret [(false, [tI ((bounds v11).1)]), (false, [tI ((bounds v11).2)])], .val (.int .i64 (v1_0.length : Int)), .lp .ret (stL 53 [(2, .one (tB w0_2))])] _ (fun k => by kernel_rfl) (AC h0 <| AV (ψ := fun _ => v11 = (0 : Int)) (Ev.c (eq_of_beq h1)) <| AD (T_i_bounds v11) <| AV (ψ := fun _ => ((v1_0.map etI).length : Int) = (v1_0.length : Int)) (Ev.c lenMap) <| AV (ψ := fun k => LoopK E 25 (lpAt Try.f25 1) (stL 53 [(1, .box () [.s .far () 1 (v1_0.map etI), .s .far () 1 (v1_1.map etI), .s .far () 1 (v1_2.map etI), .s .far () 1 (v1_3.map etI), .s .far () 1 (v1_4.map etI)]), (5, .one (tI ((bounds v11).1))), (6, .one (tI ((bounds v11).2))), (7, .one (.s .far () 1 (v1_0.map etI))), (10, .clo (.arr [0, 1, 2, 3, 4]) [1, 1, 1, 1, 1]), (11, .one (tI v11)), (23, .one (.s .far () 1 (v1_0.map etI))), (24, .one (tI (v1_0.length : Int))), (25, .one (tI (0 : Int)))]) .ret (stL 53 [(2, .one (tB w0_2))]) k k) (Loops.ev h2) <| AN)
theorem i_CronOk_R0_1 (v1_0 : List Int) (v1_1 : List Int) (v1_2 : List Int) (v1_3 : List Int) (v1_4 : List Int) (v11 : Int) (h0 : (decide (v11 < (5 : Int))) = true) (h1 : (v11 == (0 : Int)) = true) (h2 : Loops E 25 (lpAt Try.f25 1) (stL 53 [(1, .box () [.s .far () 1 (v1_0.map etI), .s .far () 1 (v1_1.map etI), .s .far () 1 (v1_2.map etI), .s .far () 1 (v1_3.map etI), .s .far () 1 (v1_4.map etI)]), (5, .one (tI ((bounds v11).1))), (6, .one (tI ((bounds v11).2))), (7, .one (.s .far () 1 (v1_0.map etI))), (10, .clo (.arr [0, 1, 2, 3, 4]) [1, 1, 1, 1, 1]), (11, .one (tI v11)), (23, .one (.s .far () 1 (v1_0.map etI))), (24, .one (tI (v1_0.length : Int))), (25, .one (tI (0 : Int)))]) (.exit 2) (stL 53 [(1, .box () [.s .far () 1 (v1_0.map etI), .s .far () 1 (v1_1.map etI), .s .far () 1 (v1_2.map etI), .s .far () 1 (v1_3.map etI), .s .far () 1 (v1_4.map etI)]), (7, .one (.s .far () 1 (v1_0.map etI))), (10, .clo (.arr [0, 1, 2, 3, 4]) [1, 1, 1, 1, 1]), (11, .one (tI v11))])) (h3 : ((v1_0.length : Int) == (0 : Int)) = true) : Round E 25 (lpAt Try.f25 0) (stL 53 [(1, .box () [.s .far () 1 (v1_0.map etI), .s .far () 1 (v1_1.map etI), .s .far () 1 (v1_2.map etI), .s .far () 1 (v1_3.map etI), .s .far () 1 (v1_4.map etI)]), (10, .clo (.arr [0, 1, 2, 3, 4]) [1, 1, 1, 1, 1]), (11, .one (tI v11))]) .ret (stL 53 [(2, .one (tB false))]) :=
  Round.path [.b true, .val (.int .i64 0), .ret [(false, [tI ((bounds v11).1)]), (false, [tI ((bounds v11).2)])], .val (.int .i64 (v1_0.length : Int)), .lp (.exit 2) (stL 53 [(1, .box () [.s .far () 1 (v1_0.map etI), .s .far () 1 (v1_1.map etI), .s .far () 1 (v1_2.map etI), .s .far () 1 (v1_3.map etI), .s .far () 1 (v1_4.map etI)]), (7, .one (.s .far () 1 (v1_0.map etI))), (10, .clo (.arr [0, 1, 2, 3, 4]) [1, 1, 1, 1, 1]), (11, .one (tI v11))]), .val (.int .i64 (v1_0.length : Int)), .b true] _ (fun k => by kernel_rfl) (AC h0 <| AV (ψ := fun _ => v11 = (0 : Int)) (Ev.c (eq_of_beq h1)) <| AD (T_i_bounds v11) <| AV (ψ := fun _ => ((v1_0.map etI).length : Int) = (v1_0.length : Int)) (Ev.c lenMap) <| AV (ψ := fun k => LoopK E 25 (lpAt Try.f25 1) (stL 53 [(1, .box () [.s .far () 1 (v1_0.map etI), .s .far () 1 (v1_1.map etI), .s .far () 1 (v1_2.map etI), .s .far () 1 (v1_3.map etI), .s .far () 1 (v1_4.map etI)]), (5, .one (tI ((bounds v11).1))), (6, .one (tI ((bounds v11).2))), (7, .one (.s .far () 1 (v1_0.map etI))), (10, .clo (.arr [0, 1, 2, 3, 4]) [1, 1, 1, 1, 1]), (11, .one (tI v11)), (23, .one (.s .far () 1 (v1_0.map etI))), (24, .one (tI (v1_0.length : Int))), (25, .one (tI (0 : Int)))]) (.exit 2) (stL 53 [(1, .box () [.s .far () 1 (v1_0.map etI), .s .far () 1 (v1_1.map etI), .s .far () 1 (v1_2.map etI), .s .far () 1 (v1_3.map etI), .s .far () 1 (v1_4.map etI)]), (7, .one (.s .far () 1 (v1_0.map etI))), (10, .clo (.arr [0, 1, 2, 3, 4]) [1, 1, 1, 1, 1]), (11, .one (tI v11))]) k k) (Loops.ev h2) <| AV (ψ := fun _ => ((v1_0.map etI).length : Int) = (v1_0.length : Int)) (Ev.c lenMap) <| AC h3 <| AN)
theorem i_CronOk_R0_2 (v1_0 : List Int) (v1_1 : List Int) (v1_2 : List Int) (v1_3 : List Int) (v1_4 : List Int) (v11 : Int) (h0 : (decide (v11 < (5 : Int))) = true) (h1 : (v11 == (0 : Int)) = true) (h2 : Loops E 25 (lpAt Try.f25 1) (stL 53 [(1, .box () [.s .far () 1 (v1_0.map etI), .s .far () 1 (v1_1.map etI), .s .far () 1 (v1_2.map etI), .s .far () 1 (v1_3.map etI), .s .far () 1 (v1_4.map etI)]), (5, .one (tI ((bounds v11).1))), (6, .one (tI ((bounds v11).2))), (7, .one (.s .far () 1 (v1_0.map etI))), (10, .clo (.arr [0, 1, 2, 3, 4]) [1, 1, 1, 1, 1]), (11, .one (tI v11)), (23, .one (.s .far () 1 (v1_0.map etI))), (24, .one (tI (v1_0.length : Int))), (25, .one (tI (0 : Int)))]) (.exit 2) (stL 53 [(1, .box () [.s .far () 1 (v1_0.map etI), .s .far () 1 (v1_1.map etI), .s .far () 1 (v1_2.map etI), .s .far () 1 (v1_3.map etI), .s .far () 1 (v1_4.map etI)]), (7, .one (.s .far () 1 (v1_0.map etI))), (10, .clo (.arr [0, 1, 2, 3, 4]) [1, 1, 1, 1, 1]), (11, .one (tI v11))])) (h3 : ((v1_0.length : Int) == (0 : Int)) = false) : Round E 25 (lpAt Try.f25 0) (stL 53 [(1, .box () [.s .far () 1 (v1_0.map etI), .s .far () 1 (v1_1.map etI), .s .far () 1 (v1_2.map etI), .s .far () 1 (v1_3.map etI), .s .far () 1 (v1_4.map etI)]), (10, .clo (.arr [0, 1, 2, 3, 4]) [1, 1, 1, 1, 1]), (11, .one (tI v11))]) .normal (stL 53 [(1, .box () [.s .far () 1 (v1_0.map etI), .s .far () 1 (v1_1.map etI), .s .far () 1 (v1_2.map etI), .s .far () 1 (v1_3.map etI), .s .far () 1 (v1_4.map etI)]), (10, .clo (.arr [0, 1, 2, 3, 4]) [1, 1, 1, 1, 1]), (11, .one (tI (inc v11)))]) :=
  Round.path [.b true, .val (.int .i64 0), .ret [(false, [tI ((bounds v11).1)]), (false, [tI ((bounds v11).2)])], .val (.int .i64 (v1_0.length : Int)), .lp (.exit 2) (stL 53 [(1, .box () [.s .far () 1 (v1_0.map etI), .s .far () 1 (v1_1.map etI), .s .far () 1 (v1_2.map etI), .s .far () 1 (v1_3.map etI), .s .far () 1 (v1_4.map etI)]), (7, .one (.s .far () 1 (v1_0.map etI))), (10, .clo (.arr [0, 1, 2, 3, 4]) [1, 1, 1, 1, 1]), (11, .one (tI v11))]), .val (.int .i64 (v1_0.length : Int)), .b false] _ (fun k => by kernel_rfl) (AC h0 <| AV (ψ := fun _ => v11 = (0 : Int)) (Ev.c (eq_of_beq h1)) <| AD (T_i_bounds v11) <| AV (ψ := fun _ => ((v1_0.map etI).length : Int) = (v1_0.length : Int)) (Ev.c lenMap) <| AV (ψ := fun k => LoopK E 25 (lpAt Try.f25 1) (stL 53 [(1, .box () [.s .far () 1 (v1_0.map etI), .s .far () 1 (v1_1.map etI), .s .far () 1 (v1_2.map etI), .s .far () 1 (v1_3.map etI), .s .far () 1 (v1_4.map etI)]), (5, .one (tI ((bounds v11).1))), (6, .one (tI ((bounds v11).2))), (7, .one (.s .far () 1 (v1_0.map etI))), (10, .clo (.arr [0, 1, 2, 3, 4]) [1, 1, 1, 1, 1]), (11, .one (tI v11)), (23, .one (.s .far () 1 (v1_0.map etI))), (24, .one (tI (v1_0.length : Int))), (25, .one (tI (0 : Int)))]) (.exit 2) (stL 53 [(1, .box () [.s .far () 1 (v1_0.map etI), .s .far () 1 (v1_1.map etI), .s .far () 1 (v1_2.map etI), .s .far () 1 (v1_3.map etI), .s .far () 1 (v1_4.map etI)]), (7, .one (.s .far () 1 (v1_0.map etI))), (10, .clo (.arr [0, 1, 2, 3, 4]) [1, 1, 1, 1, 1]), (11, .one (tI v11))]) k k) (Loops.ev h2) <| AV (ψ := fun _ => ((v1_0.map etI).length : Int) = (v1_0.length : Int)) (Ev.c lenMap) <| AC h3 <| AN)
theorem i_CronOk_R0_3 (v1_0 : List Int) (v1_1 : List Int) (v1_2 : List Int) (v1_3 : List Int) (v1_4 : List Int) (v11 : Int) (w0_2 : Bool) (h0 : (decide (v11 < (5 : Int))) = true) (h1 : (v11 == (0 : Int)) = false) (h2 : (v11 == (1 : Int)) = true) (h3 : Loops E 25 (lpAt Try.f25 1) (stL 53 [(1, .box () [.s .far () 1 (v1_0.map etI), .s .far () 1 (v1_1.map etI), .s .far () 1 (v1_2.map etI), .s .far () 1 (v1_3.map etI), .s .far () 1 (v1_4.map etI)]), (5, .one (tI ((bounds v11).1))), (6, .one (tI ((bounds v11).2))), (7, .one (.s .far () 1 (v1_1.map etI))), (10, .clo (.arr [0, 1, 2, 3, 4]) [1, 1, 1, 1, 1]), (11, .one (tI v11)), (23, .one (.s .far () 1 (v1_1.map etI))), (24, .one (tI (v1_1.length : Int))), (25, .one (tI (0 : Int)))]) .ret (stL 53 [(2, .one (tB w0_2))])) : Round E 25 (lpAt Try.f25 0) (stL 53 [(1, .box () [.s .far () 1 (v1_0.map etI), .s .far () 1 (v1_1.map etI), .s .far () 1 (v1_2.map etI), .s .far () 1 (v1_3.map etI), .s .far () 1 (v1_4.map etI)]), (10, .clo (.arr [0, 1, 2, 3, 4]) [1, 1, 1, 1, 1]), (11, .one (tI v11))]) .ret (stL 53 [(2, .one (tB w0_2))]) :=
  Round.path [.b true, .val (.int .i64 1), .ret [(false, [tI ((bounds v11).1)]), (false, [tI ((bounds v11).2)])], .val (.int .i64 (v1_1.length : Int)), .lp .ret (stL 53 [(2, .one (tB w0_2))])] _ (fun k => by kernel_rfl) (AC h0 <| AV (ψ := fun _ => v11 = (1 : Int)) (Ev.c (eq_of_beq h2)) <| AD (T_i_bounds v11) <| AV (ψ := fun _ => ((v1_1.map etI).length : Int) = (v1_1.length : Int)) (Ev.c lenMap) <| AV (ψ := fun k => LoopK E 25 (lpAt Try.f25 1) (stL 53 [(1, .box () [.s .far () 1 (v1_0.map etI), .s .far () 1 (v1_1.map etI), .s .far () 1 (v1_2.map etI), .s .far () 1 (v1_3.map etI), .s .far () 1 (v1_4.map etI)]), (5, .one (tI ((bounds v11).1))), (6, .one (tI ((bounds v11).2))), (7, .one (.s .far () 1 (v1_1.map etI))), (10, .clo (.arr [0, 1, 2, 3, 4]) [1, 1, 1, 1, 1]), (11, .one (tI v11)), (23, .one (.s .far () 1 (v1_1.map etI))), (24, .one (tI (v1_1.length : Int))), (25, .one (tI (0 : Int)))]) .ret (stL 53 [(2, .one (tB w0_2))]) k k) (Loops.ev h3) <| AN)
theorem i_CronOk_R0_4 (v1_0 : List Int) (v1_1 : List Int) (v1_2 : List Int) (v1_3 : List Int) (v1_4 : List Int) (v11 : Int) (h0 : (decide (v11 < (5 : Int))) = true) (h1 : (v11 == (0 : Int)) = false) (h2 : (v11 == (1 : Int)) = true) (h3 : Loops E 25 (lpAt Try.f25 1) (stL 53 [(1, .box () [.s .far () 1 (v1_0.map etI), .s .far () 1 (v1_1.map etI), .s .far () 1 (v1_2.map etI), .s .far () 1 (v1_3.map etI), .s .far () 1 (v1_4.map etI)]), (5, .one (tI ((bounds v11).1))), (6, .one (tI ((bounds v11).2))), (7, .one (.s .far () 1 (v1_1.map etI))), (10, .clo (.arr [0, 1, 2, 3, 4]) [1, 1, 1, 1, 1]), (11, .one (tI v11)), (23, .one (.s .far () 1 (v1_1.map etI))), (24, .one (tI (v1_1.length : Int))), (25, .one (tI (0 : Int)))]) (.exit 2) (stL 53 [(1, .box () [.s .far () 1 (v1_0.map etI), .s .far () 1 (v1_1.map etI), .s .far () 1 (v1_2.map etI), .s .far () 1 (v1_3.map etI), .s .far () 1 (v1_4.map etI)]), (7, .one (.s .far () 1 (v1_1.map etI))), (10, .clo (.arr [0, 1, 2, 3, 4]) [1, 1, 1, 1, 1]), (11, .one (tI v11))])) (h4 : ((v1_1.length : Int) == (0 : Int)) = true) : Round E 25 (lpAt Try.f25 0) (stL 53 [(1, .box () [.s .far () 1 (v1_0.map etI), .s .far () 1 (v1_1.map etI), .s .far () 1 (v1_2.map etI), .s .far () 1 (v1_3.map etI), .s .far () 1 (v1_4.map etI)]), (10, .clo (.arr [0, 1, 2, 3, 4]) [1, 1, 1, 1, 1]), (11, .one (tI v11))]) .ret (stL 53 [(2, .one (tB false))]) :=
  Round.path [.b true, .val (.int .i64 1), .ret [(false, [tI ((bounds v11).1)]), (false, [tI ((bounds v11).2)])], .val (.int .i64 (v1_1.length : Int)), .lp (.exit 2) (stL 53 [(1, .box () [.s .far () 1 (v1_0.map etI), .s .far () 1 (v1_1.map etI), .s .far () 1 (v1_2.map etI), .s .far () 1 (v1_3.map etI), .s .far () 1 (v1_4.map etI)]), (7, .one (.s .far () 1 (v1_1.map etI))), (10, .clo (.arr [0, 1, 2, 3, 4]) [1, 1, 1, 1, 1]), (11, .one (tI v11))]), .val (.int .i64 (v1_1.length : Int)), .b true] _ (fun k => by kernel_rfl) (AC h0 <| AV (ψ := fun _ => v11 = (1 : Int)) (Ev.c (eq_of_beq h2)) <| AD (T_i_bounds v11) <| AV (ψ := fun _ => ((v1_1.map etI).length : Int) = (v1_1.length : Int)) (Ev.c lenMap) <| AV (ψ := fun k => LoopK E 25 (lpAt Try.f25 1) (stL 53 [(1, .box () [.s .far () 1 (v1_0.map etI), .s .far () 1 (v1_1.map etI), .s .far () 1 (v1_2.map etI), .s .far () 1 (v1_3.map etI), .s .far () 1 (v1_4.map etI)]), (5, .one (tI ((bounds v11).1))), (6, .one (tI ((bounds v11).2))), (7, .one (.s .far () 1 (v1_1.map etI))), (10, .clo (.arr [0, 1, 2, 3, 4]) [1, 1, 1, 1, 1]), (11, .one (tI v11)), (23, .one (.s .far () 1 (v1_1.map etI))), (24, .one (tI (v1_1.length : Int))), (25, .one (tI (0 : Int)))]) (.exit 2) (stL 53 [(1, .box () [.s .far () 1 (v1_0.map etI), .s .far () 1 (v1_1.map etI), .s .far () 1 (v1_2.map etI), .s .far () 1 (v1_3.map etI), .s .far () 1 (v1_4.map etI)]), (7, .one (.s .far () 1 (v1_1.map etI))), (10, .clo (.arr [0, 1, 2, 3, 4]) [1, 1, 1, 1, 1]), (11, .one (tI v11))]) k k) (Loops.ev h3) <| AV (ψ := fun _ => ((v1_1.map etI).length : Int) = (v1_1.length : Int)) (Ev.c lenMap) <| AC h4 <| AN)
theorem i_CronOk_R0_5 (v1_0 : List Int) (v1_1 : List Int) (v1_2 : List Int) (v1_3 : List Int) (v1_4 : List Int) (v11 : Int) (h0 : (decide (v11 < (5 : Int))) = true) (h1 : (v11 == (0 : Int)) = false) (h2 : (v11 == (1 : Int)) = true) (h3 : Loops E 25 (lpAt Try.f25 1) (stL 53 [(1, .box () [.s .far () 1 (v1_0.map etI), .s .far () 1 (v1_1.map etI), .s .far () 1 (v1_2.map etI), .s .far () 1 (v1_3.map etI), .s .far () 1 (v1_4.map etI)]), (5, .one (tI ((bounds v11).1))), (6, .one (tI ((bounds v11).2))), (7, .one (.s .far () 1 (v1_1.map etI))), (10, .clo (.arr [0, 1, 2, 3, 4]) [1, 1, 1, 1, 1]), (11, .one (tI v11)), (23, .one (.s .far () 1 (v1_1.map etI))), (24, .one (tI (v1_1.length : Int))), (25, .one (tI (0 : Int)))]) (.exit 2) (stL 53 [(1, .box () [.s .far () 1 (v1_0.map etI), .s .far () 1 (v1_1.map etI), .s .far () 1 (v1_2.map etI), .s .far () 1 (v1_3.map etI), .s .far () 1 (v1_4.map etI)]), (7, .one (.s .far () 1 (v1_1.map etI))), (10, .clo (.arr [0, 1, 2, 3, 4]) [1, 1, 1, 1, 1]), (11, .one (tI v11))])) (h4 : ((v1_1.length : Int) == (0 : Int)) = false) : Round E 25 (lpAt Try.f25 0) (stL 53 [(1, .box () [.s .far () 1 (v1_0.map etI), .s .far () 1 (v1_1.map etI), .s .far () 1 (v1_2.map etI), .s .far () 1 (v1_3.map etI), .s .far () 1 (v1_4.map etI)]), (10, .clo (.arr [0, 1, 2, 3, 4]) [1, 1, 1, 1, 1]), (11, .one (tI v11))]) .normal (stL 53 [(1, .box () [.s .far () 1 (v1_0.map etI), .s .far () 1 (v1_1.map etI), .s .far () 1 (v1_2.map etI), .s .far () 1 (v1_3.map etI), .s .far () 1 (v1_4.map etI)]), (10, .clo (.arr [0, 1, 2, 3, 4]) [1, 1, 1, 1, 1]), (11, .one (tI (inc v11)))]) :=
  Round.path [.b true, .val (.int .i64 1), .ret [(false, [tI ((bounds v11).1)]), (false, [tI ((bounds v11).2)])], .val (.int .i64 (v1_1.length : Int)), .lp (.exit 2) (stL 53 [(1, .box () [.s .far () 1 (v1_0.map etI), .s .far () 1 (v1_1.map etI), .s .far () 1 (v1_2.map etI), .s .far () 1 (v1_3.map etI), .s .far () 1 (v1_4.map etI)]), (7, .one (.s .far () 1 (v1_1.map etI))), (10, .clo (.arr [0, 1, 2, 3, 4]) [1, 1, 1, 1, 1]), (11, .one (tI v11))]), .val (.int .i64 (v1_1.length : Int)), .b false] _ (fun k => by kernel_rfl) (AC h0 <| AV (ψ := fun _ => v11 = (1 : Int)) (Ev.c (eq_of_beq h2)) <| AD (T_i_bounds v11) <| AV (ψ := fun _ => ((v1_1.map etI).length : Int) = (v1_1.length : Int)) (Ev.c lenMap) <| AV (ψ := fun k => LoopK E 25 (lpAt Try.f25 1) (stL 53 [(1, .box () [.s .far () 1 (v1_0.map etI), .s .far () 1 (v1_1.map etI), .s .far () 1 (v1_2.map etI), .s .far () 1 (v1_3.map etI), .s .far () 1 (v1_4.map etI)]), (5, .one (tI ((bounds v11).1))), (6, .one (tI ((bounds v11).2))), (7, .one (.s .far () 1 (v1_1.map etI))), (10, .clo (.arr [0, 1, 2, 3, 4]) [1, 1, 1, 1, 1]), (11, .one (tI v11)), (23, .one (.s .far () 1 (v1_1.map etI))), (24, .one (tI (v1_1.length : Int))), (25, .one (tI (0 : Int)))]) (.exit 2) (stL 53 [(1, .box () [.s .far () 1 (v1_0.map etI), .s .far () 1 (v1_1.map etI), .s .far () 1 (v1_2.map etI), .s .far () 1 (v1_3.map etI), .s .far () 1 (v1_4.map etI)]), (7, .one (.s .far () 1 (v1_1.map etI))), (10, .clo (.arr [0, 1, 2, 3, 4]) [1, 1, 1, 1, 1]), (11, .one (tI v11))]) k k) (Loops.ev h3) <| AV (ψ := fun _ => ((v1_1.map etI).length : Int) = (v1_1.length : Int)) (Ev.c lenMap) <| AC h4 <| AN)
theorem i_CronOk_R0_6 (v1_0 : List Int) (v1_1 : List Int) (v1_2 : List Int) (v1_3 : List Int) (v1_4 : List Int) (v11 : Int) (w0_2 : Bool) (h0 : (decide (v11 < (5 : Int))) = true) (h1 : (v11 == (0 : Int)) = false) (h2 : (v11 == (1 : Int)) = false) (h3 : (v11 == (2 : Int)) = true) (h4 : Loops E 25 (lpAt Try.f25 1) (stL 53 [(1, .box () [.s .far () 1 (v1_0.map etI), .s .far () 1 (v1_1.map etI), .s .far () 1 (v1_2.map etI), .s .far () 1 (v1_3.map etI), .s .far () 1 (v1_4.map etI)]), (5, .one (tI ((bounds v11).1))), (6, .one (tI ((bounds v11).2))), (7, .one (.s .far () 1 (v1_2.map etI))), (10, .clo (.arr [0, 1, 2, 3, 4]) [1, 1, 1, 1, 1]), (11, .one (tI v11)), (23, .one (.s .far () 1 (v1_2.map etI))), (24, .one (tI (v1_2.length : Int))), (25, .one (tI (0 : Int)))]) .ret (stL 53 [(2, .one (tB w0_2))])) : Round E 25 (lpAt Try.f25 0) (stL 53 [(1, .box () [.s .far () 1 (v1_0.map etI), .s .far () 1 (v1_1.map etI), .s .far () 1 (v1_2.map etI), .s .far () 1 (v1_3.map etI), .s .far () 1 (v1_4.map etI)]), (10, .clo (.arr [0, 1, 2, 3, 4]) [1, 1, 1, 1, 1]), (11, .one (tI v11))]) .ret (stL 53 [(2, .one (tB w0_2))]) :=
  Round.path [.b true, .val (.int .i64 2), .ret [(false, [tI ((bounds v11).1)]), (false, [tI ((bounds v11).2)])], .val (.int .i64 (v1_2.length : Int)), .lp .ret (stL 53 [(2, .one (tB w0_2))])] _ (fun k => by kernel_rfl) (AC h0 <| AV (ψ := fun _ => v11 = (2 : Int)) (Ev.c (eq_of_beq h3)) <| AD (T_i_bounds v11) <| AV (ψ := fun _ => ((v1_2.map etI).length : Int) = (v1_2.length : Int)) (Ev.c lenMap) <| AV (ψ := fun k => LoopK E 25 (lpAt Try.f25 1) (stL 53 [(1, .box () [.s .far () 1 (v1_0.map etI), .s .far () 1 (v1_1.map etI), .s .far () 1 (v1_2.map etI), .s .far () 1 (v1_3.map etI), .s .far () 1 (v1_4.map etI)]), (5, .one (tI ((bounds v11).1))), (6, .one (tI ((bounds v11).2))), (7, .one (.s .far () 1 (v1_2.map etI))), (10, .clo (.arr [0, 1, 2, 3, 4]) [1, 1, 1, 1, 1]), (11, .one (tI v11)), (23, .one (.s .far () 1 (v1_2.map etI))), (24, .one (tI (v1_2.length : Int))), (25, .one (tI (0 : Int)))]) .ret (stL 53 [(2, .one (tB w0_2))]) k k) (Loops.ev h4) <| AN)
theorem i_CronOk_R0_7 (v1_0 : List Int) (v1_1 : List Int) (v1_2 : List Int) (v1_3 : List Int) (v1_4 : List Int) (v11 : Int) (h0 : (decide (v11 < (5 : Int))) = true) (h1 : (v11 == (0 : Int)) = false) (h2 : (v11 == (1 : Int)) = false) (h3 : (v11 == (2 : Int)) = true) (h4 : Loops E 25 (lpAt Try.f25 1) (stL 53 [(1, .box () [.s .far () 1 (v1_0.map etI), .s .far () 1 (v1_1.map etI), .s .far () 1 (v1_2.map etI), .s .far () 1 (v1_3.map etI), .s .far () 1 (v1_4.map etI)]), (5, .one (tI ((bounds v11).1))), (6, .one (tI ((bounds v11).2))), (7, .one (.s .far () 1 (v1_2.map etI))), (10, .clo (.arr [0, 1, 2, 3, 4]) [1, 1, 1, 1, 1]), (11, .one (tI v11)), (23, .one (.s .far () 1 (v1_2.map etI))), (24, .one (tI (v1_2.length : Int))), (25, .one (tI (0 : Int)))]) (.exit 2) (stL 53 [(1, .box () [.s .far () 1 (v1_0.map etI), .s .far () 1 (v1_1.map etI), .s .far () 1 (v1_2.map etI), .s .far () 1 (v1_3.map etI), .s .far () 1 (v1_4.map etI)]), (7, .one (.s .far () 1 (v1_2.map etI))), (10, .clo (.arr [0, 1, 2, 3, 4]) [1, 1, 1, 1, 1]), (11, .one (tI v11))])) (h5 : ((v1_2.length : Int) == (0 : Int)) = true) : Round E 25 (lpAt Try.f25 0) (stL 53 [(1, .box () [.s .far () 1 (v1_0.map etI), .s .far () 1 (v1_1.map etI), .s .far () 1 (v1_2.map etI), .s .far () 1 (v1_3.map etI), .s .far () 1 (v1_4.map etI)]), (10, .clo (.arr [0, 1, 2, 3, 4]) [1, 1, 1, 1, 1]), (11, .one (tI v11))]) .ret (stL 53 [(2, .one (tB false))]) :=
  Round.path [.b true, .val (.int .i64 2), .ret [(false, [tI ((bounds v11).1)]), (false, [tI ((bounds v11).2)])], .val (.int .i64 (v1_2.length : Int)), .lp (.exit 2) (stL 53 [(1, .box () [.s .far () 1 (v1_0.map etI), .s .far () 1 (v1_1.map etI), .s .far () 1 (v1_2.map etI), .s .far () 1 (v1_3.map etI), .s .far () 1 (v1_4.map etI)]), (7, .one (.s .far () 1 (v1_2.map etI))), (10, .clo (.arr [0, 1, 2, 3, 4]) [1, 1, 1, 1, 1]), (11, .one (tI v11))]), .val (.int .i64 (v1_2.length : Int)), .b true] _ (fun k => by kernel_rfl) (AC h0 <| AV (ψ := fun _ => v11 = (2 : Int)) (Ev.c (eq_of_beq h3)) <| AD (T_i_bounds v11) <| AV (ψ := fun _ => ((v1_2.map etI).length : Int) = (v1_2.length : Int)) (Ev.c lenMap) <| AV (ψ := fun k => LoopK E 25 (lpAt Try.f25 1) (stL 53 [(1, .box () [.s .far () 1 (v1_0.map etI), .s .far () 1 (v1_1.map etI), .s .far () 1 (v1_2.map etI), .s .far () 1 (v1_3.map etI), .s .far () 1 (v1_4.map etI)]), (5, .one (tI ((bounds v11).1))), (6, .one (tI ((bounds v11).2))), (7, .one (.s .far () 1 (v1_2.map etI))), (10, .clo (.arr [0, 1, 2, 3, 4]) [1, 1, 1, 1, 1]), (11, .one (tI v11)), (23, .one (.s .far () 1 (v1_2.map etI))), (24, .one (tI (v1_2.length : Int))), (25, .one (tI (0 : Int)))]) (.exit 2) (stL 53 [(1, .box () [.s .far () 1 (v1_0.map etI), .s .far () 1 (v1_1.map etI), .s .far () 1 (v1_2.map etI), .s .far () 1 (v1_3.map etI), .s .far () 1 (v1_4.map etI)]), (7, .one (.s .far () 1 (v1_2.map etI))), (10, .clo (.arr [0, 1, 2, 3, 4]) [1, 1, 1, 1, 1]), (11, .one (tI v11))]) k k) (Loops.ev h4) <| AV (ψ := fun _ => ((v1_2.map etI).length : Int) = (v1_2.length : Int)) (Ev.c lenMap) <| AC h5 <| AN)
theorem i_CronOk_R0_8 (v1_0 : List Int) (v1_1 : List Int) (v1_2 : List Int) (v1_3 : List Int) (v1_4 : List Int) (v11 : Int) (h0 : (decide (v11 < (5 : Int))) = true) (h1 : (v11 == (0 : Int)) = false) (h2 : (v11 == (1 : Int)) = false) (h3 : (v11 == (2 : Int)) = true) (h4 : Loops E 25 (lpAt Try.f25 1) (stL 53 [(1, .box () [.s .far () 1 (v1_0.map etI), .s .far () 1 (v1_1.map etI), .s .far () 1 (v1_2.map etI), .s .far () 1 (v1_3.map etI), .s .far () 1 (v1_4.map etI)]), (5, .one (tI ((bounds v11).1))), (6, .one (tI ((bounds v11).2))), (7, .one (.s .far () 1 (v1_2.map etI))), (10, .clo (.arr [0, 1, 2, 3, 4]) [1, 1, 1, 1, 1]), (11, .one (tI v11)), (23, .one (.s .far () 1 (v1_2.map etI))), (24, .one (tI (v1_2.length : Int))), (25, .one (tI (0 : Int)))]) (.exit 2) (stL 53 [(1, .box () [.s .far () 1 (v1_0.map etI), .s .far () 1 (v1_1.map etI), .s .far () 1 (v1_2.map etI), .s .far () 1 (v1_3.map etI), .s .far () 1 (v1_4.map etI)]), (7, .one (.s .far () 1 (v1_2.map etI))), (10, .clo (.arr [0, 1, 2, 3, 4]) [1, 1, 1, 1, 1]), (11, .one (tI v11))])) (h5 : ((v1_2.length : Int) == (0 : Int)) = false) : Round E 25 (lpAt Try.f25 0) (stL 53 [(1, .box () [.s .far () 1 (v1_0.map etI), .s .far () 1 (v1_1.map etI), .s .far () 1 (v1_2.map etI), .s .far () 1 (v1_3.map etI), .s .far () 1 (v1_4.map etI)]), (10, .clo (.arr [0, 1, 2, 3, 4]) [1, 1, 1, 1, 1]), (11, .one (tI v11))]) .normal (stL 53 [(1, .box () [.s .far () 1 (v1_0.map etI), .s .far () 1 (v1_1.map etI), .s .far () 1 (v1_2.map etI), .s .far () 1 (v1_3.map etI), .s .far () 1 (v1_4.map etI)]), (10, .clo (.arr [0, 1, 2, 3, 4]) [1, 1, 1, 1, 1]), (11, .one (tI (inc v11)))]) :=
  Round.path [.b true, .val (.int .i64 2), .ret [(false, [tI ((bounds v11).1)]), (false, [tI ((bounds v11).2)])], .val (.int .i64 (v1_2.length : Int)), .lp (.exit 2) (stL 53 [(1, .box () [.s .far () 1 (v1_0.map etI), .s .far () 1 (v1_1.map etI), .s .far () 1 (v1_2.map etI), .s .far () 1 (v1_3.map etI), .s .far () 1 (v1_4.map etI)]), (7, .one (.s .far () 1 (v1_2.map etI))), (10, .clo (.arr [0, 1, 2, 3, 4]) [1, 1, 1, 1, 1]), (11, .one (tI v11))]), .val (.int .i64 (v1_2.length : Int)), .b false] _ (fun k => by kernel_rfl) (AC h0 <| AV (ψ := fun _ => v11 = (2 : Int)) (Ev.c (eq_of_beq h3)) <| AD (T_i_bounds v11) <| AV (ψ := fun _ => ((v1_2.map etI).length : Int) = (v1_2.length : Int)) (Ev.c lenMap) <| AV (ψ := fun k => LoopK E 25 (lpAt Try.f25 1) (stL 53 [(1, .box () [.s .far () 1 (v1_0.map etI), .s .far () 1 (v1_1.map etI), .s .far () 1 (v1_2.map etI), .s .far () 1 (v1_3.map etI), .s .far () 1 (v1_4.map etI)]), (5, .one (tI ((bounds v11).1))), (6, .one (tI ((bounds v11).2))), (7, .one (.s .far () 1 (v1_2.map etI))), (10, .clo (.arr [0, 1, 2, 3, 4]) [1, 1, 1, 1, 1]), (11, .one (tI v11)), (23, .one (.s .far () 1 (v1_2.map etI))), (24, .one (tI (v1_2.length : Int))), (25, .one (tI (0 : Int)))]) (.exit 2) (stL 53 [(1, .box () [.s .far () 1 (v1_0.map etI), .s .far () 1 (v1_1.map etI), .s .far () 1 (v1_2.map etI), .s .far () 1 (v1_3.map etI), .s .far () 1 (v1_4.map etI)]), (7, .one (.s .far () 1 (v1_2.map etI))), (10, .clo (.arr [0, 1, 2, 3, 4]) [1, 1, 1, 1, 1]), (11, .one (tI v11))]) k k) (Loops.ev h4) <| AV (ψ := fun _ => ((v1_2.map etI).length : Int) = (v1_2.length : Int)) (Ev.c lenMap) <| AC h5 <| AN)
theorem i_CronOk_R0_9 (v1_0 : List Int) (v1_1 : List Int) (v1_2 : List Int) (v1_3 : List Int) (v1_4 : List Int) (v11 : Int) (w0_2 : Bool) (h0 : (decide (v11 < (5 : Int))) = true) (h1 : (v11 == (0 : Int)) = false) (h2 : (v11 == (1 : Int)) = false) (h3 : (v11 == (2 : Int)) = false) (h4 : (v11 == (3 : Int)) = true) (h5 : Loops E 25 (lpAt Try.f25 1) (stL 53 [(1, .box () [.s .far () 1 (v1_0.map etI), .s .far () 1 (v1_1.map etI), .s .far () 1 (v1_2.map etI), .s .far () 1 (v1_3.map etI), .s .far () 1 (v1_4.map etI)]), (5, .one (tI ((bounds v11).1))), (6, .one (tI ((bounds v11).2))), (7, .one (.s .far () 1 (v1_3.map etI))), (10, .clo (.arr [0, 1, 2, 3, 4]) [1, 1, 1, 1, 1]), (11, .one (tI v11)), (23, .one (.s .far () 1 (v1_3.map etI))), (24, .one (tI (v1_3.length : Int))), (25, .one (tI (0 : Int)))]) .ret (stL 53 [(2, .one (tB w0_2))])) : Round E 25 (lpAt Try.f25 0) (stL 53 [(1, .box () [.s .far () 1 (v1_0.map etI), .s .far () 1 (v1_1.map etI), .s .far () 1 (v1_2.map etI), .s .far () 1 (v1_3.map etI), .s .far () 1 (v1_4.map etI)]), (10, .clo (.arr [0, 1, 2, 3, 4]) [1, 1, 1, 1, 1]), (11, .one (tI v11))]) .ret (stL 53 [(2, .one (tB w0_2))]) :=
  Round.path [.b true, .val (.int .i64 3), .ret [(false, [tI ((bounds v11).1)]), (false, [tI ((bounds v11).2)])], .val (.int .i64 (v1_3.length : Int)), .lp .ret (stL 53 [(2, .one (tB w0_2))])] _ (fun k => by kernel_rfl) (AC h0 <| AV (ψ := fun _ => v11 = (3 : Int)) (Ev.c (eq_of_beq h4)) <| AD (T_i_bounds v11) <| AV (ψ := fun _ => ((v1_3.map etI).length : Int) = (v1_3.length : Int)) (Ev.c lenMap) <| AV (ψ := fun k => LoopK E 25 (lpAt Try.f25 1) (stL 53 [(1, .box () [.s .far () 1 (v1_0.map etI), .s .far () 1 (v1_1.map etI), .s .far () 1 (v1_2.map etI), .s .far () 1 (v1_3.map etI), .s .far () 1 (v1_4.map etI)]), (5, .one (tI ((bounds v11).1))), (6, .one (tI ((bounds v11).2))), (7, .one (.s .far () 1 (v1_3.map etI))), (10, .clo (.arr [0, 1, 2, 3, 4]) [1, 1, 1, 1, 1]), (11, .one (tI v11)), (23, .one (.s .far () 1 (v1_3.map etI))), (24, .one (tI (v1_3.length : Int))), (25, .one (tI (0 : Int)))]) .ret (stL 53 [(2, .one (tB w0_2))]) k k) (Loops.ev h5) <| AN)
theorem i_CronOk_R0_10 (v1_0 : List Int) (v1_1 : List Int) (v1_2 : List Int) (v1_3 : List Int) (v1_4 : List Int) (v11 : Int) (h0 : (decide (v11 < (5 : Int))) = true) (h1 : (v11 == (0 : Int)) = false) (h2 : (v11 == (1 : Int)) = false) (h3 : (v11 == (2 : Int)) = false) (h4 : (v11 == (3 : Int)) = true) (h5 : Loops E 25 (lpAt Try.f25 1) (stL 53 [(1, .box () [.s .far () 1 (v1_0.map etI), .s .far () 1 (v1_1.map etI), .s .far () 1 (v1_2.map etI), .s .far () 1 (v1_3.map etI), .s .far () 1 (v1_4.map etI)]), (5, .one (tI ((bounds v11).1))), (6, .one (tI ((bounds v11).2))), (7, .one (.s .far () 1 (v1_3.map etI))), (10, .clo (.arr [0, 1, 2, 3, 4]) [1, 1, 1, 1, 1]), (11, .one (tI v11)), (23, .one (.s .far () 1 (v1_3.map etI))), (24, .one (tI (v1_3.length : Int))), (25, .one (tI (0 : Int)))]) (.exit 2) (stL 53 [(1, .box () [.s .far () 1 (v1_0.map etI), .s .far () 1 (v1_1.map etI), .s .far () 1 (v1_2.map etI), .s .far () 1 (v1_3.map etI), .s .far () 1 (v1_4.map etI)]), (7, .one (.s .far () 1 (v1_3.map etI))), (10, .clo (.arr [0, 1, 2, 3, 4]) [1, 1, 1, 1, 1]), (11, .one (tI v11))])) (h6 : ((v1_3.length : Int) == (0 : Int)) = true) : Round E 25 (lpAt Try.f25 0) (stL 53 [(1, .box () [.s .far () 1 (v1_0.map etI), .s .far () 1 (v1_1.map etI), .s .far () 1 (v1_2.map etI), .s .far () 1 (v1_3.map etI), .s .far () 1 (v1_4.map etI)]), (10, .clo (.arr [0, 1, 2, 3, 4]) [1, 1, 1, 1, 1]), (11, .one (tI v11))]) .ret (stL 53 [(2, .one (tB false))]) :=
  Round.path [.b true, .val (.int .i64 3), .ret [(false, [tI ((bounds v11).1)]), (false, [tI ((bounds v11).2)])], .val (.int .i64 (v1_3.length : Int)), .lp (.exit 2) (stL 53 [(1, .box () [.s .far () 1 (v1_0.map etI), .s .far () 1 (v1_1.map etI), .s .far () 1 (v1_2.map etI), .s .far () 1 (v1_3.map etI), .s .far () 1 (v1_4.map etI)]), (7, .one (.s .far () 1 (v1_3.map etI))), (10, .clo (.arr [0, 1, 2, 3, 4]) [1, 1, 1, 1, 1]), (11, .one (tI v11))]), .val (.int .i64 (v1_3.length : Int)), .b true] _ (fun k => by kernel_rfl) (AC h0 <| AV (ψ := fun _ => v11 = (3 : Int)) (Ev.c (eq_of_beq h4)) <| AD (T_i_bounds v11) <| AV (ψ := fun _ => ((v1_3.map etI).length : Int) = (v1_3.length : Int)) (Ev.c lenMap) <| AV (ψ := fun k => LoopK E 25 (lpAt Try.f25 1) (stL 53 [(1, .box () [.s .far () 1 (v1_0.map etI), .s .far () 1 (v1_1.map etI), .s .far () 1 (v1_2.map etI), .s .far () 1 (v1_3.map etI), .s .far () 1 (v1_4.map etI)]), (5, .one (tI ((bounds v11).1))), (6, .one (tI ((bounds v11).2))), (7, .one (.s .far () 1 (v1_3.map etI))), (10, .clo (.arr [0, 1, 2, 3, 4]) [1, 1, 1, 1, 1]), (11, .one (tI v11)), (23, .one (.s .far () 1 (v1_3.map etI))), (24, .one (tI (v1_3.length : Int))), (25, .one (tI (0 : Int)))]) (.exit 2) (stL 53 [(1, .box () [.s .far () 1 (v1_0.map etI), .s .far () 1 (v1_1.map etI), .s .far () 1 (v1_2.map etI), .s .far () 1 (v1_3.map etI), .s .far () 1 (v1_4.map etI)]), (7, .one (.s .far () 1 (v1_3.map etI))), (10, .clo (.arr [0, 1, 2, 3, 4]) [1, 1, 1, 1, 1]), (11, .one (tI v11))]) k k) (Loops.ev h5) <| AV (ψ := fun _ => ((v1_3.map etI).length : Int) = (v1_3.length : Int)) (Ev.c lenMap) <| AC h6 <| AN)
theorem i_CronOk_R0_11 (v1_0 : List Int) (v1_1 : List Int) (v1_2 : List Int) (v1_3 : List Int) (v1_4 : List Int) (v11 : Int) (h0 : (decide (v11 < (5 : Int))) = true) (h1 : (v11 == (0 : Int)) = false) (h2 : (v11 == (1 : Int)) = false) (h3 : (v11 == (2 : Int)) = false) (h4 : (v11 == (3 : Int)) = true) (h5 : Loops E 25 (lpAt Try.f25 1) (stL 53 [(1, .box () [.s .far () 1 (v1_0.map etI), .s .far () 1 (v1_1.map etI), .s .far () 1 (v1_2.map etI), .s .far () 1 (v1_3.map etI), .s .far () 1 (v1_4.map etI)]), (5, .one (tI ((bounds v11).1))), (6, .one (tI ((bounds v11).2))), (7, .one (.s .far () 1 (v1_3.map etI))), (10, .clo (.arr [0, 1, 2, 3, 4]) [1, 1, 1, 1, 1]), (11, .one (tI v11)), (23, .one (.s .far () 1 (v1_3.map etI))), (24, .one (tI (v1_3.length : Int))), (25, .one (tI (0 : Int)))]) (.exit 2) (stL 53 [(1, .box () [.s .far () 1 (v1_0.map etI), .s .far () 1 (v1_1.map etI), .s .far () 1 (v1_2.map etI), .s .far () 1 (v1_3.map etI), .s .far () 1 (v1_4.map etI)]), (7, .one (.s .far () 1 (v1_3.map etI))), (10, .clo (.arr [0, 1, 2, 3, 4]) [1, 1, 1, 1, 1]), (11, .one (tI v11))])) (h6 : ((v1_3.length : Int) == (0 : Int)) = false) : Round E 25 (lpAt Try.f25 0) (stL 53 [(1, .box () [.s .far () 1 (v1_0.map etI), .s .far () 1 (v1_1.map etI), .s .far () 1 (v1_2.map etI), .s .far () 1 (v1_3.map etI), .s .far () 1 (v1_4.map etI)]), (10, .clo (.arr [0, 1, 2, 3, 4]) [1, 1, 1, 1, 1]), (11, .one (tI v11))]) .normal (stL 53 [(1, .box () [.s .far () 1 (v1_0.map etI), .s .far () 1 (v1_1.map etI), .s .far () 1 (v1_2.map etI), .s .far () 1 (v1_3.map etI), .s .far () 1 (v1_4.map etI)]), (10, .clo (.arr [0, 1, 2, 3, 4]) [1, 1, 1, 1, 1]), (11, .one (tI (inc v11)))]) :=
  Round.path [.b true, .val (.int .i64 3), .ret [(false, [tI ((bounds v11).1)]), (false, [tI ((bounds v11).2)])], .val (.int .i64 (v1_3.length : Int)), .lp (.exit 2) (stL 53 [(1, .box () [.s .far () 1 (v1_0.map etI), .s .far () 1 (v1_1.map etI), .s .far () 1 (v1_2.map etI), .s .far () 1 (v1_3.map etI), .s .far () 1 (v1_4.map etI)]), (7, .one (.s .far () 1 (v1_3.map etI))), (10, .clo (.arr [0, 1, 2, 3, 4]) [1, 1, 1, 1, 1]), (11, .one (tI v11))]), .val (.int .i64 (v1_3.length : Int)), .b false] _ (fun k => by kernel_rfl) (AC h0 <| AV (ψ := fun _ => v11 = (3 : Int)) (Ev.c (eq_of_beq h4)) <| AD (T_i_bounds v11) <| AV (ψ := fun _ => ((v1_3.map etI).length : Int) = (v1_3.length : Int)) (Ev.c lenMap) <| AV (ψ := fun k => LoopK E 25 (lpAt Try.f25 1) (stL 53 [(1, .box () [.s .far () 1 (v1_0.map etI), .s .far () 1 (v1_1.map etI), .s .far () 1 (v1_2.map etI), .s .far () 1 (v1_3.map etI), .s .far () 1 (v1_4.map etI)]), (5, .one (tI ((bounds v11).1))), (6, .one (tI ((bounds v11).2))), (7, .one (.s .far () 1 (v1_3.map etI))), (10, .clo (.arr [0, 1, 2, 3, 4]) [1, 1, 1, 1, 1]), (11, .one (tI v11)), (23, .one (.s .far () 1 (v1_3.map etI))), (24, .one (tI (v1_3.length : Int))), (25, .one (tI (0 : Int)))]) (.exit 2) (stL 53 [(1, .box () [.s .far () 1 (v1_0.map etI), .s .far () 1 (v1_1.map etI), .s .far () 1 (v1_2.map etI), .s .far () 1 (v1_3.map etI), .s .far () 1 (v1_4.map etI)]), (7, .one (.s .far () 1 (v1_3.map etI))), (10, .clo (.arr [0, 1, 2, 3, 4]) [1, 1, 1, 1, 1]), (11, .one (tI v11))]) k k) (Loops.ev h5) <| AV (ψ := fun _ => ((v1_3.map etI).length : Int) = (v1_3.length : Int)) (Ev.c lenMap) <| AC h6 <| AN)
theorem i_CronOk_R0_12 (v1_0 : List Int) (v1_1 : List Int) (v1_2 : List Int) (v1_3 : List Int) (v1_4 : List Int) (v11 : Int) (w0_2 : Bool) (h0 : (decide (v11 < (5 : Int))) = true) (h1 : (v11 == (0 : Int)) = false) (h2 : (v11 == (1 : Int)) = false) (h3 : (v11 == (2 : Int)) = false) (h4 : (v11 == (3 : Int)) = false) (h5 : v11 = (4 : Int)) (h6 : Loops E 25 (lpAt Try.f25 1) (stL 53 [(1, .box () [.s .far () 1 (v1_0.map etI), .s .far () 1 (v1_1.map etI), .s .far () 1 (v1_2.map etI), .s .far () 1 (v1_3.map etI), .s .far () 1 (v1_4.map etI)]), (5, .one (tI ((bounds v11).1))), (6, .one (tI ((bounds v11).2))), (7, .one (.s .far () 1 (v1_4.map etI))), (10, .clo (.arr [0, 1, 2, 3, 4]) [1, 1, 1, 1, 1]), (11, .one (tI v11)), (23, .one (.s .far () 1 (v1_4.map etI))), (24, .one (tI (v1_4.length : Int))), (25, .one (tI (0 : Int)))]) .ret (stL 53 [(2, .one (tB w0_2))])) : Round E 25 (lpAt Try.f25 0) (stL 53 [(1, .box () [.s .far () 1 (v1_0.map etI), .s .far () 1 (v1_1.map etI), .s .far () 1 (v1_2.map etI), .s .far () 1 (v1_3.map etI), .s .far () 1 (v1_4.map etI)]), (10, .clo (.arr [0, 1, 2, 3, 4]) [1, 1, 1, 1, 1]), (11, .one (tI v11))]) .ret (stL 53 [(2, .one (tB w0_2))]) :=
  Round.path [.b true, .val (.int .i64 4), .ret [(false, [tI ((bounds v11).1)]), (false, [tI ((bounds v11).2)])], .val (.int .i64 (v1_4.length : Int)), .lp .ret (stL 53 [(2, .one (tB w0_2))])] _ (fun k => by kernel_rfl) (AC h0 <| AV (ψ := fun _ => v11 = (4 : Int)) (Ev.c h5) <| AD (T_i_bounds v11) <| AV (ψ := fun _ => ((v1_4.map etI).length : Int) = (v1_4.length : Int)) (Ev.c lenMap) <| AV (ψ := fun k => LoopK E 25 (lpAt Try.f25 1) (stL 53 [(1, .box () [.s .far () 1 (v1_0.map etI), .s .far () 1 (v1_1.map etI), .s .far () 1 (v1_2.map etI), .s .far () 1 (v1_3.map etI), .s .far () 1 (v1_4.map etI)]), (5, .one (tI ((bounds v11).1))), (6, .one (tI ((bounds v11).2))), (7, .one (.s .far () 1 (v1_4.map etI))), (10, .clo (.arr [0, 1, 2, 3, 4]) [1, 1, 1, 1, 1]), (11, .one (tI v11)), (23, .one (.s .far () 1 (v1_4.map etI))), (24, .one (tI (v1_4.length : Int))), (25, .one (tI (0 : Int)))]) .ret (stL 53 [(2, .one (tB w0_2))]) k k) (Loops.ev h6) <| AN)
theorem i_CronOk_R0_13 (v1_0 : List Int) (v1_1 : List Int) (v1_2 : List Int) (v1_3 : List Int) (v1_4 : List Int) (v11 : Int) (h0 : (decide (v11 < (5 : Int))) = true) (h1 : (v11 == (0 : Int)) = false) (h2 : (v11 == (1 : Int)) = false) (h3 : (v11 == (2 : Int)) = false) (h4 : (v11 == (3 : Int)) = false) (h5 : v11 = (4 : Int)) (h6 : Loops E 25 (lpAt Try.f25 1) (stL 53 [(1, .box () [.s .far () 1 (v1_0.map etI), .s .far () 1 (v1_1.map etI), .s .far () 1 (v1_2.map etI), .s .far () 1 (v1_3.map etI), .s .far () 1 (v1_4.map etI)]), (5, .one (tI ((bounds v11).1))), (6, .one (tI ((bounds v11).2))), (7, .one (.s .far () 1 (v1_4.map etI))), (10, .clo (.arr [0, 1, 2, 3, 4]) [1, 1, 1, 1, 1]), (11, .one (tI v11)), (23, .one (.s .far () 1 (v1_4.map etI))), (24, .one (tI (v1_4.length : Int))), (25, .one (tI (0 : Int)))]) (.exit 2) (stL 53 [(1, .box () [.s .far () 1 (v1_0.map etI), .s .far () 1 (v1_1.map etI), .s .far () 1 (v1_2.map etI), .s .far () 1 (v1_3.map etI), .s .far () 1 (v1_4.map etI)]), (7, .one (.s .far () 1 (v1_4.map etI))), (10, .clo (.arr [0, 1, 2, 3, 4]) [1, 1, 1, 1, 1]), (11, .one (tI v11))])) (h7 : ((v1_4.length : Int) == (0 : Int)) = true) : Round E 25 (lpAt Try.f25 0) (stL 53 [(1, .box () [.s .far () 1 (v1_0.map etI), .s .far () 1 (v1_1.map etI), .s .far () 1 (v1_2.map etI), .s .far () 1 (v1_3.map etI), .s .far () 1 (v1_4.map etI)]), (10, .clo (.arr [0, 1, 2, 3, 4]) [1, 1, 1, 1, 1]), (11, .one (tI v11))]) .ret (stL 53 [(2, .one (tB false))]) :=
  Round.path [.b true, .val (.int .i64 4), .ret [(false, [tI ((bounds v11).1)]), (false, [tI ((bounds v11).2)])], .val (.int .i64 (v1_4.length : Int)), .lp (.exit 2) (stL 53 [(1, .box () [.s .far () 1 (v1_0.map etI), .s .far () 1 (v1_1.map etI), .s .far () 1 (v1_2.map etI), .s .far () 1 (v1_3.map etI), .s .far () 1 (v1_4.map etI)]), (7, .one (.s .far () 1 (v1_4.map etI))), (10, .clo (.arr [0, 1, 2, 3, 4]) [1, 1, 1, 1, 1]), (11, .one (tI v11))]), .val (.int .i64 (v1_4.length : Int)), .b true] _ (fun k => by kernel_rfl) (AC h0 <| AV (ψ := fun _ => v11 = (4 : Int)) (Ev.c h5) <| AD (T_i_bounds v11) <| AV (ψ := fun _ => ((v1_4.map etI).length : Int) = (v1_4.length : Int)) (Ev.c lenMap) <| AV (ψ := fun k => LoopK E 25 (lpAt Try.f25 1) (stL 53 [(1, .box () [.s .far () 1 (v1_0.map etI), .s .far () 1 (v1_1.map etI), .s .far () 1 (v1_2.map etI), .s .far () 1 (v1_3.map etI), .s .far () 1 (v1_4.map etI)]), (5, .one (tI ((bounds v11).1))), (6, .one (tI ((bounds v11).2))), (7, .one (.s .far () 1 (v1_4.map etI))), (10, .clo (.arr [0, 1, 2, 3, 4]) [1, 1, 1, 1, 1]), (11, .one (tI v11)), (23, .one (.s .far () 1 (v1_4.map etI))), (24, .one (tI (v1_4.length : Int))), (25, .one (tI (0 : Int)))]) (.exit 2) (stL 53 [(1, .box () [.s .far () 1 (v1_0.map etI), .s .far () 1 (v1_1.map etI), .s .far () 1 (v1_2.map etI), .s .far () 1 (v1_3.map etI), .s .far () 1 (v1_4.map etI)]), (7, .one (.s .far () 1 (v1_4.map etI))), (10, .clo (.arr [0, 1, 2, 3, 4]) [1, 1, 1, 1, 1]), (11, .one (tI v11))]) k k) (Loops.ev h6) <| AV (ψ := fun _ => ((v1_4.map etI).length : Int) = (v1_4.length : Int)) (Ev.c lenMap) <| AC h7 <| AN)
theorem i_CronOk_R0_14 (v1_0 : List Int) (v1_1 : List Int) (v1_2 : List Int) (v1_3 : List Int) (v1_4 : List Int) (v11 : Int) (h0 : (decide (v11 < (5 : Int))) = true) (h1 : (v11 == (0 : Int)) = false) (h2 : (v11 == (1 : Int)) = false) (h3 : (v11 == (2 : Int)) = false) (h4 : (v11 == (3 : Int)) = false) (h5 : v11 = (4 : Int)) (h6 : Loops E 25 (lpAt Try.f25 1) (stL 53 [(1, .box () [.s .far () 1 (v1_0.map etI), .s .far () 1 (v1_1.map etI), .s .far () 1 (v1_2.map etI), .s .far () 1 (v1_3.map etI), .s .far () 1 (v1_4.map etI)]), (5, .one (tI ((bounds v11).1))), (6, .one (tI ((bounds v11).2))), (7, .one (.s .far () 1 (v1_4.map etI))), (10, .clo (.arr [0, 1, 2, 3, 4]) [1, 1, 1, 1, 1]), (11, .one (tI v11)), (23, .one (.s .far () 1 (v1_4.map etI))), (24, .one (tI (v1_4.length : Int))), (25, .one (tI (0 : Int)))]) (.exit 2) (stL 53 [(1, .box () [.s .far () 1 (v1_0.map etI), .s .far () 1 (v1_1.map etI), .s .far () 1 (v1_2.map etI), .s .far () 1 (v1_3.map etI), .s .far () 1 (v1_4.map etI)]), (7, .one (.s .far () 1 (v1_4.map etI))), (10, .clo (.arr [0, 1, 2, 3, 4]) [1, 1, 1, 1, 1]), (11, .one (tI v11))])) (h7 : ((v1_4.length : Int) == (0 : Int)) = false) : Round E 25 (lpAt Try.f25 0) (stL 53 [(1, .box () [.s .far () 1 (v1_0.map etI), .s .far () 1 (v1_1.map etI), .s .far () 1 (v1_2.map etI), .s .far () 1 (v1_3.map etI), .s .far () 1 (v1_4.map etI)]), (10, .clo (.arr [0, 1, 2, 3, 4]) [1, 1, 1, 1, 1]), (11, .one (tI v11))]) .normal (stL 53 [(1, .box () [.s .far () 1 (v1_0.map etI), .s .far () 1 (v1_1.map etI), .s .far () 1 (v1_2.map etI), .s .far () 1 (v1_3.map etI), .s .far () 1 (v1_4.map etI)]), (10, .clo (.arr [0, 1, 2, 3, 4]) [1, 1, 1, 1, 1]), (11, .one (tI (inc v11)))]) :=
  Round.path [.b true, .val (.int .i64 4), .ret [(false, [tI ((bounds v11).1)]), (false, [tI ((bounds v11).2)])], .val (.int .i64 (v1_4.length : Int)), .lp (.exit 2) (stL 53 [(1, .box () [.s .far () 1 (v1_0.map etI), .s .far () 1 (v1_1.map etI), .s .far () 1 (v1_2.map etI), .s .far () 1 (v1_3.map etI), .s .far () 1 (v1_4.map etI)]), (7, .one (.s .far () 1 (v1_4.map etI))), (10, .clo (.arr [0, 1, 2, 3, 4]) [1, 1, 1, 1, 1]), (11, .one (tI v11))]), .val (.int .i64 (v1_4.length : Int)), .b false] _ (fun k => by kernel_rfl) (AC h0 <| AV (ψ := fun _ => v11 = (4 : Int)) (Ev.c h5) <| AD (T_i_bounds v11) <| AV (ψ := fun _ => ((v1_4.map etI).length : Int) = (v1_4.length : Int)) (Ev.c lenMap) <| AV (ψ := fun k => LoopK E 25 (lpAt Try.f25 1) (stL 53 [(1, .box () [.s .far () 1 (v1_0.map etI), .s .far () 1 (v1_1.map etI), .s .far () 1 (v1_2.map etI), .s .far () 1 (v1_3.map etI), .s .far () 1 (v1_4.map etI)]), (5, .one (tI ((bounds v11).1))), (6, .one (tI ((bounds v11).2))), (7, .one (.s .far () 1 (v1_4.map etI))), (10, .clo (.arr [0, 1, 2, 3, 4]) [1, 1, 1, 1, 1]), (11, .one (tI v11)), (23, .one (.s .far () 1 (v1_4.map etI))), (24, .one (tI (v1_4.length : Int))), (25, .one (tI (0 : Int)))]) (.exit 2) (stL 53 [(1, .box () [.s .far () 1 (v1_0.map etI), .s .far () 1 (v1_1.map etI), .s .far () 1 (v1_2.map etI), .s .far () 1 (v1_3.map etI), .s .far () 1 (v1_4.map etI)]), (7, .one (.s .far () 1 (v1_4.map etI))), (10, .clo (.arr [0, 1, 2, 3, 4]) [1, 1, 1, 1, 1]), (11, .one (tI v11))]) k k) (Loops.ev h6) <| AV (ψ := fun _ => ((v1_4.map etI).length : Int) = (v1_4.length : Int)) (Ev.c lenMap) <| AC h7 <| AN)
theorem i_CronOk_R0_15 (v1_0 : List Int) (v1_1 : List Int) (v1_2 : List Int) (v1_3 : List Int) (v1_4 : List Int) (v11 : Int) (h0 : (decide (v11 < (5 : Int))) = false) : Round E 25 (lpAt Try.f25 0) (stL 53 [(1, .box () [.s .far () 1 (v1_0.map etI), .s .far () 1 (v1_1.map etI), .s .far () 1 (v1_2.map etI), .s .far () 1 (v1_3.map etI), .s .far () 1 (v1_4.map etI)]), (10, .clo (.arr [0, 1, 2, 3, 4]) [1, 1, 1, 1, 1]), (11, .one (tI v11))]) (.exit 0) (stL 53 []) :=
  Round.path [.b false] _ (fun k => by kernel_rfl) (AC h0 <| AN)
noncomputable def i_CronOk_l0 (v1_0 : List Int) (v1_1 : List Int) (v1_2 : List Int) (v1_3 : List Int) (v1_4 : List Int) : Nat → Int → Option i_CronOk_X0
  | 0, _ => none
  | n + 1, v11 => cond (decide (v11 < (5 : Int)))
    (cond (v11 == (0 : Int))
      (if v1_0.length ≤ 9223372036854775807 then (i_CronOk_l1 ((bounds v11).1) ((bounds v11).2) v1_0 v1_0 0).bind fun y => match y with
        | .ret w0_2 => (some (.ret w0_2))
        | .x2 => (cond ((v1_0.length : Int) == (0 : Int))
          (some (.ret false))
          (i_CronOk_l0 v1_0 v1_1 v1_2 v1_3 v1_4 n (inc v11))) else none)
      (cond (v11 == (1 : Int))
        (if v1_1.length ≤ 9223372036854775807 then (i_CronOk_l1 ((bounds v11).1) ((bounds v11).2) v1_1 v1_1 0).bind fun y => match y with
          | .ret w0_2 => (some (.ret w0_2))
          | .x2 => (cond ((v1_1.length : Int) == (0 : Int))
            (some (.ret false))
            (i_CronOk_l0 v1_0 v1_1 v1_2 v1_3 v1_4 n (inc v11))) else none)
        (cond (v11 == (2 : Int))
          (if v1_2.length ≤ 9223372036854775807 then (i_CronOk_l1 ((bounds v11).1) ((bounds v11).2) v1_2 v1_2 0).bind fun y => match y with
            | .ret w0_2 => (some (.ret w0_2))
            | .x2 => (cond ((v1_2.length : Int) == (0 : Int))
              (some (.ret false))
              (i_CronOk_l0 v1_0 v1_1 v1_2 v1_3 v1_4 n (inc v11))) else none)
          (cond (v11 == (3 : Int))
            (if v1_3.length ≤ 9223372036854775807 then (i_CronOk_l1 ((bounds v11).1) ((bounds v11).2) v1_3 v1_3 0).bind fun y => match y with
              | .ret w0_2 => (some (.ret w0_2))
              | .x2 => (cond ((v1_3.length : Int) == (0 : Int))
                (some (.ret false))
                (i_CronOk_l0 v1_0 v1_1 v1_2 v1_3 v1_4 n (inc v11))) else none)
            (if v11 = (4 : Int) then if v1_4.length ≤ 9223372036854775807 then (i_CronOk_l1 ((bounds v11).1) ((bounds v11).2) v1_4 v1_4 0).bind fun y => match y with
              | .ret w0_2 => (some (.ret w0_2))
              | .x2 => (cond ((v1_4.length : Int) == (0 : Int))
                (some (.ret false))
                (i_CronOk_l0 v1_0 v1_1 v1_2 v1_3 v1_4 n (inc v11))) else none else none)))))
    (some (.x0))
theorem i_CronOk_L0 (v1_0 : List Int) (v1_1 : List Int) (v1_2 : List Int) (v1_3 : List Int) (v1_4 : List Int) (n : Nat) : ∀ (v11 : Int), Ans (i_CronOk_l0 v1_0 v1_1 v1_2 v1_3 v1_4 n v11) (i_CronOk_Q0 v1_0 v1_1 v1_2 v1_3 v1_4 v11) := by
  induction n with
  | zero => intros; exact Ans.none
  | succ n ih =>
    intro v11
    unfold i_CronOk_l0
    refine Ans.ite (fun h0 => ?_) (fun h0 => ?_)
    · refine Ans.ite (fun h1 => ?_) (fun h1 => ?_)
      · refine Ans.pre (fun hl4 => ?_)
        refine Ans.bind (fun y hy => ?_)
        replace hy := i_CronOk_L1 v1_0 v1_1 v1_2 v1_3 v1_4 ((bounds v11).1) ((bounds v11).2) v1_0 v11 v1_0 v1_0 0 rfl hl4 y hy
        cases y with
        | ret w0_2 =>
          have h2 := hy
          exact Ans.some (Loops.stop (i_CronOk_R0_0 v1_0 v1_1 v1_2 v1_3 v1_4 v11 w0_2 h0 h1 h2) (by intro h; cases h))
        | x2 =>
          have h2 := hy
          refine Ans.ite (fun h3 => ?_) (fun h3 => ?_)
          · exact Ans.some (Loops.stop (i_CronOk_R0_1 v1_0 v1_1 v1_2 v1_3 v1_4 v11 h0 h1 h2 h3) (by intro h; cases h))
          · exact (ih (inc v11)).mono fun y hy => by cases y <;> exact Loops.next (i_CronOk_R0_2 v1_0 v1_1 v1_2 v1_3 v1_4 v11 h0 h1 h2 h3) hy
      · refine Ans.ite (fun h2 => ?_) (fun h2 => ?_)
        · refine Ans.pre (fun hl5 => ?_)
          refine Ans.bind (fun y hy => ?_)
          replace hy := i_CronOk_L1 v1_0 v1_1 v1_2 v1_3 v1_4 ((bounds v11).1) ((bounds v11).2) v1_1 v11 v1_1 v1_1 0 rfl hl5 y hy
          cases y with
          | ret w0_2 =>
            have h3 := hy
            exact Ans.some (Loops.stop (i_CronOk_R0_3 v1_0 v1_1 v1_2 v1_3 v1_4 v11 w0_2 h0 h1 h2 h3) (by intro h; cases h))
          | x2 =>
            have h3 := hy
            refine Ans.ite (fun h4 => ?_) (fun h4 => ?_)
            · exact Ans.some (Loops.stop (i_CronOk_R0_4 v1_0 v1_1 v1_2 v1_3 v1_4 v11 h0 h1 h2 h3 h4) (by intro h; cases h))
            · exact (ih (inc v11)).mono fun y hy => by cases y <;> exact Loops.next (i_CronOk_R0_5 v1_0 v1_1 v1_2 v1_3 v1_4 v11 h0 h1 h2 h3 h4) hy
        · refine Ans.ite (fun h3 => ?_) (fun h3 => ?_)
          · refine Ans.pre (fun hl6 => ?_)
            refine Ans.bind (fun y hy => ?_)
            replace hy := i_CronOk_L1 v1_0 v1_1 v1_2 v1_3 v1_4 ((bounds v11).1) ((bounds v11).2) v1_2 v11 v1_2 v1_2 0 rfl hl6 y hy
            cases y with
            | ret w0_2 =>
              have h4 := hy
              exact Ans.some (Loops.stop (i_CronOk_R0_6 v1_0 v1_1 v1_2 v1_3 v1_4 v11 w0_2 h0 h1 h2 h3 h4) (by intro h; cases h))
            | x2 =>
              have h4 := hy
              refine Ans.ite (fun h5 => ?_) (fun h5 => ?_)
              · exact Ans.some (Loops.stop (i_CronOk_R0_7 v1_0 v1_1 v1_2 v1_3 v1_4 v11 h0 h1 h2 h3 h4 h5) (by intro h; cases h))
              · exact (ih (inc v11)).mono fun y hy => by cases y <;> exact Loops.next (i_CronOk_R0_8 v1_0 v1_1 v1_2 v1_3 v1_4 v11 h0 h1 h2 h3 h4 h5) hy
          · refine Ans.ite (fun h4 => ?_) (fun h4 => ?_)
            · refine Ans.pre (fun hl7 => ?_)
              refine Ans.bind (fun y hy => ?_)
              replace hy := i_CronOk_L1 v1_0 v1_1 v1_2 v1_3 v1_4 ((bounds v11).1) ((bounds v11).2) v1_3 v11 v1_3 v1_3 0 rfl hl7 y hy
              cases y with
              | ret w0_2 =>
                have h5 := hy
                exact Ans.some (Loops.stop (i_CronOk_R0_9 v1_0 v1_1 v1_2 v1_3 v1_4 v11 w0_2 h0 h1 h2 h3 h4 h5) (by intro h; cases h))
              | x2 =>
                have h5 := hy
                refine Ans.ite (fun h6 => ?_) (fun h6 => ?_)
                · exact Ans.some (Loops.stop (i_CronOk_R0_10 v1_0 v1_1 v1_2 v1_3 v1_4 v11 h0 h1 h2 h3 h4 h5 h6) (by intro h; cases h))
                · exact (ih (inc v11)).mono fun y hy => by cases y <;> exact Loops.next (i_CronOk_R0_11 v1_0 v1_1 v1_2 v1_3 v1_4 v11 h0 h1 h2 h3 h4 h5 h6) hy
            · refine Ans.pre (fun h5 => ?_)
              refine Ans.pre (fun hl7 => ?_)
              refine Ans.bind (fun y hy => ?_)
              replace hy := i_CronOk_L1 v1_0 v1_1 v1_2 v1_3 v1_4 ((bounds v11).1) ((bounds v11).2) v1_4 v11 v1_4 v1_4 0 rfl hl7 y hy
              cases y with
              | ret w0_2 =>
                have h6 := hy
                exact Ans.some (Loops.stop (i_CronOk_R0_12 v1_0 v1_1 v1_2 v1_3 v1_4 v11 w0_2 h0 h1 h2 h3 h4 h5 h6) (by intro h; cases h))
              | x2 =>
                have h6 := hy
                refine Ans.ite (fun h7 => ?_) (fun h7 => ?_)
                · exact Ans.some (Loops.stop (i_CronOk_R0_13 v1_0 v1_1 v1_2 v1_3 v1_4 v11 h0 h1 h2 h3 h4 h5 h6 h7) (by intro h; cases h))
                · exact (ih (inc v11)).mono fun y hy => by cases y <;> exact Loops.next (i_CronOk_R0_14 v1_0 v1_1 v1_2 v1_3 v1_4 v11 h0 h1 h2 h3 h4 h5 h6 h7) hy
    · exact Ans.some (Loops.stop (i_CronOk_R0_15 v1_0 v1_1 v1_2 v1_3 v1_4 v11 h0) (by intro h; cases h))
theorem i_CronOk_P0 (x0 : GCron) (w0_2 : Bool) (h0 : Loops E 25 (lpAt Try.f25 0) (stL 53 [(1, .box () [.s .far () 1 (x0.f0.map etI), .s .far () 1 (x0.f1.map etI), .s .far () 1 (x0.f2.map etI), .s .far () 1 (x0.f3.map etI), .s .far () 1 (x0.f4.map etI)]), (10, .clo (.arr [0, 1, 2, 3, 4]) [1, 1, 1, 1, 1]), (11, .one (tI (0 : Int)))]) .ret (stL 53 [(2, .one (tB w0_2))])) : Does E 25 [.agg (GCron.t .far x0)] [(false, [tB w0_2])] :=
  Does.path (fn := Try.f25) [.lp .ret (stL 53 [(2, .one (tB w0_2))])] _ rfl (fun _ => rfl) (fun k => by kernel_rfl) (AV (ψ := fun k => LoopK E 25 (lpAt Try.f25 0) (stL 53 [(1, .box () [.s .far () 1 (x0.f0.map etI), .s .far () 1 (x0.f1.map etI), .s .far () 1 (x0.f2.map etI), .s .far () 1 (x0.f3.map etI), .s .far () 1 (x0.f4.map etI)]), (10, .clo (.arr [0, 1, 2, 3, 4]) [1, 1, 1, 1, 1]), (11, .one (tI (0 : Int)))]) .ret (stL 53 [(2, .one (tB w0_2))]) k k) (Loops.ev h0) <| AN)
theorem i_CronOk_P1 (x0 : GCron) (h0 : Loops E 25 (lpAt Try.f25 0) (stL 53 [(1, .box () [.s .far () 1 (x0.f0.map etI), .s .far () 1 (x0.f1.map etI), .s .far () 1 (x0.f2.map etI), .s .far () 1 (x0.f3.map etI), .s .far () 1 (x0.f4.map etI)]), (10, .clo (.arr [0, 1, 2, 3, 4]) [1, 1, 1, 1, 1]), (11, .one (tI (0 : Int)))]) (.exit 0) (stL 53 [])) : Does E 25 [.agg (GCron.t .far x0)] [(false, [tB true])] :=
  Does.path (fn := Try.f25) [.lp (.exit 0) (stL 53 [])] _ rfl (fun _ => rfl) (fun k => by kernel_rfl) (AV (ψ := fun k => LoopK E 25 (lpAt Try.f25 0) (stL 53 [(1, .box () [.s .far () 1 (x0.f0.map etI), .s .far () 1 (x0.f1.map etI), .s .far () 1 (x0.f2.map etI), .s .far () 1 (x0.f3.map etI), .s .far () 1 (x0.f4.map etI)]), (10, .clo (.arr [0, 1, 2, 3, 4]) [1, 1, 1, 1, 1]), (11, .one (tI (0 : Int)))]) (.exit 0) (stL 53 []) k k) (Loops.ev h0) <| AN)
noncomputable def i_CronOk_F (x0 : GCron) : Option (Bool) :=
    (i_CronOk_l0 x0.f0 x0.f1 x0.f2 x0.f3 x0.f4 9223372036854775808 (0 : Int)).bind fun y => match y with
      | .ret w0_2 => (some (w0_2))
      | .x0 => (some (true))
theorem i_CronOk_D (x0 : GCron) : Ans (i_CronOk_F x0) (fun r => Does E 25 [.agg (GCron.t .far x0)] [(false, [tB r])]) := by
  unfold i_CronOk_F
  refine Ans.bind (fun y hy => ?_)
  replace hy := i_CronOk_L0 x0.f0 x0.f1 x0.f2 x0.f3 x0.f4 9223372036854775808 (0 : Int) y hy
  cases y with
  | ret w0_2 =>
    have h0 := hy
    exact Ans.some (i_CronOk_P0 x0 w0_2 h0)
  | x0 =>
    have h0 := hy
    exact Ans.some (i_CronOk_P1 x0 h0)
theorem cron_l (full : List Int) (a b : Int) (hl : full.length ≤ 1050000) : ∀ (rest : List Int) (i : Nat), full.drop i = rest → i_CronOk_l1 a b full rest i = some (if riseOk a b rest (prevOf full i) = true then .x2 else .ret false)
  | [], i, _ => rfl
  | x :: rest, i, h => by
    have ih := cron_l full a b hl rest (i + 1) (foldRest h)
    rw [prev_next h] at ih
    have hi : i < full.length := by
      rcases Nat.lt_or_ge i full.length with g | g
      · exact g
      · rw [List.drop_eq_nil_of_le g] at h; cases h
    unfold i_CronOk_l1 riseOk
    rw [ih]
    cases inRange x a b with
    | false => rfl
    | true =>
      rw [cond_true, Bool.true_and]
      rcases getBack h with rfl | ⟨y, hy⟩
      · simp [prevOf]
      · by_cases z : i = 0
        · subst z; simp [prevOf]
        · have hp : prevOf full i = some y := by unfold prevOf; rw [if_neg z, hy]
          have hg : getI full (IntKind.wrap .i64 ((i : Int) - 1)) = some y := by
            rw [wrap_id _ (by omega) (by omega)]
            have e : ((i : Int) - 1) = ((i - 1 : Nat) : Int) := by omega
            rw [e, getI_nat, hy]
          rw [hp, hg, decide_eq_true (by omega : (i : Int) > 0), cond_true, Option.bind_some]
          simp only
          by_cases c : y ≥ x
          · have yx : ¬ y < x := by omega
            rw [decide_eq_true (show x ≤ y from c), cond_true]; simp [yx]
          · have yx : y < x := by omega
            rw [decide_eq_false (show ¬ x ≤ y from c), cond_false]; simp [yx]
theorem cron_field (l : List Int) (a b : Int) (hl : l.length ≤ 1050000) (K : Option i_CronOk_X0) :
    ((i_CronOk_l1 a b l l 0).bind fun y => match y with
        | .ret w => some (.ret w)
        | .x2 => cond ((l.length : Int) == (0 : Int)) (some (.ret false)) K) = (cond (listOk l a b) K (some (.ret false))) := by
  rw [cron_l l a b hl l 0 rfl]
  unfold listOk prevOf
  rw [if_pos rfl]
  cases riseOk a b l none with
  | false => rfl
  | true =>
    simp only [if_true, Option.bind_some, Bool.true_and]
    cases l with
    | nil => rfl
    | cons x l =>
      rw [show (((x :: l).length : Int) == (0 : Int)) = false from beq_eq_false_iff_ne.2 (by simp <;> omega), decide_eq_true (by simp <;> omega)]
      rfl
theorem cronOk_i (c : GCron) (h : Small.sm c) : i_CronOk_F c = some (cronOk c) := by
  have h0 := h.1.1
  have h1 := h.2.1.1
  have h2 := h.2.2.1.1
  have h3 := h.2.2.2.1.1
  have h4 := h.2.2.2.2.1
  unfold i_CronOk_F
  have e0 : ∀ n, i_CronOk_l0 c.f0 c.f1 c.f2 c.f3 c.f4 (n + 6) 0 = some (if cronOk c = true then .x0 else .ret false) := by
    intro n
    have s5 : i_CronOk_l0 c.f0 c.f1 c.f2 c.f3 c.f4 (n + 1) (inc (inc (inc (inc (inc 0))))) = some .x0 := rfl
    have s4 : i_CronOk_l0 c.f0 c.f1 c.f2 c.f3 c.f4 (n + 2) (inc (inc (inc (inc 0)))) = cond (listOk c.f4 0 6) (some .x0) (some (.ret false)) := by
      rw [← cron_field c.f4 0 6 h4, ← s5]
      conv => lhs; unfold i_CronOk_l0
      show (if inc (inc (inc (inc 0))) = 4 then (if c.f4.length ≤ 9223372036854775807 then _ else none) else none) = _
      rw [if_pos (by rfl), if_pos (by omega)]
      rfl
    have s3 : i_CronOk_l0 c.f0 c.f1 c.f2 c.f3 c.f4 (n + 3) (inc (inc (inc 0))) = cond (listOk c.f3 1 12) (cond (listOk c.f4 0 6) (some .x0) (some (.ret false))) (some (.ret false)) := by
      rw [← cron_field c.f3 1 12 h3, ← s4]
      conv => lhs; unfold i_CronOk_l0
      show (if c.f3.length ≤ 9223372036854775807 then _ else none) = _
      rw [if_pos (by omega)]
      rfl
    have s2 : i_CronOk_l0 c.f0 c.f1 c.f2 c.f3 c.f4 (n + 4) (inc (inc 0)) = cond (listOk c.f2 1 31) (cond (listOk c.f3 1 12) (cond (listOk c.f4 0 6) (some .x0) (some (.ret false))) (some (.ret false))) (some (.ret false)) := by
      rw [← cron_field c.f2 1 31 h2, ← s3]
      conv => lhs; unfold i_CronOk_l0
      show (if c.f2.length ≤ 9223372036854775807 then _ else none) = _
      rw [if_pos (by omega)]
      rfl
    have s1 : i_CronOk_l0 c.f0 c.f1 c.f2 c.f3 c.f4 (n + 5) (inc 0) = cond (listOk c.f1 0 23) (cond (listOk c.f2 1 31) (cond (listOk c.f3 1 12) (cond (listOk c.f4 0 6) (some .x0) (some (.ret false))) (some (.ret false))) (some (.ret false))) (some (.ret false)) := by
      rw [← cron_field c.f1 0 23 h1, ← s2]
      conv => lhs; unfold i_CronOk_l0
      show (if c.f1.length ≤ 9223372036854775807 then _ else none) = _
      rw [if_pos (by omega)]
      rfl
    have s0 : i_CronOk_l0 c.f0 c.f1 c.f2 c.f3 c.f4 (n + 6) 0 = cond (listOk c.f0 0 59) (cond (listOk c.f1 0 23) (cond (listOk c.f2 1 31) (cond (listOk c.f3 1 12) (cond (listOk c.f4 0 6) (some .x0) (some (.ret false))) (some (.ret false))) (some (.ret false))) (some (.ret false))) (some (.ret false)) := by
      rw [← cron_field c.f0 0 59 h0, ← s1]
      conv => lhs; unfold i_CronOk_l0
      show (if c.f0.length ≤ 9223372036854775807 then _ else none) = _
      rw [if_pos (by omega)]
      rfl
    rw [s0]
    unfold cronOk
    cases listOk c.f0 0 59 <;> cases listOk c.f1 0 23 <;> cases listOk c.f2 1 31 <;> cases listOk c.f3 1 12 <;> cases listOk c.f4 0 6 <;> rfl
  rw [e0 9223372036854775802]
  cases cronOk c <;> rfl
theorem T_i_CronOk (x0 : GCron) (h : Small.sm x0) : Does E 25 [.agg (GCron.t .far x0)] [(false, [tB (cronOk x0)])] := by
  exact i_CronOk_D x0 _ (cronOk_i x0 h)
theorem i_isAll_P0 (x0 : List Int) (x1 : Int)  : Does E 55 [.one (.s .far () 1 (x0.map etI)), .one (tI x1)] [(false, [tB ((x0.length : Int) == (inc (IntKind.wrap .i64 (((bounds x1).2) - ((bounds x1).1)))))])] :=
  Does.path (fn := Try.f55) [.ret [(false, [tI ((bounds x1).1)]), (false, [tI ((bounds x1).2)])], .val (.int .i64 (x0.length : Int))] _ rfl (fun _ => rfl) (fun k => by kernel_rfl) (AD (T_i_bounds x1) <| AV (ψ := fun _ => ((x0.map etI).length : Int) = (x0.length : Int)) (Ev.c lenMap) <| AN)
noncomputable def i_isAll_F (x0 : List Int) (x1 : Int) : Option (Bool) :=
    some ((x0.length : Int) == (inc (IntKind.wrap .i64 (((bounds x1).2) - ((bounds x1).1)))))
theorem i_isAll_D (x0 : List Int) (x1 : Int) : Ans (i_isAll_F x0 x1) (fun r => Does E 55 [.one (.s .far () 1 (x0.map etI)), .one (tI x1)] [(false, [tB r])]) := by
  unfold i_isAll_F
  exact Ans.some (i_isAll_P0 x0 x1)
noncomputable def isAll (l : List Int) (i : Int) : Bool := (i_isAll_F l i).getD false
theorem isAll_2 (l : List Int) : isAll l 2 = ((l.length : Int) == 31) := rfl
theorem isAll_4 (l : List Int) : isAll l 4 = ((l.length : Int) == 7) := rfl
theorem T_i_isAll (x0 : List Int) (x1 : Int) : Does E 55 [.one (.s .far () 1 (x0.map etI)), .one (tI x1)] [(false, [tB (isAll x0 x1)])] := by
  exact i_isAll_D x0 x1 _ rfl
theorem s_l10Day_P0 (x0 : GCron) (x1 : Int) (h0 : x0.f2.length ≤ 1050000) (h1 : (isIn x0.f2 (((civilOf x1).1).f2)) = true) (h2 : x0.f4.length ≤ 1050000) (h3 : x0.f3.length ≤ 1050000) (h4 : (isIn x0.f3 (((civilOf x1).1).f1)) = true) (h5 : ((x0.f2.length : Int) == (31 : Int)) = true) : Does E 30 [.agg (GCron.t .far x0), .one (tI x1)] [(false, [tB (isIn x0.f4 (weekdayOf x1))])] :=
  Does.path (fn := Try.f30) [.ret [(true, GCivil.t ((civilOf x1).1)), (false, [tB ((civilOf x1).2)])], rT, .ret [(false, [tI (weekdayOf x1)])], .ret [(false, [tB (isIn x0.f4 (weekdayOf x1))])], rT, .val (.int .i64 (x0.f2.length : Int)), .b true] _ rfl (fun _ => rfl) (fun k => by kernel_rfl) (AD (T_s_CivilOf x1) <| AD (Does.tB (T_s_l10In x0.f2 (((civilOf x1).1).f2) h0) h1) <| AD (T_s_WeekdayOf x1) <| AD (T_s_l10In x0.f4 (weekdayOf x1) h2) <| AD (Does.tB (T_s_l10In x0.f3 (((civilOf x1).1).f1) h3) h4) <| AV (ψ := fun _ => ((x0.f2.map etI).length : Int) = (x0.f2.length : Int)) (Ev.c lenMap) <| AC h5 <| AN)
theorem s_l10Day_P1 (x0 : GCron) (x1 : Int) (h0 : x0.f2.length ≤ 1050000) (h1 : (isIn x0.f2 (((civilOf x1).1).f2)) = false) (h2 : x0.f4.length ≤ 1050000) (h3 : x0.f3.length ≤ 1050000) (h4 : (isIn x0.f3 (((civilOf x1).1).f1)) = true) (h5 : ((x0.f2.length : Int) == (31 : Int)) = true) : Does E 30 [.agg (GCron.t .far x0), .one (tI x1)] [(false, [tB false])] :=
  Does.path (fn := Try.f30) [.ret [(true, GCivil.t ((civilOf x1).1)), (false, [tB ((civilOf x1).2)])], rF, .ret [(false, [tI (weekdayOf x1)])], .ret [(false, [tB (isIn x0.f4 (weekdayOf x1))])], rT, .val (.int .i64 (x0.f2.length : Int)), .b true] _ rfl (fun _ => rfl) (fun k => by kernel_rfl) (AD (T_s_CivilOf x1) <| AD (Does.tB (T_s_l10In x0.f2 (((civilOf x1).1).f2) h0) h1) <| AD (T_s_WeekdayOf x1) <| AD (T_s_l10In x0.f4 (weekdayOf x1) h2) <| AD (Does.tB (T_s_l10In x0.f3 (((civilOf x1).1).f1) h3) h4) <| AV (ψ := fun _ => ((x0.f2.map etI).length : Int) = (x0.f2.length : Int)) (Ev.c lenMap) <| AC h5 <| AN)
theorem s_l10Day_P2 (x0 : GCron) (x1 : Int) (h0 : x0.f2.length ≤ 1050000) (h1 : (isIn x0.f2 (((civilOf x1).1).f2)) = true) (h2 : x0.f4.length ≤ 1050000) (h3 : x0.f3.length ≤ 1050000) (h4 : (isIn x0.f3 (((civilOf x1).1).f1)) = true) (h5 : ((x0.f2.length : Int) == (31 : Int)) = false) (h6 : ((x0.f4.length : Int) == (7 : Int)) = true) : Does E 30 [.agg (GCron.t .far x0), .one (tI x1)] [(false, [tB (isIn x0.f4 (weekdayOf x1))])] :=
  Does.path (fn := Try.f30) [.ret [(true, GCivil.t ((civilOf x1).1)), (false, [tB ((civilOf x1).2)])], rT, .ret [(false, [tI (weekdayOf x1)])], .ret [(false, [tB (isIn x0.f4 (weekdayOf x1))])], rT, .val (.int .i64 (x0.f2.length : Int)), .b false, .val (.int .i64 (x0.f4.length : Int)), .b true] _ rfl (fun _ => rfl) (fun k => by kernel_rfl) (AD (T_s_CivilOf x1) <| AD (Does.tB (T_s_l10In x0.f2 (((civilOf x1).1).f2) h0) h1) <| AD (T_s_WeekdayOf x1) <| AD (T_s_l10In x0.f4 (weekdayOf x1) h2) <| AD (Does.tB (T_s_l10In x0.f3 (((civilOf x1).1).f1) h3) h4) <| AV (ψ := fun _ => ((x0.f2.map etI).length : Int) = (x0.f2.length : Int)) (Ev.c lenMap) <| AC h5 <| AV (ψ := fun _ => ((x0.f4.map etI).length : Int) = (x0.f4.length : Int)) (Ev.c lenMap) <| AC h6 <| AN)
theorem s_l10Day_P3 (x0 : GCron) (x1 : Int) (h0 : x0.f2.length ≤ 1050000) (h1 : (isIn x0.f2 (((civilOf x1).1).f2)) = false) (h2 : x0.f4.length ≤ 1050000) (h3 : x0.f3.length ≤ 1050000) (h4 : (isIn x0.f3 (((civilOf x1).1).f1)) = true) (h5 : ((x0.f2.length : Int) == (31 : Int)) = false) (h6 : ((x0.f4.length : Int) == (7 : Int)) = true) : Does E 30 [.agg (GCron.t .far x0), .one (tI x1)] [(false, [tB false])] :=
  Does.path (fn := Try.f30) [.ret [(true, GCivil.t ((civilOf x1).1)), (false, [tB ((civilOf x1).2)])], rF, .ret [(false, [tI (weekdayOf x1)])], .ret [(false, [tB (isIn x0.f4 (weekdayOf x1))])], rT, .val (.int .i64 (x0.f2.length : Int)), .b false, .val (.int .i64 (x0.f4.length : Int)), .b true] _ rfl (fun _ => rfl) (fun k => by kernel_rfl) (AD (T_s_CivilOf x1) <| AD (Does.tB (T_s_l10In x0.f2 (((civilOf x1).1).f2) h0) h1) <| AD (T_s_WeekdayOf x1) <| AD (T_s_l10In x0.f4 (weekdayOf x1) h2) <| AD (Does.tB (T_s_l10In x0.f3 (((civilOf x1).1).f1) h3) h4) <| AV (ψ := fun _ => ((x0.f2.map etI).length : Int) = (x0.f2.length : Int)) (Ev.c lenMap) <| AC h5 <| AV (ψ := fun _ => ((x0.f4.map etI).length : Int) = (x0.f4.length : Int)) (Ev.c lenMap) <| AC h6 <| AN)
theorem s_l10Day_P4 (x0 : GCron) (x1 : Int) (h0 : x0.f2.length ≤ 1050000) (h1 : (isIn x0.f2 (((civilOf x1).1).f2)) = true) (h2 : x0.f4.length ≤ 1050000) (h3 : x0.f3.length ≤ 1050000) (h4 : (isIn x0.f3 (((civilOf x1).1).f1)) = true) (h5 : ((x0.f2.length : Int) == (31 : Int)) = false) (h6 : ((x0.f4.length : Int) == (7 : Int)) = false) : Does E 30 [.agg (GCron.t .far x0), .one (tI x1)] [(false, [tB true])] :=
  Does.path (fn := Try.f30) [.ret [(true, GCivil.t ((civilOf x1).1)), (false, [tB ((civilOf x1).2)])], rT, .ret [(false, [tI (weekdayOf x1)])], .ret [(false, [tB (isIn x0.f4 (weekdayOf x1))])], rT, .val (.int .i64 (x0.f2.length : Int)), .b false, .val (.int .i64 (x0.f4.length : Int)), .b false] _ rfl (fun _ => rfl) (fun k => by kernel_rfl) (AD (T_s_CivilOf x1) <| AD (Does.tB (T_s_l10In x0.f2 (((civilOf x1).1).f2) h0) h1) <| AD (T_s_WeekdayOf x1) <| AD (T_s_l10In x0.f4 (weekdayOf x1) h2) <| AD (Does.tB (T_s_l10In x0.f3 (((civilOf x1).1).f1) h3) h4) <| AV (ψ := fun _ => ((x0.f2.map etI).length : Int) = (x0.f2.length : Int)) (Ev.c lenMap) <| AC h5 <| AV (ψ := fun _ => ((x0.f4.map etI).length : Int) = (x0.f4.length : Int)) (Ev.c lenMap) <| AC h6 <| AN)
theorem s_l10Day_P5 (x0 : GCron) (x1 : Int) (h0 : x0.f2.length ≤ 1050000) (h1 : (isIn x0.f2 (((civilOf x1).1).f2)) = false) (h2 : x0.f4.length ≤ 1050000) (h3 : x0.f3.length ≤ 1050000) (h4 : (isIn x0.f3 (((civilOf x1).1).f1)) = true) (h5 : ((x0.f2.length : Int) == (31 : Int)) = false) (h6 : ((x0.f4.length : Int) == (7 : Int)) = false) : Does E 30 [.agg (GCron.t .far x0), .one (tI x1)] [(false, [tB (isIn x0.f4 (weekdayOf x1))])] :=
  Does.path (fn := Try.f30) [.ret [(true, GCivil.t ((civilOf x1).1)), (false, [tB ((civilOf x1).2)])], rF, .ret [(false, [tI (weekdayOf x1)])], .ret [(false, [tB (isIn x0.f4 (weekdayOf x1))])], rT, .val (.int .i64 (x0.f2.length : Int)), .b false, .val (.int .i64 (x0.f4.length : Int)), .b false] _ rfl (fun _ => rfl) (fun k => by kernel_rfl) (AD (T_s_CivilOf x1) <| AD (Does.tB (T_s_l10In x0.f2 (((civilOf x1).1).f2) h0) h1) <| AD (T_s_WeekdayOf x1) <| AD (T_s_l10In x0.f4 (weekdayOf x1) h2) <| AD (Does.tB (T_s_l10In x0.f3 (((civilOf x1).1).f1) h3) h4) <| AV (ψ := fun _ => ((x0.f2.map etI).length : Int) = (x0.f2.length : Int)) (Ev.c lenMap) <| AC h5 <| AV (ψ := fun _ => ((x0.f4.map etI).length : Int) = (x0.f4.length : Int)) (Ev.c lenMap) <| AC h6 <| AN)
theorem s_l10Day_P6 (x0 : GCron) (x1 : Int) (h0 : x0.f2.length ≤ 1050000) (h1 : x0.f4.length ≤ 1050000) (h2 : x0.f3.length ≤ 1050000) (h3 : (isIn x0.f3 (((civilOf x1).1).f1)) = false) : Does E 30 [.agg (GCron.t .far x0), .one (tI x1)] [(false, [tB false])] :=
  Does.path (fn := Try.f30) [.ret [(true, GCivil.t ((civilOf x1).1)), (false, [tB ((civilOf x1).2)])], .ret [(false, [tB (isIn x0.f2 (((civilOf x1).1).f2))])], .ret [(false, [tI (weekdayOf x1)])], .ret [(false, [tB (isIn x0.f4 (weekdayOf x1))])], rF] _ rfl (fun _ => rfl) (fun k => by kernel_rfl) (AD (T_s_CivilOf x1) <| AD (T_s_l10In x0.f2 (((civilOf x1).1).f2) h0) <| AD (T_s_WeekdayOf x1) <| AD (T_s_l10In x0.f4 (weekdayOf x1) h1) <| AD (Does.tB (T_s_l10In x0.f3 (((civilOf x1).1).f1) h2) h3) <| AN)
noncomputable def s_l10Day_F (x0 : GCron) (x1 : Int) : Option (Bool) :=
    if x0.f2.length ≤ 1050000 then cond (isIn x0.f2 (((civilOf x1).1).f2))
      (if x0.f4.length ≤ 1050000 then if x0.f3.length ≤ 1050000 then cond (isIn x0.f3 (((civilOf x1).1).f1))
        (cond ((x0.f2.length : Int) == (31 : Int))
          (some (isIn x0.f4 (weekdayOf x1)))
          (cond ((x0.f4.length : Int) == (7 : Int))
            (some (isIn x0.f4 (weekdayOf x1)))
            (some (true))))
        (some (false)) else none else none)
      (if x0.f4.length ≤ 1050000 then if x0.f3.length ≤ 1050000 then cond (isIn x0.f3 (((civilOf x1).1).f1))
        (cond ((x0.f2.length : Int) == (31 : Int))
          (some (false))
          (cond ((x0.f4.length : Int) == (7 : Int))
            (some (false))
            (some (isIn x0.f4 (weekdayOf x1)))))
        (some (false)) else none else none) else none
theorem s_l10Day_D (x0 : GCron) (x1 : Int) : Ans (s_l10Day_F x0 x1) (fun r => Does E 30 [.agg (GCron.t .far x0), .one (tI x1)] [(false, [tB r])]) := by
  unfold s_l10Day_F
  refine Ans.pre (fun h0 => ?_)
  refine Ans.ite (fun f1 => ?_) (fun f1 => ?_)
  · refine Ans.pre (fun f2 => ?_)
    refine Ans.pre (fun f3 => ?_)
    refine Ans.ite (fun f4 => ?_) (fun f4 => ?_)
    · refine Ans.ite (fun h5 => ?_) (fun h5 => ?_)
      · exact Ans.some (s_l10Day_P0 x0 x1 h0 f1 f2 f3 f4 h5)
      · refine Ans.ite (fun h6 => ?_) (fun h6 => ?_)
        · exact Ans.some (s_l10Day_P2 x0 x1 h0 f1 f2 f3 f4 h5 h6)
        · exact Ans.some (s_l10Day_P4 x0 x1 h0 f1 f2 f3 f4 h5 h6)
    · exact Ans.some (s_l10Day_P6 x0 x1 h0 f2 f3 f4)
  · refine Ans.pre (fun f5 => ?_)
    refine Ans.pre (fun f6 => ?_)
    refine Ans.ite (fun f7 => ?_) (fun f7 => ?_)
    · refine Ans.ite (fun h5 => ?_) (fun h5 => ?_)
      · exact Ans.some (s_l10Day_P1 x0 x1 h0 f1 f5 f6 f7 h5)
      · refine Ans.ite (fun h6 => ?_) (fun h6 => ?_)
        · exact Ans.some (s_l10Day_P3 x0 x1 h0 f1 f5 f6 f7 h5 h6)
        · exact Ans.some (s_l10Day_P5 x0 x1 h0 f1 f5 f6 f7 h5 h6)
    · exact Ans.some (s_l10Day_P6 x0 x1 h0 f5 f6 f7)
theorem i_dayFires_P0 (x0 : GCron) (x1 : Int) (x2 : GCivil) (h0 : x0.f3.length ≤ 1050000) (h1 : (isIn x0.f3 x2.f1) = true) (h2 : x0.f2.length ≤ 1050000) (h3 : (isIn x0.f2 x2.f2) = true) (h4 : x0.f4.length ≤ 1050000) (h5 : (isAll x0.f2 (2 : Int)) = true) : Does E 48 [.agg (GCron.t .far x0), .one (tI x1), .agg (GCivil.t x2)] [(false, [tB (isIn x0.f4 (weekdayOf x1))])] :=
  Does.path (fn := Try.f48) [rT, rT, .ret [(false, [tI (weekdayOf x1)])], .ret [(false, [tB (isIn x0.f4 (weekdayOf x1))])], rT] _ rfl (fun _ => rfl) (fun k => by kernel_rfl) (AD (Does.tB (T_slices_Contains_int x0.f3 x2.f1 h0) h1) <| AD (Does.tB (T_slices_Contains_int x0.f2 x2.f2 h2) h3) <| AD (T_i_WeekdayOf x1) <| AD (T_slices_Contains_int x0.f4 (weekdayOf x1) h4) <| AD (Does.tB (T_i_isAll x0.f2 (2 : Int)) h5) <| AN)
theorem i_dayFires_P1 (x0 : GCron) (x1 : Int) (x2 : GCivil) (h0 : x0.f3.length ≤ 1050000) (h1 : (isIn x0.f3 x2.f1) = true) (h2 : x0.f2.length ≤ 1050000) (h3 : (isIn x0.f2 x2.f2) = false) (h4 : x0.f4.length ≤ 1050000) (h5 : (isAll x0.f2 (2 : Int)) = true) : Does E 48 [.agg (GCron.t .far x0), .one (tI x1), .agg (GCivil.t x2)] [(false, [tB false])] :=
  Does.path (fn := Try.f48) [rT, rF, .ret [(false, [tI (weekdayOf x1)])], .ret [(false, [tB (isIn x0.f4 (weekdayOf x1))])], rT] _ rfl (fun _ => rfl) (fun k => by kernel_rfl) (AD (Does.tB (T_slices_Contains_int x0.f3 x2.f1 h0) h1) <| AD (Does.tB (T_slices_Contains_int x0.f2 x2.f2 h2) h3) <| AD (T_i_WeekdayOf x1) <| AD (T_slices_Contains_int x0.f4 (weekdayOf x1) h4) <| AD (Does.tB (T_i_isAll x0.f2 (2 : Int)) h5) <| AN)
theorem i_dayFires_P2 (x0 : GCron) (x1 : Int) (x2 : GCivil) (h0 : x0.f3.length ≤ 1050000) (h1 : (isIn x0.f3 x2.f1) = true) (h2 : x0.f2.length ≤ 1050000) (h3 : (isIn x0.f2 x2.f2) = true) (h4 : x0.f4.length ≤ 1050000) (h5 : (isAll x0.f2 (2 : Int)) = false) (h6 : (isAll x0.f4 (4 : Int)) = true) : Does E 48 [.agg (GCron.t .far x0), .one (tI x1), .agg (GCivil.t x2)] [(false, [tB (isIn x0.f4 (weekdayOf x1))])] :=
  Does.path (fn := Try.f48) [rT, rT, .ret [(false, [tI (weekdayOf x1)])], .ret [(false, [tB (isIn x0.f4 (weekdayOf x1))])], rF, rT] _ rfl (fun _ => rfl) (fun k => by kernel_rfl) (AD (Does.tB (T_slices_Contains_int x0.f3 x2.f1 h0) h1) <| AD (Does.tB (T_slices_Contains_int x0.f2 x2.f2 h2) h3) <| AD (T_i_WeekdayOf x1) <| AD (T_slices_Contains_int x0.f4 (weekdayOf x1) h4) <| AD (Does.tB (T_i_isAll x0.f2 (2 : Int)) h5) <| AD (Does.tB (T_i_isAll x0.f4 (4 : Int)) h6) <| AN)
theorem i_dayFires_P3 (x0 : GCron) (x1 : Int) (x2 : GCivil) (h0 : x0.f3.length ≤ 1050000) (h1 : (isIn x0.f3 x2.f1) = true) (h2 : x0.f2.length ≤ 1050000) (h3 : (isIn x0.f2 x2.f2) = false) (h4 : x0.f4.length ≤ 1050000) (h5 : (isAll x0.f2 (2 : Int)) = false) (h6 : (isAll x0.f4 (4 : Int)) = true) : Does E 48 [.agg (GCron.t .far x0), .one (tI x1), .agg (GCivil.t x2)] [(false, [tB false])] :=
  Does.path (fn := Try.f48) [rT, rF, .ret [(false, [tI (weekdayOf x1)])], .ret [(false, [tB (isIn x0.f4 (weekdayOf x1))])], rF, rT] _ rfl (fun _ => rfl) (fun k => by kernel_rfl) (AD (Does.tB (T_slices_Contains_int x0.f3 x2.f1 h0) h1) <| AD (Does.tB (T_slices_Contains_int x0.f2 x2.f2 h2) h3) <| AD (T_i_WeekdayOf x1) <| AD (T_slices_Contains_int x0.f4 (weekdayOf x1) h4) <| AD (Does.tB (T_i_isAll x0.f2 (2 : Int)) h5) <| AD (Does.tB (T_i_isAll x0.f4 (4 : Int)) h6) <| AN)
theorem i_dayFires_P4 (x0 : GCron) (x1 : Int) (x2 : GCivil) (h0 : x0.f3.length ≤ 1050000) (h1 : (isIn x0.f3 x2.f1) = true) (h2 : x0.f2.length ≤ 1050000) (h3 : (isIn x0.f2 x2.f2) = true) (h4 : x0.f4.length ≤ 1050000) (h5 : (isAll x0.f2 (2 : Int)) = false) (h6 : (isAll x0.f4 (4 : Int)) = false) : Does E 48 [.agg (GCron.t .far x0), .one (tI x1), .agg (GCivil.t x2)] [(false, [tB true])] :=
  Does.path (fn := Try.f48) [rT, rT, .ret [(false, [tI (weekdayOf x1)])], .ret [(false, [tB (isIn x0.f4 (weekdayOf x1))])], rF, rF] _ rfl (fun _ => rfl) (fun k => by kernel_rfl) (AD (Does.tB (T_slices_Contains_int x0.f3 x2.f1 h0) h1) <| AD (Does.tB (T_slices_Contains_int x0.f2 x2.f2 h2) h3) <| AD (T_i_WeekdayOf x1) <| AD (T_slices_Contains_int x0.f4 (weekdayOf x1) h4) <| AD (Does.tB (T_i_isAll x0.f2 (2 : Int)) h5) <| AD (Does.tB (T_i_isAll x0.f4 (4 : Int)) h6) <| AN)
theorem i_dayFires_P5 (x0 : GCron) (x1 : Int) (x2 : GCivil) (h0 : x0.f3.length ≤ 1050000) (h1 : (isIn x0.f3 x2.f1) = true) (h2 : x0.f2.length ≤ 1050000) (h3 : (isIn x0.f2 x2.f2) = false) (h4 : x0.f4.length ≤ 1050000) (h5 : (isAll x0.f2 (2 : Int)) = false) (h6 : (isAll x0.f4 (4 : Int)) = false) : Does E 48 [.agg (GCron.t .far x0), .one (tI x1), .agg (GCivil.t x2)] [(false, [tB (isIn x0.f4 (weekdayOf x1))])] :=
  Does.path (fn := Try.f48) [rT, rF, .ret [(false, [tI (weekdayOf x1)])], .ret [(false, [tB (isIn x0.f4 (weekdayOf x1))])], rF, rF] _ rfl (fun _ => rfl) (fun k => by kernel_rfl) (AD (Does.tB (T_slices_Contains_int x0.f3 x2.f1 h0) h1) <| AD (Does.tB (T_slices_Contains_int x0.f2 x2.f2 h2) h3) <| AD (T_i_WeekdayOf x1) <| AD (T_slices_Contains_int x0.f4 (weekdayOf x1) h4) <| AD (Does.tB (T_i_isAll x0.f2 (2 : Int)) h5) <| AD (Does.tB (T_i_isAll x0.f4 (4 : Int)) h6) <| AN)
theorem i_dayFires_P6 (x0 : GCron) (x1 : Int) (x2 : GCivil) (h0 : x0.f3.length ≤ 1050000) (h1 : (isIn x0.f3 x2.f1) = false) : Does E 48 [.agg (GCron.t .far x0), .one (tI x1), .agg (GCivil.t x2)] [(false, [tB false])] :=
  Does.path (fn := Try.f48) [rF] _ rfl (fun _ => rfl) (fun k => by kernel_rfl) (AD (Does.tB (T_slices_Contains_int x0.f3 x2.f1 h0) h1) <| AN)
noncomputable def i_dayFires_F (x0 : GCron) (x1 : Int) (x2 : GCivil) : Option (Bool) :=
    if x0.f3.length ≤ 1050000 then cond (isIn x0.f3 x2.f1)
      (if x0.f2.length ≤ 1050000 then cond (isIn x0.f2 x2.f2)
        (if x0.f4.length ≤ 1050000 then cond (isAll x0.f2 (2 : Int))
          (some (isIn x0.f4 (weekdayOf x1)))
          (cond (isAll x0.f4 (4 : Int))
            (some (isIn x0.f4 (weekdayOf x1)))
            (some (true))) else none)
        (if x0.f4.length ≤ 1050000 then cond (isAll x0.f2 (2 : Int))
          (some (false))
          (cond (isAll x0.f4 (4 : Int))
            (some (false))
            (some (isIn x0.f4 (weekdayOf x1)))) else none) else none)
      (some (false)) else none
theorem i_dayFires_D (x0 : GCron) (x1 : Int) (x2 : GCivil) : Ans (i_dayFires_F x0 x1 x2) (fun r => Does E 48 [.agg (GCron.t .far x0), .one (tI x1), .agg (GCivil.t x2)] [(false, [tB r])]) := by
  unfold i_dayFires_F
  refine Ans.pre (fun h0 => ?_)
  refine Ans.ite (fun h1 => ?_) (fun h1 => ?_)
  · refine Ans.pre (fun h2 => ?_)
    refine Ans.ite (fun h3 => ?_) (fun h3 => ?_)
    · refine Ans.pre (fun h4 => ?_)
      refine Ans.ite (fun h5 => ?_) (fun h5 => ?_)
      · exact Ans.some (i_dayFires_P0 x0 x1 x2 h0 h1 h2 h3 h4 h5)
      · refine Ans.ite (fun h6 => ?_) (fun h6 => ?_)
        · exact Ans.some (i_dayFires_P2 x0 x1 x2 h0 h1 h2 h3 h4 h5 h6)
        · exact Ans.some (i_dayFires_P4 x0 x1 x2 h0 h1 h2 h3 h4 h5 h6)
    · refine Ans.pre (fun h4 => ?_)
      refine Ans.ite (fun h5 => ?_) (fun h5 => ?_)
      · exact Ans.some (i_dayFires_P1 x0 x1 x2 h0 h1 h2 h3 h4 h5)
      · refine Ans.ite (fun h6 => ?_) (fun h6 => ?_)
        · exact Ans.some (i_dayFires_P3 x0 x1 x2 h0 h1 h2 h3 h4 h5 h6)
        · exact Ans.some (i_dayFires_P5 x0 x1 x2 h0 h1 h2 h3 h4 h5 h6)
  · exact Ans.some (i_dayFires_P6 x0 x1 x2 h0 h1)
noncomputable def dayFires (c : GCron) (m : Int) (v : GCivil) : Bool :=
  isIn c.f3 v.f1 && (cond (((c.f2.length : Int) == 31) || ((c.f4.length : Int) == 7)) (isIn c.f2 v.f2 && isIn c.f4 (weekdayOf m)) (isIn c.f2 v.f2 || isIn c.f4 (weekdayOf m)))
noncomputable def dayOk (c : GCron) (m : Int) : Bool := dayFires c m (civilOf m).1
theorem T_s_l10Day (x0 : GCron) (x1 : Int) (h : Small.sm x0) : Does E 30 [.agg (GCron.t .far x0), .one (tI x1)] [(false, [tB (dayOk x0 x1)])] := by
  exact s_l10Day_D x0 x1 _ (by
    have h2 := h.2.2.1.1
    have h3 := h.2.2.2.1.1
    have h4 := h.2.2.2.2.1
    unfold s_l10Day_F dayOk dayFires
    simp only [h2, h3, h4, if_true, isAll_2, isAll_4]
    cases isIn x0.f3 (civilOf x1).1.f1 <;> cases isIn x0.f2 (civilOf x1).1.f2 <;> cases (x0.f2.length : Int) == 31 <;> cases (x0.f4.length : Int) == 7 <;> simp)
theorem T_i_dayFires (x0 : GCron) (x1 : Int) (x2 : GCivil) (h : Small.sm x0) : Does E 48 [.agg (GCron.t .far x0), .one (tI x1), .agg (GCivil.t x2)] [(false, [tB (dayFires x0 x1 x2)])] := by
  exact i_dayFires_D x0 x1 x2 _ (by
    have h2 := h.2.2.1.1
    have h3 := h.2.2.2.1.1
    have h4 := h.2.2.2.2.1
    unfold i_dayFires_F dayFires
    simp only [h2, h3, h4, if_true, isAll_2, isAll_4]
    cases isIn x0.f3 x2.f1 <;> cases isIn x0.f2 x2.f2 <;> cases (x0.f2.length : Int) == 31 <;> cases (x0.f4.length : Int) == 7 <;> simp)
theorem day_same (c : GCron) (x : Int) (h0 : 0 ≤ x) (h1 : x ≤ 68374079) : dayFires c x (civilOf x).1 = dayOk c (x / 1440 * 1440) := by
  unfold dayOk dayFires
  rw [(civil_same x h0 h1).1, (civil_same x h0 h1).2, week_same x h0 h1]
theorem rise_in {a b : Int} : ∀ {l : List Int} {p : Option Int}, riseOk a b l p = true → ∀ x ∈ l, a ≤ x ∧ x ≤ b
  | [], _, _, x, hx => by cases hx
  | y :: l, p, h, x, hx => by
    unfold riseOk at h
    simp only [Bool.and_eq_true] at h
    rcases List.mem_cons.1 hx with rfl | hx
    · exact inRange_iff.1 h.1.1
    · exact rise_in h.2 x hx
theorem list_in {l : List Int} {a b : Int} (h : listOk l a b = true) : ∀ x ∈ l, a ≤ x ∧ x ≤ b := by
  unfold listOk at h
  rw [Bool.and_eq_true] at h
  exact rise_in h.1
theorem cron_hours {c : GCron} (h : cronOk c = true) : (∀ x ∈ c.f0, 0 ≤ x ∧ x ≤ 59) ∧ ∀ x ∈ c.f1, 0 ≤ x ∧ x ≤ 23 := by
  unfold cronOk at h
  simp only [Bool.and_eq_true] at h
  exact ⟨list_in h.1, list_in h.2.1⟩
inductive i_nextIn_X1 where
  | ret (v4 : Int) (v5 : Bool)
  | x2 
def i_nextIn_Q1 (v1 : Int) (v2_0 : List Int) (v2_1 : List Int) (v2_2 : List Int) (v2_3 : List Int) (v2_4 : List Int) (v6 : Int) (v8 : Int) (v17 : List Int) (v18 : Int) (v19 : Int) (v24 : List Int) (v25 : Int) (v26 : Int) : i_nextIn_X1 → Prop
  | .ret zv4 zv5 => Loops E 49 (lpAt Try.f49 1) (stL 42 [(1, .one (tI v1)), (2, .box () [.s .far () 1 (v2_0.map etI), .s .far () 1 (v2_1.map etI), .s .far () 1 (v2_2.map etI), .s .far () 1 (v2_3.map etI), .s .far () 1 (v2_4.map etI)]), (6, .one (tI v6)), (8, .one (tI v8)), (17, .one (.s .far () 1 (v17.map etI))), (18, .one (tI v18)), (19, .one (tI v19)), (24, .one (.s .far () 1 (v24.map etI))), (25, .one (tI v25)), (26, .one (tI v26))]) .ret (stL 42 [(4, .one (tI zv4)), (5, .one (tB zv5))])
  | .x2 => Loops E 49 (lpAt Try.f49 1) (stL 42 [(1, .one (tI v1)), (2, .box () [.s .far () 1 (v2_0.map etI), .s .far () 1 (v2_1.map etI), .s .far () 1 (v2_2.map etI), .s .far () 1 (v2_3.map etI), .s .far () 1 (v2_4.map etI)]), (6, .one (tI v6)), (8, .one (tI v8)), (17, .one (.s .far () 1 (v17.map etI))), (18, .one (tI v18)), (19, .one (tI v19)), (24, .one (.s .far () 1 (v24.map etI))), (25, .one (tI v25)), (26, .one (tI v26))]) (.exit 2) (stL 42 [(1, .one (tI v1)), (2, .box () [.s .far () 1 (v2_0.map etI), .s .far () 1 (v2_1.map etI), .s .far () 1 (v2_2.map etI), .s .far () 1 (v2_3.map etI), .s .far () 1 (v2_4.map etI)]), (6, .one (tI v6)), (17, .one (.s .far () 1 (v17.map etI))), (18, .one (tI v18)), (19, .one (tI v19))])
theorem i_nextIn_R1_0 (v1 : Int) (v2_0 : List Int) (v2_1 : List Int) (v2_2 : List Int) (v2_3 : List Int) (v2_4 : List Int) (v6 : Int) (v8 : Int) (v17 : List Int) (v18 : Int) (v19 : Int) (v24 : List Int) (v25 : Int) (v26 : Int) (g0 : Int) (h0 : (decide (v26 < v25)) = true) (h1 : getI v24 v26 = some g0) (h2 : (decide ((IntKind.wrap .i64 ((IntKind.wrap .i64 (v6 + (IntKind.wrap .i64 (v8 * (60 : Int))))) + g0)) ≥ v1)) = true) : Round E 49 (lpAt Try.f49 1) (stL 42 [(1, .one (tI v1)), (2, .box () [.s .far () 1 (v2_0.map etI), .s .far () 1 (v2_1.map etI), .s .far () 1 (v2_2.map etI), .s .far () 1 (v2_3.map etI), .s .far () 1 (v2_4.map etI)]), (6, .one (tI v6)), (8, .one (tI v8)), (17, .one (.s .far () 1 (v17.map etI))), (18, .one (tI v18)), (19, .one (tI v19)), (24, .one (.s .far () 1 (v24.map etI))), (25, .one (tI v25)), (26, .one (tI v26))]) .ret (stL 42 [(4, .one (tI (IntKind.wrap .i64 ((IntKind.wrap .i64 (v6 + (IntKind.wrap .i64 (v8 * (60 : Int))))) + g0)))), (5, .one (tB true))]) :=
  Round.path [.b true, .row (etI g0), .no, .no, .no, .b true] _ (fun k => by kernel_rfl) (AC h0 <| AV (ψ := fun _ => 0 ≤ v26 ∧ (v24.map etI)[v26.toNat]? = some (etI g0)) (Ev.c (getRow h1)) <| AC h2 <| AN)
theorem i_nextIn_R1_1 (v1 : Int) (v2_0 : List Int) (v2_1 : List Int) (v2_2 : List Int) (v2_3 : List Int) (v2_4 : List Int) (v6 : Int) (v8 : Int) (v17 : List Int) (v18 : Int) (v19 : Int) (v24 : List Int) (v25 : Int) (v26 : Int) (g0 : Int) (h0 : (decide (v26 < v25)) = true) (h1 : getI v24 v26 = some g0) (h2 : (decide ((IntKind.wrap .i64 ((IntKind.wrap .i64 (v6 + (IntKind.wrap .i64 (v8 * (60 : Int))))) + g0)) ≥ v1)) = false) : Round E 49 (lpAt Try.f49 1) (stL 42 [(1, .one (tI v1)), (2, .box () [.s .far () 1 (v2_0.map etI), .s .far () 1 (v2_1.map etI), .s .far () 1 (v2_2.map etI), .s .far () 1 (v2_3.map etI), .s .far () 1 (v2_4.map etI)]), (6, .one (tI v6)), (8, .one (tI v8)), (17, .one (.s .far () 1 (v17.map etI))), (18, .one (tI v18)), (19, .one (tI v19)), (24, .one (.s .far () 1 (v24.map etI))), (25, .one (tI v25)), (26, .one (tI v26))]) .normal (stL 42 [(1, .one (tI v1)), (2, .box () [.s .far () 1 (v2_0.map etI), .s .far () 1 (v2_1.map etI), .s .far () 1 (v2_2.map etI), .s .far () 1 (v2_3.map etI), .s .far () 1 (v2_4.map etI)]), (6, .one (tI v6)), (8, .one (tI v8)), (17, .one (.s .far () 1 (v17.map etI))), (18, .one (tI v18)), (19, .one (tI v19)), (24, .one (.s .far () 1 (v24.map etI))), (25, .one (tI v25)), (26, .one (tI (inc v26)))]) :=
  Round.path [.b true, .row (etI g0), .no, .no, .no, .b false] _ (fun k => by kernel_rfl) (AC h0 <| AV (ψ := fun _ => 0 ≤ v26 ∧ (v24.map etI)[v26.toNat]? = some (etI g0)) (Ev.c (getRow h1)) <| AC h2 <| AN)
theorem i_nextIn_R1_2 (v1 : Int) (v2_0 : List Int) (v2_1 : List Int) (v2_2 : List Int) (v2_3 : List Int) (v2_4 : List Int) (v6 : Int) (v8 : Int) (v17 : List Int) (v18 : Int) (v19 : Int) (v24 : List Int) (v25 : Int) (v26 : Int) (h0 : (decide (v26 < v25)) = false) : Round E 49 (lpAt Try.f49 1) (stL 42 [(1, .one (tI v1)), (2, .box () [.s .far () 1 (v2_0.map etI), .s .far () 1 (v2_1.map etI), .s .far () 1 (v2_2.map etI), .s .far () 1 (v2_3.map etI), .s .far () 1 (v2_4.map etI)]), (6, .one (tI v6)), (8, .one (tI v8)), (17, .one (.s .far () 1 (v17.map etI))), (18, .one (tI v18)), (19, .one (tI v19)), (24, .one (.s .far () 1 (v24.map etI))), (25, .one (tI v25)), (26, .one (tI v26))]) (.exit 2) (stL 42 [(1, .one (tI v1)), (2, .box () [.s .far () 1 (v2_0.map etI), .s .far () 1 (v2_1.map etI), .s .far () 1 (v2_2.map etI), .s .far () 1 (v2_3.map etI), .s .far () 1 (v2_4.map etI)]), (6, .one (tI v6)), (17, .one (.s .far () 1 (v17.map etI))), (18, .one (tI v18)), (19, .one (tI v19))]) :=
  Round.path [.b false] _ (fun k => by kernel_rfl) (AC h0 <| AN)
noncomputable def i_nextIn_l1 (v1 : Int) (v6 : Int) (v8 : Int) : List Int → Nat → Option i_nextIn_X1
  | [], i => some (.x2)
  | hd :: rest, i => cond (decide ((IntKind.wrap .i64 ((IntKind.wrap .i64 (v6 + (IntKind.wrap .i64 (v8 * (60 : Int))))) + hd)) ≥ v1))
    (some (.ret (IntKind.wrap .i64 ((IntKind.wrap .i64 (v6 + (IntKind.wrap .i64 (v8 * (60 : Int))))) + hd)) true))
    (i_nextIn_l1 v1 v6 v8 rest (i + 1))
theorem i_nextIn_L1 (v1 : Int) (v2_0 : List Int) (v2_1 : List Int) (v2_2 : List Int) (v2_3 : List Int) (v2_4 : List Int) (v6 : Int) (v8 : Int) (v17 : List Int) (v18 : Int) (v19 : Int) (v24 : List Int) (rest : List Int) : ∀ (i : Nat) , (v24).drop i = rest → v24.length ≤ 9223372036854775807 → Ans (i_nextIn_l1 v1 v6 v8 rest i) (i_nextIn_Q1 v1 v2_0 v2_1 v2_2 v2_3 v2_4 v6 v8 v17 v18 v19 v24 (v24.length : Int) (i : Int)) := by
  induction rest with
  | nil =>
    intro i hE hl
    have hb := foldEnd hE
    unfold i_nextIn_l1
    exact Ans.some (Loops.stop (i_nextIn_R1_2 v1 v2_0 v2_1 v2_2 v2_3 v2_4 v6 v8 v17 v18 v19 v24 (v24.length : Int) (i : Int) hb) (by intro h; cases h))
  | cons hd rest ih =>
    intro i hE hl
    have hb := foldMore hE
    have hw := foldNext hE hl
    have hE2 := foldRest hE
    have hg := foldGet hE
    unfold i_nextIn_l1
    refine Ans.ite (fun h2 => ?_) (fun h2 => ?_)
    · exact Ans.some (Loops.stop (i_nextIn_R1_0 v1 v2_0 v2_1 v2_2 v2_3 v2_4 v6 v8 v17 v18 v19 v24 (v24.length : Int) (i : Int) hd hb hg h2) (by intro h; cases h))
    · exact (ih (i + 1) hE2 hl).mono fun y hy => by have r := i_nextIn_R1_1 v1 v2_0 v2_1 v2_2 v2_3 v2_4 v6 v8 v17 v18 v19 v24 (v24.length : Int) (i : Int) hd hb hg h2; rw [hw] at r; cases y <;> exact Loops.next r hy
inductive i_nextIn_X0 where
  | ret (v4 : Int) (v5 : Bool)
  | x0 
def i_nextIn_Q0 (v1 : Int) (v2_0 : List Int) (v2_1 : List Int) (v2_2 : List Int) (v2_3 : List Int) (v2_4 : List Int) (v6 : Int) (v17 : List Int) (v18 : Int) (v19 : Int) : i_nextIn_X0 → Prop
  | .ret zv4 zv5 => Loops E 49 (lpAt Try.f49 0) (stL 42 [(1, .one (tI v1)), (2, .box () [.s .far () 1 (v2_0.map etI), .s .far () 1 (v2_1.map etI), .s .far () 1 (v2_2.map etI), .s .far () 1 (v2_3.map etI), .s .far () 1 (v2_4.map etI)]), (6, .one (tI v6)), (17, .one (.s .far () 1 (v17.map etI))), (18, .one (tI v18)), (19, .one (tI v19))]) .ret (stL 42 [(4, .one (tI zv4)), (5, .one (tB zv5))])
  | .x0 => Loops E 49 (lpAt Try.f49 0) (stL 42 [(1, .one (tI v1)), (2, .box () [.s .far () 1 (v2_0.map etI), .s .far () 1 (v2_1.map etI), .s .far () 1 (v2_2.map etI), .s .far () 1 (v2_3.map etI), .s .far () 1 (v2_4.map etI)]), (6, .one (tI v6)), (17, .one (.s .far () 1 (v17.map etI))), (18, .one (tI v18)), (19, .one (tI v19))]) (.exit 0) (stL 42 [])
theorem i_nextIn_R0_0 (v1 : Int) (v2_0 : List Int) (v2_1 : List Int) (v2_2 : List Int) (v2_3 : List Int) (v2_4 : List Int) (v6 : Int) (v17 : List Int) (v18 : Int) (v19 : Int) (g0 : Int) (w0_4 : Int) (w0_5 : Bool) (h0 : (decide (v19 < v18)) = true) (h1 : getI v17 v19 = some g0) (h2 : Loops E 49 (lpAt Try.f49 1) (stL 42 [(1, .one (tI v1)), (2, .box () [.s .far () 1 (v2_0.map etI), .s .far () 1 (v2_1.map etI), .s .far () 1 (v2_2.map etI), .s .far () 1 (v2_3.map etI), .s .far () 1 (v2_4.map etI)]), (6, .one (tI v6)), (8, .one (tI g0)), (17, .one (.s .far () 1 (v17.map etI))), (18, .one (tI v18)), (19, .one (tI v19)), (24, .one (.s .far () 1 (v2_0.map etI))), (25, .one (tI (v2_0.length : Int))), (26, .one (tI (0 : Int)))]) .ret (stL 42 [(4, .one (tI w0_4)), (5, .one (tB w0_5))])) : Round E 49 (lpAt Try.f49 0) (stL 42 [(1, .one (tI v1)), (2, .box () [.s .far () 1 (v2_0.map etI), .s .far () 1 (v2_1.map etI), .s .far () 1 (v2_2.map etI), .s .far () 1 (v2_3.map etI), .s .far () 1 (v2_4.map etI)]), (6, .one (tI v6)), (17, .one (.s .far () 1 (v17.map etI))), (18, .one (tI v18)), (19, .one (tI v19))]) .ret (stL 42 [(4, .one (tI w0_4)), (5, .one (tB w0_5))]) :=
  Round.path [.b true, .row (etI g0), .val (.int .i64 (v2_0.length : Int)), .lp .ret (stL 42 [(4, .one (tI w0_4)), (5, .one (tB w0_5))])] _ (fun k => by kernel_rfl) (AC h0 <| AV (ψ := fun _ => 0 ≤ v19 ∧ (v17.map etI)[v19.toNat]? = some (etI g0)) (Ev.c (getRow h1)) <| AV (ψ := fun _ => ((v2_0.map etI).length : Int) = (v2_0.length : Int)) (Ev.c lenMap) <| AV (ψ := fun k => LoopK E 49 (lpAt Try.f49 1) (stL 42 [(1, .one (tI v1)), (2, .box () [.s .far () 1 (v2_0.map etI), .s .far () 1 (v2_1.map etI), .s .far () 1 (v2_2.map etI), .s .far () 1 (v2_3.map etI), .s .far () 1 (v2_4.map etI)]), (6, .one (tI v6)), (8, .one (tI g0)), (17, .one (.s .far () 1 (v17.map etI))), (18, .one (tI v18)), (19, .one (tI v19)), (24, .one (.s .far () 1 (v2_0.map etI))), (25, .one (tI (v2_0.length : Int))), (26, .one (tI (0 : Int)))]) .ret (stL 42 [(4, .one (tI w0_4)), (5, .one (tB w0_5))]) k k) (Loops.ev h2) <| AN)
theorem i_nextIn_R0_1 (v1 : Int) (v2_0 : List Int) (v2_1 : List Int) (v2_2 : List Int) (v2_3 : List Int) (v2_4 : List Int) (v6 : Int) (v17 : List Int) (v18 : Int) (v19 : Int) (g0 : Int) (h0 : (decide (v19 < v18)) = true) (h1 : getI v17 v19 = some g0) (h2 : Loops E 49 (lpAt Try.f49 1) (stL 42 [(1, .one (tI v1)), (2, .box () [.s .far () 1 (v2_0.map etI), .s .far () 1 (v2_1.map etI), .s .far () 1 (v2_2.map etI), .s .far () 1 (v2_3.map etI), .s .far () 1 (v2_4.map etI)]), (6, .one (tI v6)), (8, .one (tI g0)), (17, .one (.s .far () 1 (v17.map etI))), (18, .one (tI v18)), (19, .one (tI v19)), (24, .one (.s .far () 1 (v2_0.map etI))), (25, .one (tI (v2_0.length : Int))), (26, .one (tI (0 : Int)))]) (.exit 2) (stL 42 [(1, .one (tI v1)), (2, .box () [.s .far () 1 (v2_0.map etI), .s .far () 1 (v2_1.map etI), .s .far () 1 (v2_2.map etI), .s .far () 1 (v2_3.map etI), .s .far () 1 (v2_4.map etI)]), (6, .one (tI v6)), (17, .one (.s .far () 1 (v17.map etI))), (18, .one (tI v18)), (19, .one (tI v19))])) : Round E 49 (lpAt Try.f49 0) (stL 42 [(1, .one (tI v1)), (2, .box () [.s .far () 1 (v2_0.map etI), .s .far () 1 (v2_1.map etI), .s .far () 1 (v2_2.map etI), .s .far () 1 (v2_3.map etI), .s .far () 1 (v2_4.map etI)]), (6, .one (tI v6)), (17, .one (.s .far () 1 (v17.map etI))), (18, .one (tI v18)), (19, .one (tI v19))]) .normal (stL 42 [(1, .one (tI v1)), (2, .box () [.s .far () 1 (v2_0.map etI), .s .far () 1 (v2_1.map etI), .s .far () 1 (v2_2.map etI), .s .far () 1 (v2_3.map etI), .s .far () 1 (v2_4.map etI)]), (6, .one (tI v6)), (17, .one (.s .far () 1 (v17.map etI))), (18, .one (tI v18)), (19, .one (tI (inc v19)))]) :=
  Round.path [.b true, .row (etI g0), .val (.int .i64 (v2_0.length : Int)), .lp (.exit 2) (stL 42 [(1, .one (tI v1)), (2, .box () [.s .far () 1 (v2_0.map etI), .s .far () 1 (v2_1.map etI), .s .far () 1 (v2_2.map etI), .s .far () 1 (v2_3.map etI), .s .far () 1 (v2_4.map etI)]), (6, .one (tI v6)), (17, .one (.s .far () 1 (v17.map etI))), (18, .one (tI v18)), (19, .one (tI v19))])] _ (fun k => by kernel_rfl) (AC h0 <| AV (ψ := fun _ => 0 ≤ v19 ∧ (v17.map etI)[v19.toNat]? = some (etI g0)) (Ev.c (getRow h1)) <| AV (ψ := fun _ => ((v2_0.map etI).length : Int) = (v2_0.length : Int)) (Ev.c lenMap) <| AV (ψ := fun k => LoopK E 49 (lpAt Try.f49 1) (stL 42 [(1, .one (tI v1)), (2, .box () [.s .far () 1 (v2_0.map etI), .s .far () 1 (v2_1.map etI), .s .far () 1 (v2_2.map etI), .s .far () 1 (v2_3.map etI), .s .far () 1 (v2_4.map etI)]), (6, .one (tI v6)), (8, .one (tI g0)), (17, .one (.s .far () 1 (v17.map etI))), (18, .one (tI v18)), (19, .one (tI v19)), (24, .one (.s .far () 1 (v2_0.map etI))), (25, .one (tI (v2_0.length : Int))), (26, .one (tI (0 : Int)))]) (.exit 2) (stL 42 [(1, .one (tI v1)), (2, .box () [.s .far () 1 (v2_0.map etI), .s .far () 1 (v2_1.map etI), .s .far () 1 (v2_2.map etI), .s .far () 1 (v2_3.map etI), .s .far () 1 (v2_4.map etI)]), (6, .one (tI v6)), (17, .one (.s .far () 1 (v17.map etI))), (18, .one (tI v18)), (19, .one (tI v19))]) k k) (Loops.ev h2) <| AN)
theorem i_nextIn_R0_2 (v1 : Int) (v2_0 : List Int) (v2_1 : List Int) (v2_2 : List Int) (v2_3 : List Int) (v2_4 : List Int) (v6 : Int) (v17 : List Int) (v18 : Int) (v19 : Int) (h0 : (decide (v19 < v18)) = false) : Round E 49 (lpAt Try.f49 0) (stL 42 [(1, .one (tI v1)), (2, .box () [.s .far () 1 (v2_0.map etI), .s .far () 1 (v2_1.map etI), .s .far () 1 (v2_2.map etI), .s .far () 1 (v2_3.map etI), .s .far () 1 (v2_4.map etI)]), (6, .one (tI v6)), (17, .one (.s .far () 1 (v17.map etI))), (18, .one (tI v18)), (19, .one (tI v19))]) (.exit 0) (stL 42 []) :=
  Round.path [.b false] _ (fun k => by kernel_rfl) (AC h0 <| AN)
noncomputable def i_nextIn_l0 (v1 : Int) (v2_0 : List Int) (v6 : Int) : List Int → Nat → Option i_nextIn_X0
  | [], i => some (.x0)
  | hd :: rest, i => if v2_0.length ≤ 9223372036854775807 then (i_nextIn_l1 v1 v6 hd v2_0 0).bind fun y => match y with
    | .ret w0_4 w0_5 => (some (.ret w0_4 w0_5))
    | .x2 => (i_nextIn_l0 v1 v2_0 v6 rest (i + 1)) else none
theorem i_nextIn_L0 (v1 : Int) (v2_0 : List Int) (v2_1 : List Int) (v2_2 : List Int) (v2_3 : List Int) (v2_4 : List Int) (v6 : Int) (v17 : List Int) (rest : List Int) : ∀ (i : Nat) , (v17).drop i = rest → v17.length ≤ 9223372036854775807 → Ans (i_nextIn_l0 v1 v2_0 v6 rest i) (i_nextIn_Q0 v1 v2_0 v2_1 v2_2 v2_3 v2_4 v6 v17 (v17.length : Int) (i : Int)) := by
  induction rest with
  | nil =>
    intro i hE hl
    have hb := foldEnd hE
    unfold i_nextIn_l0
    exact Ans.some (Loops.stop (i_nextIn_R0_2 v1 v2_0 v2_1 v2_2 v2_3 v2_4 v6 v17 (v17.length : Int) (i : Int) hb) (by intro h; cases h))
  | cons hd rest ih =>
    intro i hE hl
    have hb := foldMore hE
    have hw := foldNext hE hl
    have hE2 := foldRest hE
    have hg := foldGet hE
    unfold i_nextIn_l0
    refine Ans.pre (fun hl2 => ?_)
    refine Ans.bind (fun y hy => ?_)
    replace hy := i_nextIn_L1 v1 v2_0 v2_1 v2_2 v2_3 v2_4 v6 hd v17 (v17.length : Int) (i : Int) v2_0 v2_0 0 rfl hl2 y hy
    cases y with
    | ret w0_4 w0_5 =>
      have h2 := hy
      exact Ans.some (Loops.stop (i_nextIn_R0_0 v1 v2_0 v2_1 v2_2 v2_3 v2_4 v6 v17 (v17.length : Int) (i : Int) hd w0_4 w0_5 hb hg h2) (by intro h; cases h))
    | x2 =>
      have h2 := hy
      exact (ih (i + 1) hE2 hl).mono fun y hy => by have r := i_nextIn_R0_1 v1 v2_0 v2_1 v2_2 v2_3 v2_4 v6 v17 (v17.length : Int) (i : Int) hd hb hg h2; rw [hw] at r; cases y <;> exact Loops.next r hy
theorem i_nextIn_P0 (x0 : GCron) (x1 : Int) (w0_4 : Int) (w0_5 : Bool) (h0 : Loops E 49 (lpAt Try.f49 0) (stL 42 [(1, .one (tI x1)), (2, .box () [.s .far () 1 (x0.f0.map etI), .s .far () 1 (x0.f1.map etI), .s .far () 1 (x0.f2.map etI), .s .far () 1 (x0.f3.map etI), .s .far () 1 (x0.f4.map etI)]), (6, .one (tI (IntKind.wrap .i64 (x1 - (Int.tmod x1 (1440 : Int)))))), (17, .one (.s .far () 1 (x0.f1.map etI))), (18, .one (tI (x0.f1.length : Int))), (19, .one (tI (0 : Int)))]) .ret (stL 42 [(4, .one (tI w0_4)), (5, .one (tB w0_5))])) : Does E 49 [.agg (GCron.t .far x0), .one (tI x1)] [(false, [tI w0_4]), (false, [tB w0_5])] :=
  Does.path (fn := Try.f49) [.no, .no, .val (.int .i64 (x0.f1.length : Int)), .lp .ret (stL 42 [(4, .one (tI w0_4)), (5, .one (tB w0_5))])] _ rfl (fun _ => rfl) (fun k => by kernel_rfl) (AV (ψ := fun _ => ((x0.f1.map etI).length : Int) = (x0.f1.length : Int)) (Ev.c lenMap) <| AV (ψ := fun k => LoopK E 49 (lpAt Try.f49 0) (stL 42 [(1, .one (tI x1)), (2, .box () [.s .far () 1 (x0.f0.map etI), .s .far () 1 (x0.f1.map etI), .s .far () 1 (x0.f2.map etI), .s .far () 1 (x0.f3.map etI), .s .far () 1 (x0.f4.map etI)]), (6, .one (tI (IntKind.wrap .i64 (x1 - (Int.tmod x1 (1440 : Int)))))), (17, .one (.s .far () 1 (x0.f1.map etI))), (18, .one (tI (x0.f1.length : Int))), (19, .one (tI (0 : Int)))]) .ret (stL 42 [(4, .one (tI w0_4)), (5, .one (tB w0_5))]) k k) (Loops.ev h0) <| AN)
theorem i_nextIn_P1 (x0 : GCron) (x1 : Int) (h0 : Loops E 49 (lpAt Try.f49 0) (stL 42 [(1, .one (tI x1)), (2, .box () [.s .far () 1 (x0.f0.map etI), .s .far () 1 (x0.f1.map etI), .s .far () 1 (x0.f2.map etI), .s .far () 1 (x0.f3.map etI), .s .far () 1 (x0.f4.map etI)]), (6, .one (tI (IntKind.wrap .i64 (x1 - (Int.tmod x1 (1440 : Int)))))), (17, .one (.s .far () 1 (x0.f1.map etI))), (18, .one (tI (x0.f1.length : Int))), (19, .one (tI (0 : Int)))]) (.exit 0) (stL 42 [])) : Does E 49 [.agg (GCron.t .far x0), .one (tI x1)] [(false, [tI (0 : Int)]), (false, [tB false])] :=
  Does.path (fn := Try.f49) [.no, .no, .val (.int .i64 (x0.f1.length : Int)), .lp (.exit 0) (stL 42 [])] _ rfl (fun _ => rfl) (fun k => by kernel_rfl) (AV (ψ := fun _ => ((x0.f1.map etI).length : Int) = (x0.f1.length : Int)) (Ev.c lenMap) <| AV (ψ := fun k => LoopK E 49 (lpAt Try.f49 0) (stL 42 [(1, .one (tI x1)), (2, .box () [.s .far () 1 (x0.f0.map etI), .s .far () 1 (x0.f1.map etI), .s .far () 1 (x0.f2.map etI), .s .far () 1 (x0.f3.map etI), .s .far () 1 (x0.f4.map etI)]), (6, .one (tI (IntKind.wrap .i64 (x1 - (Int.tmod x1 (1440 : Int)))))), (17, .one (.s .far () 1 (x0.f1.map etI))), (18, .one (tI (x0.f1.length : Int))), (19, .one (tI (0 : Int)))]) (.exit 0) (stL 42 []) k k) (Loops.ev h0) <| AN)
noncomputable def i_nextIn_F (x0 : GCron) (x1 : Int) : Option (Int × Bool) :=
    if x0.f1.length ≤ 9223372036854775807 then (i_nextIn_l0 x1 x0.f0 (IntKind.wrap .i64 (x1 - (Int.tmod x1 (1440 : Int)))) x0.f1 0).bind fun y => match y with
      | .ret w0_4 w0_5 => (some (w0_4, w0_5))
      | .x0 => (some ((0 : Int), false)) else none
theorem i_nextIn_D (x0 : GCron) (x1 : Int) : Ans (i_nextIn_F x0 x1) (fun r => Does E 49 [.agg (GCron.t .far x0), .one (tI x1)] [(false, [tI r.1]), (false, [tB r.2])]) := by
  unfold i_nextIn_F
  refine Ans.pre (fun hl1 => ?_)
  refine Ans.bind (fun y hy => ?_)
  replace hy := i_nextIn_L0 x1 x0.f0 x0.f1 x0.f2 x0.f3 x0.f4 (IntKind.wrap .i64 (x1 - (Int.tmod x1 (1440 : Int)))) x0.f1 x0.f1 0 rfl hl1 y hy
  cases y with
  | ret w0_4 w0_5 =>
    have h0 := hy
    exact Ans.some (i_nextIn_P0 x0 x1 w0_4 w0_5 h0)
  | x0 =>
    have h0 := hy
    exact Ans.some (i_nextIn_P1 x0 x1 h0)
def firstM (d from_ h : Int) (mins : List Int) : Option Int := (mins.map fun x => d * 1440 + h * 60 + x).find? fun m => decide (m ≥ from_)
def firstH (d from_ : Int) (hours mins : List Int) : Option Int := hours.findSome? fun h => firstM d from_ h mins
noncomputable def nextIn (c : GCron) (x : Int) : Int × Bool := (i_nextIn_F c x).getD (0, false)
theorem min_i (d from_ h : Int) (h0 : 0 ≤ d) (h1 : d < 47482) (hh : 0 ≤ h ∧ h ≤ 23) : ∀ (mins : List Int) (i : Nat), (∀ x ∈ mins, 0 ≤ x ∧ x ≤ 59) →
    i_nextIn_l1 from_ (d * 1440) h mins i = some (match firstM d from_ h mins with | some m => .ret m true | none => .x2)
  | [], i, _ => rfl
  | x :: mins, i, hm => by
    have hx := hm x (by simp)
    unfold i_nextIn_l1
    have e : IntKind.wrap .i64 (IntKind.wrap .i64 (d * 1440 + IntKind.wrap .i64 (h * 60)) + x) = d * 1440 + h * 60 + x := by
      rw [wrap_id (h * 60) (by omega) (by omega), wrap_id (d * 1440 + h * 60) (by omega) (by omega), wrap_id _ (by omega) (by omega)]
    rw [e, min_i d from_ h h0 h1 hh mins (i + 1) fun y hy => hm y (by simp [hy])]
    unfold firstM
    rw [List.map_cons, List.find?_cons]
    cases decide (d * 1440 + h * 60 + x ≥ from_) <;> rfl
theorem hour_i (d from_ : Int) (h0 : 0 ≤ d) (h1 : d < 47482) (mins : List Int) (hl : mins.length ≤ 1050000) (hm : ∀ x ∈ mins, 0 ≤ x ∧ x ≤ 59) : ∀ (hours : List Int) (i : Nat), (∀ x ∈ hours, 0 ≤ x ∧ x ≤ 23) →
    i_nextIn_l0 from_ mins (d * 1440) hours i = some (match firstH d from_ hours mins with | some m => .ret m true | none => .x0)
  | [], i, _ => rfl
  | h :: hours, i, hh => by
    unfold i_nextIn_l0
    rw [if_pos (by omega), min_i d from_ h h0 h1 (hh h (by simp)) mins 0 hm, hour_i d from_ h0 h1 mins hl hm hours (i + 1) fun y hy => hh y (by simp [hy])]
    unfold firstH
    rw [List.findSome?_cons]
    cases firstM d from_ h mins <;> rfl
theorem nextIn_ok (c : GCron) (x : Int) (h : Small.sm c) (hc : cronOk c = true) (h0 : 0 ≤ x) (h1 : x ≤ 68374079) : i_nextIn_F c x = some (nextIn c x) ∧ nextIn c x = (match firstH (x / 1440) x c.f1 c.f0 with | some m => (m, true) | none => (0, false)) := by
  obtain ⟨hm, hh⟩ := cron_hours hc
  have e : i_nextIn_F c x = some (match firstH (x / 1440) x c.f1 c.f0 with | some m => (m, true) | none => (0, false)) := by
    unfold i_nextIn_F
    have e0 : IntKind.wrap .i64 (x - Int.tmod x 1440) = x / 1440 * 1440 := by
      rw [Int.tmod_eq_emod_of_nonneg h0, wrap_id _ (by omega) (by omega)]; omega
    have l0 := h.1.1
    have l1 := h.2.1.1
    rw [e0, if_pos (by omega), hour_i (x / 1440) x (by omega) (by omega) c.f0 l0 hm c.f1 0 hh]
    cases firstH (x / 1440) x c.f1 c.f0 <;> rfl
  have p : nextIn c x = (match firstH (x / 1440) x c.f1 c.f0 with | some m => (m, true) | none => (0, false)) := by unfold nextIn; rw [e]; rfl
  exact ⟨by rw [p]; exact e, p⟩
theorem nextIn_tot (c : GCron) (x : Int) (h : Small.sm c) : i_nextIn_F c x = some (nextIn c x) := by
  refine Tot.getD ?_ _
  have l0 := h.1.1
  have l1 := h.2.1.1
  have t1 : ∀ (a b k : Int) (l : List Int) (i : Nat), Tot (i_nextIn_l1 a b k l i) := by
    intro a b k l
    induction l with
    | nil => exact fun i => Tot.some _
    | cons y l ih => intro i; unfold i_nextIn_l1; exact Tot.cond (Tot.some _) (ih _)
  have t0 : ∀ (a b : Int) (l : List Int) (i : Nat), Tot (i_nextIn_l0 a c.f0 b l i) := by
    intro a b l
    induction l with
    | nil => exact fun i => Tot.some _
    | cons y l ih =>
      intro i
      unfold i_nextIn_l0
      refine Tot.ite (by omega) (Tot.bind (t1 _ _ _ _ _) fun z hz => ?_)
      cases z
      · exact Tot.some _
      · exact ih _
  unfold i_nextIn_F
  refine Tot.ite (by omega) (Tot.bind (t0 _ _ _ _) fun z hz => ?_)
  cases z <;> exact Tot.some _
theorem T_i_nextIn (x0 : GCron) (x1 : Int) (h : Small.sm x0) : Does E 49 [.agg (GCron.t .far x0), .one (tI x1)] [(false, [tI ((nextIn x0 x1).1)]), (false, [tB ((nextIn x0 x1).2)])] := by
  exact i_nextIn_D x0 x1 _ (nextIn_tot x0 x1 h)
inductive i_nextFire_X0 where
  | ret (v6 : Int) (v7 : Bool)
  | x0 
def i_nextFire_Q0 (v1 : Int) (v2 : Int) (v3_0 : List Int) (v3_1 : List Int) (v3_2 : List Int) (v3_3 : List Int) (v3_4 : List Int) (v8 : Int) : i_nextFire_X0 → Prop
  | .ret zv6 zv7 => Loops E 40 (lpAt Try.f40 0) (stL 45 [(1, .one (tI v1)), (2, .one (tI v2)), (3, .box () [.s .far () 1 (v3_0.map etI), .s .far () 1 (v3_1.map etI), .s .far () 1 (v3_2.map etI), .s .far () 1 (v3_3.map etI), .s .far () 1 (v3_4.map etI)]), (8, .one (tI v8))]) .ret (stL 45 [(6, .one (tI zv6)), (7, .one (tB zv7))])
  | .x0 => Loops E 40 (lpAt Try.f40 0) (stL 45 [(1, .one (tI v1)), (2, .one (tI v2)), (3, .box () [.s .far () 1 (v3_0.map etI), .s .far () 1 (v3_1.map etI), .s .far () 1 (v3_2.map etI), .s .far () 1 (v3_3.map etI), .s .far () 1 (v3_4.map etI)]), (8, .one (tI v8))]) (.exit 0) (stL 45 [])
theorem i_nextFire_R0_0 (v1 : Int) (v2 : Int) (v3_0 : List Int) (v3_1 : List Int) (v3_2 : List Int) (v3_3 : List Int) (v3_4 : List Int) (v8 : Int) (h0 : (decide (v8 ≤ (minI v2 (3000 : Int)))) = true) (h1 : (isMinute v1) = true) (h2 : Small.sm (GCron.mk v3_0 v3_1 v3_2 v3_3 v3_4)) (h3 : (dayFires (GCron.mk v3_0 v3_1 v3_2 v3_3 v3_4) v1 ((civilOf v1).1)) = true) (h4 : ((nextIn (GCron.mk v3_0 v3_1 v3_2 v3_3 v3_4) v1).2) = true) : Round E 40 (lpAt Try.f40 0) (stL 45 [(1, .one (tI v1)), (2, .one (tI v2)), (3, .box () [.s .far () 1 (v3_0.map etI), .s .far () 1 (v3_1.map etI), .s .far () 1 (v3_2.map etI), .s .far () 1 (v3_3.map etI), .s .far () 1 (v3_4.map etI)]), (8, .one (tI v8))]) .ret (stL 45 [(6, .one (tI ((nextIn (GCron.mk v3_0 v3_1 v3_2 v3_3 v3_4) v1).1))), (7, .one (tB true))]) :=
  Round.path [.val (.int .i64 (minI v2 (3000 : Int))), .b true, rT, .ret [(true, GCivil.t ((civilOf v1).1)), (false, [tB ((civilOf v1).2)])], rT, .ret [(false, [tI ((nextIn (GCron.mk v3_0 v3_1 v3_2 v3_3 v3_4) v1).1)]), (false, [tB true])]] _ (fun k => by kernel_rfl) (AV (ψ := fun _ => (if (3000 : Int) < v2 then (3000 : Int) else v2) = minI v2 (3000 : Int)) (Ev.c rfl) <| AC h0 <| AD (Does.tB (T_i_isMinute v1) h1) <| AD (T_i_CivilOf v1) <| AD (Does.tB (T_i_dayFires (GCron.mk v3_0 v3_1 v3_2 v3_3 v3_4) v1 ((civilOf v1).1) h2) h3) <| AV (ψ := fun k => E.C k 49 [.agg (GCron.t .far (GCron.mk v3_0 v3_1 v3_2 v3_3 v3_4)), .one (tI v1)] = some [(false, [tI ((nextIn (GCron.mk v3_0 v3_1 v3_2 v3_3 v3_4) v1).1)]), (false, [tB true])]) (Does.to (T_i_nextIn (GCron.mk v3_0 v3_1 v3_2 v3_3 v3_4) v1 h2) (by rw [h4])) <| AN)
theorem i_nextFire_R0_1 (v1 : Int) (v2 : Int) (v3_0 : List Int) (v3_1 : List Int) (v3_2 : List Int) (v3_3 : List Int) (v3_4 : List Int) (v8 : Int) (h0 : (decide (v8 ≤ (minI v2 (3000 : Int)))) = true) (h1 : (isMinute v1) = true) (h2 : Small.sm (GCron.mk v3_0 v3_1 v3_2 v3_3 v3_4)) (h3 : (dayFires (GCron.mk v3_0 v3_1 v3_2 v3_3 v3_4) v1 ((civilOf v1).1)) = true) (h4 : ((nextIn (GCron.mk v3_0 v3_1 v3_2 v3_3 v3_4) v1).2) = false) : Round E 40 (lpAt Try.f40 0) (stL 45 [(1, .one (tI v1)), (2, .one (tI v2)), (3, .box () [.s .far () 1 (v3_0.map etI), .s .far () 1 (v3_1.map etI), .s .far () 1 (v3_2.map etI), .s .far () 1 (v3_3.map etI), .s .far () 1 (v3_4.map etI)]), (8, .one (tI v8))]) .normal (stL 45 [(1, .one (tI (IntKind.wrap .i64 (v1 + (IntKind.wrap .i64 ((1440 : Int) - (Int.tmod v1 (1440 : Int)))))))), (2, .one (tI v2)), (3, .box () [.s .far () 1 (v3_0.map etI), .s .far () 1 (v3_1.map etI), .s .far () 1 (v3_2.map etI), .s .far () 1 (v3_3.map etI), .s .far () 1 (v3_4.map etI)]), (8, .one (tI (inc v8)))]) :=
  Round.path [.val (.int .i64 (minI v2 (3000 : Int))), .b true, rT, .ret [(true, GCivil.t ((civilOf v1).1)), (false, [tB ((civilOf v1).2)])], rT, .ret [(false, [tI ((nextIn (GCron.mk v3_0 v3_1 v3_2 v3_3 v3_4) v1).1)]), (false, [tB false])]] _ (fun k => by kernel_rfl) (AV (ψ := fun _ => (if (3000 : Int) < v2 then (3000 : Int) else v2) = minI v2 (3000 : Int)) (Ev.c rfl) <| AC h0 <| AD (Does.tB (T_i_isMinute v1) h1) <| AD (T_i_CivilOf v1) <| AD (Does.tB (T_i_dayFires (GCron.mk v3_0 v3_1 v3_2 v3_3 v3_4) v1 ((civilOf v1).1) h2) h3) <| AV (ψ := fun k => E.C k 49 [.agg (GCron.t .far (GCron.mk v3_0 v3_1 v3_2 v3_3 v3_4)), .one (tI v1)] = some [(false, [tI ((nextIn (GCron.mk v3_0 v3_1 v3_2 v3_3 v3_4) v1).1)]), (false, [tB false])]) (Does.to (T_i_nextIn (GCron.mk v3_0 v3_1 v3_2 v3_3 v3_4) v1 h2) (by rw [h4])) <| AN)
theorem i_nextFire_R0_2 (v1 : Int) (v2 : Int) (v3_0 : List Int) (v3_1 : List Int) (v3_2 : List Int) (v3_3 : List Int) (v3_4 : List Int) (v8 : Int) (h0 : (decide (v8 ≤ (minI v2 (3000 : Int)))) = true) (h1 : (isMinute v1) = true) (h2 : Small.sm (GCron.mk v3_0 v3_1 v3_2 v3_3 v3_4)) (h3 : (dayFires (GCron.mk v3_0 v3_1 v3_2 v3_3 v3_4) v1 ((civilOf v1).1)) = false) : Round E 40 (lpAt Try.f40 0) (stL 45 [(1, .one (tI v1)), (2, .one (tI v2)), (3, .box () [.s .far () 1 (v3_0.map etI), .s .far () 1 (v3_1.map etI), .s .far () 1 (v3_2.map etI), .s .far () 1 (v3_3.map etI), .s .far () 1 (v3_4.map etI)]), (8, .one (tI v8))]) .normal (stL 45 [(1, .one (tI (IntKind.wrap .i64 (v1 + (IntKind.wrap .i64 ((1440 : Int) - (Int.tmod v1 (1440 : Int)))))))), (2, .one (tI v2)), (3, .box () [.s .far () 1 (v3_0.map etI), .s .far () 1 (v3_1.map etI), .s .far () 1 (v3_2.map etI), .s .far () 1 (v3_3.map etI), .s .far () 1 (v3_4.map etI)]), (8, .one (tI (inc v8)))]) :=
  Round.path [.val (.int .i64 (minI v2 (3000 : Int))), .b true, rT, .ret [(true, GCivil.t ((civilOf v1).1)), (false, [tB ((civilOf v1).2)])], rF] _ (fun k => by kernel_rfl) (AV (ψ := fun _ => (if (3000 : Int) < v2 then (3000 : Int) else v2) = minI v2 (3000 : Int)) (Ev.c rfl) <| AC h0 <| AD (Does.tB (T_i_isMinute v1) h1) <| AD (T_i_CivilOf v1) <| AD (Does.tB (T_i_dayFires (GCron.mk v3_0 v3_1 v3_2 v3_3 v3_4) v1 ((civilOf v1).1) h2) h3) <| AN)
theorem i_nextFire_R0_3 (v1 : Int) (v2 : Int) (v3_0 : List Int) (v3_1 : List Int) (v3_2 : List Int) (v3_3 : List Int) (v3_4 : List Int) (v8 : Int) (h0 : (decide (v8 ≤ (minI v2 (3000 : Int)))) = true) (h1 : (isMinute v1) = false) : Round E 40 (lpAt Try.f40 0) (stL 45 [(1, .one (tI v1)), (2, .one (tI v2)), (3, .box () [.s .far () 1 (v3_0.map etI), .s .far () 1 (v3_1.map etI), .s .far () 1 (v3_2.map etI), .s .far () 1 (v3_3.map etI), .s .far () 1 (v3_4.map etI)]), (8, .one (tI v8))]) (.exit 0) (stL 45 []) :=
  Round.path [.val (.int .i64 (minI v2 (3000 : Int))), .b true, rF] _ (fun k => by kernel_rfl) (AV (ψ := fun _ => (if (3000 : Int) < v2 then (3000 : Int) else v2) = minI v2 (3000 : Int)) (Ev.c rfl) <| AC h0 <| AD (Does.tB (T_i_isMinute v1) h1) <| AN)
theorem i_nextFire_R0_4 (v1 : Int) (v2 : Int) (v3_0 : List Int) (v3_1 : List Int) (v3_2 : List Int) (v3_3 : List Int) (v3_4 : List Int) (v8 : Int) (h0 : (decide (v8 ≤ (minI v2 (3000 : Int)))) = false) : Round E 40 (lpAt Try.f40 0) (stL 45 [(1, .one (tI v1)), (2, .one (tI v2)), (3, .box () [.s .far () 1 (v3_0.map etI), .s .far () 1 (v3_1.map etI), .s .far () 1 (v3_2.map etI), .s .far () 1 (v3_3.map etI), .s .far () 1 (v3_4.map etI)]), (8, .one (tI v8))]) (.exit 0) (stL 45 []) :=
  Round.path [.val (.int .i64 (minI v2 (3000 : Int))), .b false] _ (fun k => by kernel_rfl) (AV (ψ := fun _ => (if (3000 : Int) < v2 then (3000 : Int) else v2) = minI v2 (3000 : Int)) (Ev.c rfl) <| AC h0 <| AN)
noncomputable def i_nextFire_l0 (v2 : Int) (v3_0 : List Int) (v3_1 : List Int) (v3_2 : List Int) (v3_3 : List Int) (v3_4 : List Int) : Nat → Int → Int → Option i_nextFire_X0
  | 0, _, _ => none
  | n + 1, v1, v8 => cond (decide (v8 ≤ (minI v2 (3000 : Int))))
    (cond (isMinute v1)
      (if Small.sm (GCron.mk v3_0 v3_1 v3_2 v3_3 v3_4) then cond (dayFires (GCron.mk v3_0 v3_1 v3_2 v3_3 v3_4) v1 ((civilOf v1).1))
        (cond ((nextIn (GCron.mk v3_0 v3_1 v3_2 v3_3 v3_4) v1).2)
          (some (.ret ((nextIn (GCron.mk v3_0 v3_1 v3_2 v3_3 v3_4) v1).1) true))
          (i_nextFire_l0 v2 v3_0 v3_1 v3_2 v3_3 v3_4 n (IntKind.wrap .i64 (v1 + (IntKind.wrap .i64 ((1440 : Int) - (Int.tmod v1 (1440 : Int)))))) (inc v8)))
        (i_nextFire_l0 v2 v3_0 v3_1 v3_2 v3_3 v3_4 n (IntKind.wrap .i64 (v1 + (IntKind.wrap .i64 ((1440 : Int) - (Int.tmod v1 (1440 : Int)))))) (inc v8)) else none)
      (some (.x0)))
    (some (.x0))
theorem i_nextFire_L0 (v2 : Int) (v3_0 : List Int) (v3_1 : List Int) (v3_2 : List Int) (v3_3 : List Int) (v3_4 : List Int) (n : Nat) : ∀ (v1 : Int) (v8 : Int), Ans (i_nextFire_l0 v2 v3_0 v3_1 v3_2 v3_3 v3_4 n v1 v8) (i_nextFire_Q0 v1 v2 v3_0 v3_1 v3_2 v3_3 v3_4 v8) := by
  induction n with
  | zero => intros; exact Ans.none
  | succ n ih =>
    intro v1 v8
    unfold i_nextFire_l0
    refine Ans.ite (fun h0 => ?_) (fun h0 => ?_)
    · refine Ans.ite (fun h1 => ?_) (fun h1 => ?_)
      · refine Ans.pre (fun h2 => ?_)
        refine Ans.ite (fun h3 => ?_) (fun h3 => ?_)
        · refine Ans.ite (fun h4 => ?_) (fun h4 => ?_)
          · exact Ans.some (Loops.stop (i_nextFire_R0_0 v1 v2 v3_0 v3_1 v3_2 v3_3 v3_4 v8 h0 h1 h2 h3 h4) (by intro h; cases h))
          · exact (ih (IntKind.wrap .i64 (v1 + (IntKind.wrap .i64 ((1440 : Int) - (Int.tmod v1 (1440 : Int)))))) (inc v8)).mono fun y hy => by cases y <;> exact Loops.next (i_nextFire_R0_1 v1 v2 v3_0 v3_1 v3_2 v3_3 v3_4 v8 h0 h1 h2 h3 h4) hy
        · exact (ih (IntKind.wrap .i64 (v1 + (IntKind.wrap .i64 ((1440 : Int) - (Int.tmod v1 (1440 : Int)))))) (inc v8)).mono fun y hy => by cases y <;> exact Loops.next (i_nextFire_R0_2 v1 v2 v3_0 v3_1 v3_2 v3_3 v3_4 v8 h0 h1 h2 h3) hy
      · exact Ans.some (Loops.stop (i_nextFire_R0_3 v1 v2 v3_0 v3_1 v3_2 v3_3 v3_4 v8 h0 h1) (by intro h; cases h))
    · exact Ans.some (Loops.stop (i_nextFire_R0_4 v1 v2 v3_0 v3_1 v3_2 v3_3 v3_4 v8 h0) (by intro h; cases h))
theorem i_nextFire_P0 (x0 : GCron) (x1 : Int) (x2 : Int) (w0_6 : Int) (w0_7 : Bool) (h0 : Loops E 40 (lpAt Try.f40 0) (stL 45 [(1, .one (tI x1)), (2, .one (tI x2)), (3, .box () [.s .far () 1 (x0.f0.map etI), .s .far () 1 (x0.f1.map etI), .s .far () 1 (x0.f2.map etI), .s .far () 1 (x0.f3.map etI), .s .far () 1 (x0.f4.map etI)]), (8, .one (tI (0 : Int)))]) .ret (stL 45 [(6, .one (tI w0_6)), (7, .one (tB w0_7))])) : Does E 40 [.agg (GCron.t .far x0), .one (tI x1), .one (tI x2)] [(false, [tI w0_6]), (false, [tB w0_7])] :=
  Does.path (fn := Try.f40) [.lp .ret (stL 45 [(6, .one (tI w0_6)), (7, .one (tB w0_7))])] _ rfl (fun _ => rfl) (fun k => by kernel_rfl) (AV (ψ := fun k => LoopK E 40 (lpAt Try.f40 0) (stL 45 [(1, .one (tI x1)), (2, .one (tI x2)), (3, .box () [.s .far () 1 (x0.f0.map etI), .s .far () 1 (x0.f1.map etI), .s .far () 1 (x0.f2.map etI), .s .far () 1 (x0.f3.map etI), .s .far () 1 (x0.f4.map etI)]), (8, .one (tI (0 : Int)))]) .ret (stL 45 [(6, .one (tI w0_6)), (7, .one (tB w0_7))]) k k) (Loops.ev h0) <| AN)
theorem i_nextFire_P1 (x0 : GCron) (x1 : Int) (x2 : Int) (h0 : Loops E 40 (lpAt Try.f40 0) (stL 45 [(1, .one (tI x1)), (2, .one (tI x2)), (3, .box () [.s .far () 1 (x0.f0.map etI), .s .far () 1 (x0.f1.map etI), .s .far () 1 (x0.f2.map etI), .s .far () 1 (x0.f3.map etI), .s .far () 1 (x0.f4.map etI)]), (8, .one (tI (0 : Int)))]) (.exit 0) (stL 45 [])) : Does E 40 [.agg (GCron.t .far x0), .one (tI x1), .one (tI x2)] [(false, [tI (0 : Int)]), (false, [tB false])] :=
  Does.path (fn := Try.f40) [.lp (.exit 0) (stL 45 [])] _ rfl (fun _ => rfl) (fun k => by kernel_rfl) (AV (ψ := fun k => LoopK E 40 (lpAt Try.f40 0) (stL 45 [(1, .one (tI x1)), (2, .one (tI x2)), (3, .box () [.s .far () 1 (x0.f0.map etI), .s .far () 1 (x0.f1.map etI), .s .far () 1 (x0.f2.map etI), .s .far () 1 (x0.f3.map etI), .s .far () 1 (x0.f4.map etI)]), (8, .one (tI (0 : Int)))]) (.exit 0) (stL 45 []) k k) (Loops.ev h0) <| AN)
noncomputable def i_nextFire_F (x0 : GCron) (x1 : Int) (x2 : Int) : Option (Int × Bool) :=
    (i_nextFire_l0 x2 x0.f0 x0.f1 x0.f2 x0.f3 x0.f4 9223372036854775808 x1 (0 : Int)).bind fun y => match y with
      | .ret w0_6 w0_7 => (some (w0_6, w0_7))
      | .x0 => (some ((0 : Int), false))
theorem i_nextFire_D (x0 : GCron) (x1 : Int) (x2 : Int) : Ans (i_nextFire_F x0 x1 x2) (fun r => Does E 40 [.agg (GCron.t .far x0), .one (tI x1), .one (tI x2)] [(false, [tI r.1]), (false, [tB r.2])]) := by
  unfold i_nextFire_F
  refine Ans.bind (fun y hy => ?_)
  replace hy := i_nextFire_L0 x2 x0.f0 x0.f1 x0.f2 x0.f3 x0.f4 9223372036854775808 x1 (0 : Int) y hy
  cases y with
  | ret w0_6 w0_7 =>
    have h0 := hy
    exact Ans.some (i_nextFire_P0 x0 x1 x2 w0_6 w0_7 h0)
  | x0 =>
    have h0 := hy
    exact Ans.some (i_nextFire_P1 x0 x1 x2 h0)
inductive s_NextFire_X2 where
  | ret (v6 : Int) (v7 : Bool)
  | x4 
def s_NextFire_Q2 (v1 : Int) (v2 : Int) (v3_0 : List Int) (v3_1 : List Int) (v3_2 : List Int) (v3_3 : List Int) (v3_4 : List Int) (v8 : Int) (v9 : Int) (v10 : Int) (v11 : Int) : s_NextFire_X2 → Prop
  | .ret zv6 zv7 => Loops E 11 (lpAt Try.f11 2) (stL 80 [(1, .one (tI v1)), (2, .one (tI v2)), (3, .box () [.s .far () 1 (v3_0.map etI), .s .far () 1 (v3_1.map etI), .s .far () 1 (v3_2.map etI), .s .far () 1 (v3_3.map etI), .s .far () 1 (v3_4.map etI)]), (8, .one (tI v8)), (9, .one (tI v9)), (10, .one (tI v10)), (11, .one (tI v11))]) .ret (stL 80 [(6, .one (tI zv6)), (7, .one (tB zv7))])
  | .x4 => Loops E 11 (lpAt Try.f11 2) (stL 80 [(1, .one (tI v1)), (2, .one (tI v2)), (3, .box () [.s .far () 1 (v3_0.map etI), .s .far () 1 (v3_1.map etI), .s .far () 1 (v3_2.map etI), .s .far () 1 (v3_3.map etI), .s .far () 1 (v3_4.map etI)]), (8, .one (tI v8)), (9, .one (tI v9)), (10, .one (tI v10)), (11, .one (tI v11))]) (.exit 4) (stL 80 [(1, .one (tI v1)), (2, .one (tI v2)), (3, .box () [.s .far () 1 (v3_0.map etI), .s .far () 1 (v3_1.map etI), .s .far () 1 (v3_2.map etI), .s .far () 1 (v3_3.map etI), .s .far () 1 (v3_4.map etI)]), (8, .one (tI v8)), (9, .one (tI v9)), (10, .one (tI v10))])
theorem s_NextFire_R2_0 (v1 : Int) (v2 : Int) (v3_0 : List Int) (v3_1 : List Int) (v3_2 : List Int) (v3_3 : List Int) (v3_4 : List Int) (v8 : Int) (v9 : Int) (v10 : Int) (v11 : Int) (g0 : Int) (g1 : Int) (h0 : (decide (v11 < (v3_0.length : Int))) = true) (h1 : getI v3_1 v10 = some g0) (h2 : getI v3_0 v11 = some g1) (h3 : (decide ((IntKind.wrap .i64 ((IntKind.wrap .i64 ((IntKind.wrap .i64 (v9 * (1440 : Int))) + (IntKind.wrap .i64 (g0 * (60 : Int))))) + g1)) ≥ v1)) = true) : Round E 11 (lpAt Try.f11 2) (stL 80 [(1, .one (tI v1)), (2, .one (tI v2)), (3, .box () [.s .far () 1 (v3_0.map etI), .s .far () 1 (v3_1.map etI), .s .far () 1 (v3_2.map etI), .s .far () 1 (v3_3.map etI), .s .far () 1 (v3_4.map etI)]), (8, .one (tI v8)), (9, .one (tI v9)), (10, .one (tI v10)), (11, .one (tI v11))]) .ret (stL 80 [(6, .one (tI (IntKind.wrap .i64 ((IntKind.wrap .i64 ((IntKind.wrap .i64 (v9 * (1440 : Int))) + (IntKind.wrap .i64 (g0 * (60 : Int))))) + g1)))), (7, .one (tB true))]) :=
  Round.path [.val (.int .i64 (v3_0.length : Int)), .b true, .row (etI g0), .row (etI g1), .no, .b true] _ (fun k => by kernel_rfl) (AV (ψ := fun _ => ((v3_0.map etI).length : Int) = (v3_0.length : Int)) (Ev.c lenMap) <| AC h0 <| AV (ψ := fun _ => 0 ≤ v10 ∧ (v3_1.map etI)[v10.toNat]? = some (etI g0)) (Ev.c (getRow h1)) <| AV (ψ := fun _ => 0 ≤ v11 ∧ (v3_0.map etI)[v11.toNat]? = some (etI g1)) (Ev.c (getRow h2)) <| AC h3 <| AN)
theorem s_NextFire_R2_1 (v1 : Int) (v2 : Int) (v3_0 : List Int) (v3_1 : List Int) (v3_2 : List Int) (v3_3 : List Int) (v3_4 : List Int) (v8 : Int) (v9 : Int) (v10 : Int) (v11 : Int) (g0 : Int) (g1 : Int) (h0 : (decide (v11 < (v3_0.length : Int))) = true) (h1 : getI v3_1 v10 = some g0) (h2 : getI v3_0 v11 = some g1) (h3 : (decide ((IntKind.wrap .i64 ((IntKind.wrap .i64 ((IntKind.wrap .i64 (v9 * (1440 : Int))) + (IntKind.wrap .i64 (g0 * (60 : Int))))) + g1)) ≥ v1)) = false) : Round E 11 (lpAt Try.f11 2) (stL 80 [(1, .one (tI v1)), (2, .one (tI v2)), (3, .box () [.s .far () 1 (v3_0.map etI), .s .far () 1 (v3_1.map etI), .s .far () 1 (v3_2.map etI), .s .far () 1 (v3_3.map etI), .s .far () 1 (v3_4.map etI)]), (8, .one (tI v8)), (9, .one (tI v9)), (10, .one (tI v10)), (11, .one (tI v11))]) .normal (stL 80 [(1, .one (tI v1)), (2, .one (tI v2)), (3, .box () [.s .far () 1 (v3_0.map etI), .s .far () 1 (v3_1.map etI), .s .far () 1 (v3_2.map etI), .s .far () 1 (v3_3.map etI), .s .far () 1 (v3_4.map etI)]), (8, .one (tI v8)), (9, .one (tI v9)), (10, .one (tI v10)), (11, .one (tI (inc v11)))]) :=
  Round.path [.val (.int .i64 (v3_0.length : Int)), .b true, .row (etI g0), .row (etI g1), .no, .b false] _ (fun k => by kernel_rfl) (AV (ψ := fun _ => ((v3_0.map etI).length : Int) = (v3_0.length : Int)) (Ev.c lenMap) <| AC h0 <| AV (ψ := fun _ => 0 ≤ v10 ∧ (v3_1.map etI)[v10.toNat]? = some (etI g0)) (Ev.c (getRow h1)) <| AV (ψ := fun _ => 0 ≤ v11 ∧ (v3_0.map etI)[v11.toNat]? = some (etI g1)) (Ev.c (getRow h2)) <| AC h3 <| AN)
theorem s_NextFire_R2_2 (v1 : Int) (v2 : Int) (v3_0 : List Int) (v3_1 : List Int) (v3_2 : List Int) (v3_3 : List Int) (v3_4 : List Int) (v8 : Int) (v9 : Int) (v10 : Int) (v11 : Int) (h0 : (decide (v11 < (v3_0.length : Int))) = false) : Round E 11 (lpAt Try.f11 2) (stL 80 [(1, .one (tI v1)), (2, .one (tI v2)), (3, .box () [.s .far () 1 (v3_0.map etI), .s .far () 1 (v3_1.map etI), .s .far () 1 (v3_2.map etI), .s .far () 1 (v3_3.map etI), .s .far () 1 (v3_4.map etI)]), (8, .one (tI v8)), (9, .one (tI v9)), (10, .one (tI v10)), (11, .one (tI v11))]) (.exit 4) (stL 80 [(1, .one (tI v1)), (2, .one (tI v2)), (3, .box () [.s .far () 1 (v3_0.map etI), .s .far () 1 (v3_1.map etI), .s .far () 1 (v3_2.map etI), .s .far () 1 (v3_3.map etI), .s .far () 1 (v3_4.map etI)]), (8, .one (tI v8)), (9, .one (tI v9)), (10, .one (tI v10))]) :=
  Round.path [.val (.int .i64 (v3_0.length : Int)), .b false] _ (fun k => by kernel_rfl) (AV (ψ := fun _ => ((v3_0.map etI).length : Int) = (v3_0.length : Int)) (Ev.c lenMap) <| AC h0 <| AN)
noncomputable def s_NextFire_l2 (v1 : Int) (v3_1 : List Int) (v9 : Int) (v10 : Int) : List Int → Nat → Option s_NextFire_X2
  | [], i => some (.x4)
  | hd :: rest, i => (getI v3_1 v10).bind fun g0 => cond (decide ((IntKind.wrap .i64 ((IntKind.wrap .i64 ((IntKind.wrap .i64 (v9 * (1440 : Int))) + (IntKind.wrap .i64 (g0 * (60 : Int))))) + hd)) ≥ v1))
    (some (.ret (IntKind.wrap .i64 ((IntKind.wrap .i64 ((IntKind.wrap .i64 (v9 * (1440 : Int))) + (IntKind.wrap .i64 (g0 * (60 : Int))))) + hd)) true))
    (s_NextFire_l2 v1 v3_1 v9 v10 rest (i + 1))
theorem s_NextFire_L2 (v1 : Int) (v2 : Int) (v3_0 : List Int) (v3_1 : List Int) (v3_2 : List Int) (v3_3 : List Int) (v3_4 : List Int) (v8 : Int) (v9 : Int) (v10 : Int) (rest : List Int) : ∀ (i : Nat) , (v3_0).drop i = rest → v3_0.length ≤ 9223372036854775807 → Ans (s_NextFire_l2 v1 v3_1 v9 v10 rest i) (s_NextFire_Q2 v1 v2 v3_0 v3_1 v3_2 v3_3 v3_4 v8 v9 v10 (i : Int)) := by
  induction rest with
  | nil =>
    intro i hE hl
    have hb := foldEnd hE
    unfold s_NextFire_l2
    exact Ans.some (Loops.stop (s_NextFire_R2_2 v1 v2 v3_0 v3_1 v3_2 v3_3 v3_4 v8 v9 v10 (i : Int) hb) (by intro h; cases h))
  | cons hd rest ih =>
    intro i hE hl
    have hb := foldMore hE
    have hw := foldNext hE hl
    have hE2 := foldRest hE
    have hg := foldGet hE
    unfold s_NextFire_l2
    refine Ans.bind (fun g0 h1 => ?_)
    refine Ans.ite (fun h3 => ?_) (fun h3 => ?_)
    · exact Ans.some (Loops.stop (s_NextFire_R2_0 v1 v2 v3_0 v3_1 v3_2 v3_3 v3_4 v8 v9 v10 (i : Int) g0 hd hb h1 hg h3) (by intro h; cases h))
    · exact (ih (i + 1) hE2 hl).mono fun y hy => by have r := s_NextFire_R2_1 v1 v2 v3_0 v3_1 v3_2 v3_3 v3_4 v8 v9 v10 (i : Int) g0 hd hb h1 hg h3; rw [hw] at r; cases y <;> exact Loops.next r hy
inductive s_NextFire_X1 where
  | ret (v6 : Int) (v7 : Bool)
  | x2 
def s_NextFire_Q1 (v1 : Int) (v2 : Int) (v3_0 : List Int) (v3_1 : List Int) (v3_2 : List Int) (v3_3 : List Int) (v3_4 : List Int) (v8 : Int) (v9 : Int) (v10 : Int) : s_NextFire_X1 → Prop
  | .ret zv6 zv7 => Loops E 11 (lpAt Try.f11 1) (stL 80 [(1, .one (tI v1)), (2, .one (tI v2)), (3, .box () [.s .far () 1 (v3_0.map etI), .s .far () 1 (v3_1.map etI), .s .far () 1 (v3_2.map etI), .s .far () 1 (v3_3.map etI), .s .far () 1 (v3_4.map etI)]), (8, .one (tI v8)), (9, .one (tI v9)), (10, .one (tI v10))]) .ret (stL 80 [(6, .one (tI zv6)), (7, .one (tB zv7))])
  | .x2 => Loops E 11 (lpAt Try.f11 1) (stL 80 [(1, .one (tI v1)), (2, .one (tI v2)), (3, .box () [.s .far () 1 (v3_0.map etI), .s .far () 1 (v3_1.map etI), .s .far () 1 (v3_2.map etI), .s .far () 1 (v3_3.map etI), .s .far () 1 (v3_4.map etI)]), (8, .one (tI v8)), (9, .one (tI v9)), (10, .one (tI v10))]) (.exit 2) (stL 80 [(1, .one (tI v1)), (2, .one (tI v2)), (3, .box () [.s .far () 1 (v3_0.map etI), .s .far () 1 (v3_1.map etI), .s .far () 1 (v3_2.map etI), .s .far () 1 (v3_3.map etI), .s .far () 1 (v3_4.map etI)]), (8, .one (tI v8)), (9, .one (tI v9))])
theorem s_NextFire_R1_0 (v1 : Int) (v2 : Int) (v3_0 : List Int) (v3_1 : List Int) (v3_2 : List Int) (v3_3 : List Int) (v3_4 : List Int) (v8 : Int) (v9 : Int) (v10 : Int) (w0_6 : Int) (w0_7 : Bool) (h0 : (decide (v10 < (v3_1.length : Int))) = true) (h1 : Loops E 11 (lpAt Try.f11 2) (stL 80 [(1, .one (tI v1)), (2, .one (tI v2)), (3, .box () [.s .far () 1 (v3_0.map etI), .s .far () 1 (v3_1.map etI), .s .far () 1 (v3_2.map etI), .s .far () 1 (v3_3.map etI), .s .far () 1 (v3_4.map etI)]), (8, .one (tI v8)), (9, .one (tI v9)), (10, .one (tI v10)), (11, .one (tI (0 : Int)))]) .ret (stL 80 [(6, .one (tI w0_6)), (7, .one (tB w0_7))])) : Round E 11 (lpAt Try.f11 1) (stL 80 [(1, .one (tI v1)), (2, .one (tI v2)), (3, .box () [.s .far () 1 (v3_0.map etI), .s .far () 1 (v3_1.map etI), .s .far () 1 (v3_2.map etI), .s .far () 1 (v3_3.map etI), .s .far () 1 (v3_4.map etI)]), (8, .one (tI v8)), (9, .one (tI v9)), (10, .one (tI v10))]) .ret (stL 80 [(6, .one (tI w0_6)), (7, .one (tB w0_7))]) :=
  Round.path [.val (.int .i64 (v3_1.length : Int)), .b true, .lp .ret (stL 80 [(6, .one (tI w0_6)), (7, .one (tB w0_7))])] _ (fun k => by kernel_rfl) (AV (ψ := fun _ => ((v3_1.map etI).length : Int) = (v3_1.length : Int)) (Ev.c lenMap) <| AC h0 <| AV (ψ := fun k => LoopK E 11 (lpAt Try.f11 2) (stL 80 [(1, .one (tI v1)), (2, .one (tI v2)), (3, .box () [.s .far () 1 (v3_0.map etI), .s .far () 1 (v3_1.map etI), .s .far () 1 (v3_2.map etI), .s .far () 1 (v3_3.map etI), .s .far () 1 (v3_4.map etI)]), (8, .one (tI v8)), (9, .one (tI v9)), (10, .one (tI v10)), (11, .one (tI (0 : Int)))]) .ret (stL 80 [(6, .one (tI w0_6)), (7, .one (tB w0_7))]) k k) (Loops.ev h1) <| AN)
theorem s_NextFire_R1_1 (v1 : Int) (v2 : Int) (v3_0 : List Int) (v3_1 : List Int) (v3_2 : List Int) (v3_3 : List Int) (v3_4 : List Int) (v8 : Int) (v9 : Int) (v10 : Int) (h0 : (decide (v10 < (v3_1.length : Int))) = true) (h1 : Loops E 11 (lpAt Try.f11 2) (stL 80 [(1, .one (tI v1)), (2, .one (tI v2)), (3, .box () [.s .far () 1 (v3_0.map etI), .s .far () 1 (v3_1.map etI), .s .far () 1 (v3_2.map etI), .s .far () 1 (v3_3.map etI), .s .far () 1 (v3_4.map etI)]), (8, .one (tI v8)), (9, .one (tI v9)), (10, .one (tI v10)), (11, .one (tI (0 : Int)))]) (.exit 4) (stL 80 [(1, .one (tI v1)), (2, .one (tI v2)), (3, .box () [.s .far () 1 (v3_0.map etI), .s .far () 1 (v3_1.map etI), .s .far () 1 (v3_2.map etI), .s .far () 1 (v3_3.map etI), .s .far () 1 (v3_4.map etI)]), (8, .one (tI v8)), (9, .one (tI v9)), (10, .one (tI v10))])) : Round E 11 (lpAt Try.f11 1) (stL 80 [(1, .one (tI v1)), (2, .one (tI v2)), (3, .box () [.s .far () 1 (v3_0.map etI), .s .far () 1 (v3_1.map etI), .s .far () 1 (v3_2.map etI), .s .far () 1 (v3_3.map etI), .s .far () 1 (v3_4.map etI)]), (8, .one (tI v8)), (9, .one (tI v9)), (10, .one (tI v10))]) .normal (stL 80 [(1, .one (tI v1)), (2, .one (tI v2)), (3, .box () [.s .far () 1 (v3_0.map etI), .s .far () 1 (v3_1.map etI), .s .far () 1 (v3_2.map etI), .s .far () 1 (v3_3.map etI), .s .far () 1 (v3_4.map etI)]), (8, .one (tI v8)), (9, .one (tI v9)), (10, .one (tI (inc v10)))]) :=
  Round.path [.val (.int .i64 (v3_1.length : Int)), .b true, .lp (.exit 4) (stL 80 [(1, .one (tI v1)), (2, .one (tI v2)), (3, .box () [.s .far () 1 (v3_0.map etI), .s .far () 1 (v3_1.map etI), .s .far () 1 (v3_2.map etI), .s .far () 1 (v3_3.map etI), .s .far () 1 (v3_4.map etI)]), (8, .one (tI v8)), (9, .one (tI v9)), (10, .one (tI v10))])] _ (fun k => by kernel_rfl) (AV (ψ := fun _ => ((v3_1.map etI).length : Int) = (v3_1.length : Int)) (Ev.c lenMap) <| AC h0 <| AV (ψ := fun k => LoopK E 11 (lpAt Try.f11 2) (stL 80 [(1, .one (tI v1)), (2, .one (tI v2)), (3, .box () [.s .far () 1 (v3_0.map etI), .s .far () 1 (v3_1.map etI), .s .far () 1 (v3_2.map etI), .s .far () 1 (v3_3.map etI), .s .far () 1 (v3_4.map etI)]), (8, .one (tI v8)), (9, .one (tI v9)), (10, .one (tI v10)), (11, .one (tI (0 : Int)))]) (.exit 4) (stL 80 [(1, .one (tI v1)), (2, .one (tI v2)), (3, .box () [.s .far () 1 (v3_0.map etI), .s .far () 1 (v3_1.map etI), .s .far () 1 (v3_2.map etI), .s .far () 1 (v3_3.map etI), .s .far () 1 (v3_4.map etI)]), (8, .one (tI v8)), (9, .one (tI v9)), (10, .one (tI v10))]) k k) (Loops.ev h1) <| AN)
theorem s_NextFire_R1_2 (v1 : Int) (v2 : Int) (v3_0 : List Int) (v3_1 : List Int) (v3_2 : List Int) (v3_3 : List Int) (v3_4 : List Int) (v8 : Int) (v9 : Int) (v10 : Int) (h0 : (decide (v10 < (v3_1.length : Int))) = false) : Round E 11 (lpAt Try.f11 1) (stL 80 [(1, .one (tI v1)), (2, .one (tI v2)), (3, .box () [.s .far () 1 (v3_0.map etI), .s .far () 1 (v3_1.map etI), .s .far () 1 (v3_2.map etI), .s .far () 1 (v3_3.map etI), .s .far () 1 (v3_4.map etI)]), (8, .one (tI v8)), (9, .one (tI v9)), (10, .one (tI v10))]) (.exit 2) (stL 80 [(1, .one (tI v1)), (2, .one (tI v2)), (3, .box () [.s .far () 1 (v3_0.map etI), .s .far () 1 (v3_1.map etI), .s .far () 1 (v3_2.map etI), .s .far () 1 (v3_3.map etI), .s .far () 1 (v3_4.map etI)]), (8, .one (tI v8)), (9, .one (tI v9))]) :=
  Round.path [.val (.int .i64 (v3_1.length : Int)), .b false] _ (fun k => by kernel_rfl) (AV (ψ := fun _ => ((v3_1.map etI).length : Int) = (v3_1.length : Int)) (Ev.c lenMap) <| AC h0 <| AN)
noncomputable def s_NextFire_l1 (v1 : Int) (v3_0 : List Int) (v3_1 : List Int) (v9 : Int) : List Int → Nat → Option s_NextFire_X1
  | [], i => some (.x2)
  | hd :: rest, i => if v3_0.length ≤ 9223372036854775807 then (s_NextFire_l2 v1 v3_1 v9 (i : Int) v3_0 0).bind fun y => match y with
    | .ret w0_6 w0_7 => (some (.ret w0_6 w0_7))
    | .x4 => (s_NextFire_l1 v1 v3_0 v3_1 v9 rest (i + 1)) else none
theorem s_NextFire_L1 (v1 : Int) (v2 : Int) (v3_0 : List Int) (v3_1 : List Int) (v3_2 : List Int) (v3_3 : List Int) (v3_4 : List Int) (v8 : Int) (v9 : Int) (rest : List Int) : ∀ (i : Nat) , (v3_1).drop i = rest → v3_1.length ≤ 9223372036854775807 → Ans (s_NextFire_l1 v1 v3_0 v3_1 v9 rest i) (s_NextFire_Q1 v1 v2 v3_0 v3_1 v3_2 v3_3 v3_4 v8 v9 (i : Int)) := by
  induction rest with
  | nil =>
    intro i hE hl
    have hb := foldEnd hE
    unfold s_NextFire_l1
    exact Ans.some (Loops.stop (s_NextFire_R1_2 v1 v2 v3_0 v3_1 v3_2 v3_3 v3_4 v8 v9 (i : Int) hb) (by intro h; cases h))
  | cons hd rest ih =>
    intro i hE hl
    have hb := foldMore hE
    have hw := foldNext hE hl
    have hE2 := foldRest hE
    have hg := foldGet hE
    unfold s_NextFire_l1
    refine Ans.pre (fun hl2 => ?_)
    refine Ans.bind (fun y hy => ?_)
    replace hy := s_NextFire_L2 v1 v2 v3_0 v3_1 v3_2 v3_3 v3_4 v8 v9 (i : Int) v3_0 0 rfl hl2 y hy
    cases y with
    | ret w0_6 w0_7 =>
      have h1 := hy
      exact Ans.some (Loops.stop (s_NextFire_R1_0 v1 v2 v3_0 v3_1 v3_2 v3_3 v3_4 v8 v9 (i : Int) w0_6 w0_7 hb h1) (by intro h; cases h))
    | x4 =>
      have h1 := hy
      exact (ih (i + 1) hE2 hl).mono fun y hy => by have r := s_NextFire_R1_1 v1 v2 v3_0 v3_1 v3_2 v3_3 v3_4 v8 v9 (i : Int) hb h1; rw [hw] at r; cases y <;> exact Loops.next r hy
inductive s_NextFire_X0 where
  | ret (v6 : Int) (v7 : Bool)
  | x0 
def s_NextFire_Q0 (v1 : Int) (v2 : Int) (v3_0 : List Int) (v3_1 : List Int) (v3_2 : List Int) (v3_3 : List Int) (v3_4 : List Int) (v8 : Int) (v9 : Int) : s_NextFire_X0 → Prop
  | .ret zv6 zv7 => Loops E 11 (lpAt Try.f11 0) (stL 80 [(1, .one (tI v1)), (2, .one (tI v2)), (3, .box () [.s .far () 1 (v3_0.map etI), .s .far () 1 (v3_1.map etI), .s .far () 1 (v3_2.map etI), .s .far () 1 (v3_3.map etI), .s .far () 1 (v3_4.map etI)]), (8, .one (tI v8)), (9, .one (tI v9))]) .ret (stL 80 [(6, .one (tI zv6)), (7, .one (tB zv7))])
  | .x0 => Loops E 11 (lpAt Try.f11 0) (stL 80 [(1, .one (tI v1)), (2, .one (tI v2)), (3, .box () [.s .far () 1 (v3_0.map etI), .s .far () 1 (v3_1.map etI), .s .far () 1 (v3_2.map etI), .s .far () 1 (v3_3.map etI), .s .far () 1 (v3_4.map etI)]), (8, .one (tI v8)), (9, .one (tI v9))]) (.exit 0) (stL 80 [])
theorem s_NextFire_R0_0 (v1 : Int) (v2 : Int) (v3_0 : List Int) (v3_1 : List Int) (v3_2 : List Int) (v3_3 : List Int) (v3_4 : List Int) (v8 : Int) (v9 : Int) (w0_6 : Int) (w0_7 : Bool) (h0 : (decide (v9 ≤ (IntKind.wrap .i64 (v8 + v2)))) = true) (h1 : (decide ((IntKind.wrap .i64 (v9 * (1440 : Int))) ≤ (68374079 : Int))) = true) (h2 : Small.sm (GCron.mk v3_0 v3_1 v3_2 v3_3 v3_4)) (h3 : (dayOk (GCron.mk v3_0 v3_1 v3_2 v3_3 v3_4) (IntKind.wrap .i64 (v9 * (1440 : Int)))) = true) (h4 : Loops E 11 (lpAt Try.f11 1) (stL 80 [(1, .one (tI v1)), (2, .one (tI v2)), (3, .box () [.s .far () 1 (v3_0.map etI), .s .far () 1 (v3_1.map etI), .s .far () 1 (v3_2.map etI), .s .far () 1 (v3_3.map etI), .s .far () 1 (v3_4.map etI)]), (8, .one (tI v8)), (9, .one (tI v9)), (10, .one (tI (0 : Int)))]) .ret (stL 80 [(6, .one (tI w0_6)), (7, .one (tB w0_7))])) : Round E 11 (lpAt Try.f11 0) (stL 80 [(1, .one (tI v1)), (2, .one (tI v2)), (3, .box () [.s .far () 1 (v3_0.map etI), .s .far () 1 (v3_1.map etI), .s .far () 1 (v3_2.map etI), .s .far () 1 (v3_3.map etI), .s .far () 1 (v3_4.map etI)]), (8, .one (tI v8)), (9, .one (tI v9))]) .ret (stL 80 [(6, .one (tI w0_6)), (7, .one (tB w0_7))]) :=
  Round.path [.no, .b true, .no, .b true, rT, .lp .ret (stL 80 [(6, .one (tI w0_6)), (7, .one (tB w0_7))])] _ (fun k => by kernel_rfl) (AC h0 <| AC h1 <| AD (Does.tB (T_s_l10Day (GCron.mk v3_0 v3_1 v3_2 v3_3 v3_4) (IntKind.wrap .i64 (v9 * (1440 : Int))) h2) h3) <| AV (ψ := fun k => LoopK E 11 (lpAt Try.f11 1) (stL 80 [(1, .one (tI v1)), (2, .one (tI v2)), (3, .box () [.s .far () 1 (v3_0.map etI), .s .far () 1 (v3_1.map etI), .s .far () 1 (v3_2.map etI), .s .far () 1 (v3_3.map etI), .s .far () 1 (v3_4.map etI)]), (8, .one (tI v8)), (9, .one (tI v9)), (10, .one (tI (0 : Int)))]) .ret (stL 80 [(6, .one (tI w0_6)), (7, .one (tB w0_7))]) k k) (Loops.ev h4) <| AN)
theorem s_NextFire_R0_1 (v1 : Int) (v2 : Int) (v3_0 : List Int) (v3_1 : List Int) (v3_2 : List Int) (v3_3 : List Int) (v3_4 : List Int) (v8 : Int) (v9 : Int) (h0 : (decide (v9 ≤ (IntKind.wrap .i64 (v8 + v2)))) = true) (h1 : (decide ((IntKind.wrap .i64 (v9 * (1440 : Int))) ≤ (68374079 : Int))) = true) (h2 : Small.sm (GCron.mk v3_0 v3_1 v3_2 v3_3 v3_4)) (h3 : (dayOk (GCron.mk v3_0 v3_1 v3_2 v3_3 v3_4) (IntKind.wrap .i64 (v9 * (1440 : Int)))) = true) (h4 : Loops E 11 (lpAt Try.f11 1) (stL 80 [(1, .one (tI v1)), (2, .one (tI v2)), (3, .box () [.s .far () 1 (v3_0.map etI), .s .far () 1 (v3_1.map etI), .s .far () 1 (v3_2.map etI), .s .far () 1 (v3_3.map etI), .s .far () 1 (v3_4.map etI)]), (8, .one (tI v8)), (9, .one (tI v9)), (10, .one (tI (0 : Int)))]) (.exit 2) (stL 80 [(1, .one (tI v1)), (2, .one (tI v2)), (3, .box () [.s .far () 1 (v3_0.map etI), .s .far () 1 (v3_1.map etI), .s .far () 1 (v3_2.map etI), .s .far () 1 (v3_3.map etI), .s .far () 1 (v3_4.map etI)]), (8, .one (tI v8)), (9, .one (tI v9))])) : Round E 11 (lpAt Try.f11 0) (stL 80 [(1, .one (tI v1)), (2, .one (tI v2)), (3, .box () [.s .far () 1 (v3_0.map etI), .s .far () 1 (v3_1.map etI), .s .far () 1 (v3_2.map etI), .s .far () 1 (v3_3.map etI), .s .far () 1 (v3_4.map etI)]), (8, .one (tI v8)), (9, .one (tI v9))]) .normal (stL 80 [(1, .one (tI v1)), (2, .one (tI v2)), (3, .box () [.s .far () 1 (v3_0.map etI), .s .far () 1 (v3_1.map etI), .s .far () 1 (v3_2.map etI), .s .far () 1 (v3_3.map etI), .s .far () 1 (v3_4.map etI)]), (8, .one (tI v8)), (9, .one (tI (inc v9)))]) :=
  Round.path [.no, .b true, .no, .b true, rT, .lp (.exit 2) (stL 80 [(1, .one (tI v1)), (2, .one (tI v2)), (3, .box () [.s .far () 1 (v3_0.map etI), .s .far () 1 (v3_1.map etI), .s .far () 1 (v3_2.map etI), .s .far () 1 (v3_3.map etI), .s .far () 1 (v3_4.map etI)]), (8, .one (tI v8)), (9, .one (tI v9))])] _ (fun k => by kernel_rfl) (AC h0 <| AC h1 <| AD (Does.tB (T_s_l10Day (GCron.mk v3_0 v3_1 v3_2 v3_3 v3_4) (IntKind.wrap .i64 (v9 * (1440 : Int))) h2) h3) <| AV (ψ := fun k => LoopK E 11 (lpAt Try.f11 1) (stL 80 [(1, .one (tI v1)), (2, .one (tI v2)), (3, .box () [.s .far () 1 (v3_0.map etI), .s .far () 1 (v3_1.map etI), .s .far () 1 (v3_2.map etI), .s .far () 1 (v3_3.map etI), .s .far () 1 (v3_4.map etI)]), (8, .one (tI v8)), (9, .one (tI v9)), (10, .one (tI (0 : Int)))]) (.exit 2) (stL 80 [(1, .one (tI v1)), (2, .one (tI v2)), (3, .box () [.s .far () 1 (v3_0.map etI), .s .far () 1 (v3_1.map etI), .s .far () 1 (v3_2.map etI), .s .far () 1 (v3_3.map etI), .s .far () 1 (v3_4.map etI)]), (8, .one (tI v8)), (9, .one (tI v9))]) k k) (Loops.ev h4) <| AN)
theorem s_NextFire_R0_2 (v1 : Int) (v2 : Int) (v3_0 : List Int) (v3_1 : List Int) (v3_2 : List Int) (v3_3 : List Int) (v3_4 : List Int) (v8 : Int) (v9 : Int) (h0 : (decide (v9 ≤ (IntKind.wrap .i64 (v8 + v2)))) = true) (h1 : (decide ((IntKind.wrap .i64 (v9 * (1440 : Int))) ≤ (68374079 : Int))) = true) (h2 : Small.sm (GCron.mk v3_0 v3_1 v3_2 v3_3 v3_4)) (h3 : (dayOk (GCron.mk v3_0 v3_1 v3_2 v3_3 v3_4) (IntKind.wrap .i64 (v9 * (1440 : Int)))) = false) : Round E 11 (lpAt Try.f11 0) (stL 80 [(1, .one (tI v1)), (2, .one (tI v2)), (3, .box () [.s .far () 1 (v3_0.map etI), .s .far () 1 (v3_1.map etI), .s .far () 1 (v3_2.map etI), .s .far () 1 (v3_3.map etI), .s .far () 1 (v3_4.map etI)]), (8, .one (tI v8)), (9, .one (tI v9))]) .normal (stL 80 [(1, .one (tI v1)), (2, .one (tI v2)), (3, .box () [.s .far () 1 (v3_0.map etI), .s .far () 1 (v3_1.map etI), .s .far () 1 (v3_2.map etI), .s .far () 1 (v3_3.map etI), .s .far () 1 (v3_4.map etI)]), (8, .one (tI v8)), (9, .one (tI (inc v9)))]) :=
  Round.path [.no, .b true, .no, .b true, rF] _ (fun k => by kernel_rfl) (AC h0 <| AC h1 <| AD (Does.tB (T_s_l10Day (GCron.mk v3_0 v3_1 v3_2 v3_3 v3_4) (IntKind.wrap .i64 (v9 * (1440 : Int))) h2) h3) <| AN)
theorem s_NextFire_R0_3 (v1 : Int) (v2 : Int) (v3_0 : List Int) (v3_1 : List Int) (v3_2 : List Int) (v3_3 : List Int) (v3_4 : List Int) (v8 : Int) (v9 : Int) (h0 : (decide (v9 ≤ (IntKind.wrap .i64 (v8 + v2)))) = true) (h1 : (decide ((IntKind.wrap .i64 (v9 * (1440 : Int))) ≤ (68374079 : Int))) = false) : Round E 11 (lpAt Try.f11 0) (stL 80 [(1, .one (tI v1)), (2, .one (tI v2)), (3, .box () [.s .far () 1 (v3_0.map etI), .s .far () 1 (v3_1.map etI), .s .far () 1 (v3_2.map etI), .s .far () 1 (v3_3.map etI), .s .far () 1 (v3_4.map etI)]), (8, .one (tI v8)), (9, .one (tI v9))]) (.exit 0) (stL 80 []) :=
  Round.path [.no, .b true, .no, .b false] _ (fun k => by kernel_rfl) (AC h0 <| AC h1 <| AN)
theorem s_NextFire_R0_4 (v1 : Int) (v2 : Int) (v3_0 : List Int) (v3_1 : List Int) (v3_2 : List Int) (v3_3 : List Int) (v3_4 : List Int) (v8 : Int) (v9 : Int) (h0 : (decide (v9 ≤ (IntKind.wrap .i64 (v8 + v2)))) = false) : Round E 11 (lpAt Try.f11 0) (stL 80 [(1, .one (tI v1)), (2, .one (tI v2)), (3, .box () [.s .far () 1 (v3_0.map etI), .s .far () 1 (v3_1.map etI), .s .far () 1 (v3_2.map etI), .s .far () 1 (v3_3.map etI), .s .far () 1 (v3_4.map etI)]), (8, .one (tI v8)), (9, .one (tI v9))]) (.exit 0) (stL 80 []) :=
  Round.path [.no, .b false] _ (fun k => by kernel_rfl) (AC h0 <| AN)
noncomputable def s_NextFire_l0 (v1 : Int) (v2 : Int) (v3_0 : List Int) (v3_1 : List Int) (v3_2 : List Int) (v3_3 : List Int) (v3_4 : List Int) (v8 : Int) : Nat → Int → Option s_NextFire_X0
  | 0, _ => none
  | n + 1, v9 => cond (decide (v9 ≤ (IntKind.wrap .i64 (v8 + v2))))
    (cond (decide ((IntKind.wrap .i64 (v9 * (1440 : Int))) ≤ (68374079 : Int)))
      (if Small.sm (GCron.mk v3_0 v3_1 v3_2 v3_3 v3_4) then cond (dayOk (GCron.mk v3_0 v3_1 v3_2 v3_3 v3_4) (IntKind.wrap .i64 (v9 * (1440 : Int))))
        (if v3_1.length ≤ 9223372036854775807 then (s_NextFire_l1 v1 v3_0 v3_1 v9 v3_1 0).bind fun y => match y with
          | .ret w0_6 w0_7 => (some (.ret w0_6 w0_7))
          | .x2 => (s_NextFire_l0 v1 v2 v3_0 v3_1 v3_2 v3_3 v3_4 v8 n (inc v9)) else none)
        (s_NextFire_l0 v1 v2 v3_0 v3_1 v3_2 v3_3 v3_4 v8 n (inc v9)) else none)
      (some (.x0)))
    (some (.x0))
theorem s_NextFire_L0 (v1 : Int) (v2 : Int) (v3_0 : List Int) (v3_1 : List Int) (v3_2 : List Int) (v3_3 : List Int) (v3_4 : List Int) (v8 : Int) (n : Nat) : ∀ (v9 : Int), Ans (s_NextFire_l0 v1 v2 v3_0 v3_1 v3_2 v3_3 v3_4 v8 n v9) (s_NextFire_Q0 v1 v2 v3_0 v3_1 v3_2 v3_3 v3_4 v8 v9) := by
  induction n with
  | zero => intros; exact Ans.none
  | succ n ih =>
    intro v9
    unfold s_NextFire_l0
    refine Ans.ite (fun h0 => ?_) (fun h0 => ?_)
    · refine Ans.ite (fun h1 => ?_) (fun h1 => ?_)
      · refine Ans.pre (fun h2 => ?_)
        refine Ans.ite (fun h3 => ?_) (fun h3 => ?_)
        · refine Ans.pre (fun hl5 => ?_)
          refine Ans.bind (fun y hy => ?_)
          replace hy := s_NextFire_L1 v1 v2 v3_0 v3_1 v3_2 v3_3 v3_4 v8 v9 v3_1 0 rfl hl5 y hy
          cases y with
          | ret w0_6 w0_7 =>
            have h4 := hy
            exact Ans.some (Loops.stop (s_NextFire_R0_0 v1 v2 v3_0 v3_1 v3_2 v3_3 v3_4 v8 v9 w0_6 w0_7 h0 h1 h2 h3 h4) (by intro h; cases h))
          | x2 =>
            have h4 := hy
            exact (ih (inc v9)).mono fun y hy => by cases y <;> exact Loops.next (s_NextFire_R0_1 v1 v2 v3_0 v3_1 v3_2 v3_3 v3_4 v8 v9 h0 h1 h2 h3 h4) hy
        · exact (ih (inc v9)).mono fun y hy => by cases y <;> exact Loops.next (s_NextFire_R0_2 v1 v2 v3_0 v3_1 v3_2 v3_3 v3_4 v8 v9 h0 h1 h2 h3) hy
      · exact Ans.some (Loops.stop (s_NextFire_R0_3 v1 v2 v3_0 v3_1 v3_2 v3_3 v3_4 v8 v9 h0 h1) (by intro h; cases h))
    · exact Ans.some (Loops.stop (s_NextFire_R0_4 v1 v2 v3_0 v3_1 v3_2 v3_3 v3_4 v8 v9 h0) (by intro h; cases h))
theorem s_NextFire_P0 (x0 : GCron) (x1 : Int) (x2 : Int) (h0 : Small.sm x0) (h1 : (cronOk x0) = true) (h2 : (inRange x1 (0 : Int) (68374079 : Int)) = true) (h3 : (decide (x2 < (0 : Int))) = true) : Does E 11 [.agg (GCron.t .far x0), .one (tI x1), .one (tI x2)] [(false, [tI (0 : Int)]), (false, [tB false])] :=
  Does.path (fn := Try.f11) [rT, rT, .b true] _ rfl (fun _ => rfl) (fun k => by kernel_rfl) (AD (Does.tB (T_s_CronOk x0 h0) h1) <| AD (Does.tB (T_s_l01In x1 (0 : Int) (68374079 : Int)) h2) <| AC h3 <| AN)
theorem s_NextFire_P1 (x0 : GCron) (x1 : Int) (x2 : Int) (w0_6 : Int) (w0_7 : Bool) (h0 : Small.sm x0) (h1 : (cronOk x0) = true) (h2 : (inRange x1 (0 : Int) (68374079 : Int)) = true) (h3 : (decide (x2 < (0 : Int))) = false) (h4 : (decide (x2 > (3000 : Int))) = true) (h5 : Loops E 11 (lpAt Try.f11 0) (stL 80 [(1, .one (tI x1)), (2, .one (tI (3000 : Int))), (3, .box () [.s .far () 1 (x0.f0.map etI), .s .far () 1 (x0.f1.map etI), .s .far () 1 (x0.f2.map etI), .s .far () 1 (x0.f3.map etI), .s .far () 1 (x0.f4.map etI)]), (8, .one (tI (IntKind.wrap .i64 (Int.tdiv x1 (1440 : Int))))), (9, .one (tI (IntKind.wrap .i64 (Int.tdiv x1 (1440 : Int)))))]) .ret (stL 80 [(6, .one (tI w0_6)), (7, .one (tB w0_7))])) : Does E 11 [.agg (GCron.t .far x0), .one (tI x1), .one (tI x2)] [(false, [tI w0_6]), (false, [tB w0_7])] :=
  Does.path (fn := Try.f11) [rT, rT, .b false, .b true, .lp .ret (stL 80 [(6, .one (tI w0_6)), (7, .one (tB w0_7))])] _ rfl (fun _ => rfl) (fun k => by kernel_rfl) (AD (Does.tB (T_s_CronOk x0 h0) h1) <| AD (Does.tB (T_s_l01In x1 (0 : Int) (68374079 : Int)) h2) <| AC h3 <| AC h4 <| AV (ψ := fun k => LoopK E 11 (lpAt Try.f11 0) (stL 80 [(1, .one (tI x1)), (2, .one (tI (3000 : Int))), (3, .box () [.s .far () 1 (x0.f0.map etI), .s .far () 1 (x0.f1.map etI), .s .far () 1 (x0.f2.map etI), .s .far () 1 (x0.f3.map etI), .s .far () 1 (x0.f4.map etI)]), (8, .one (tI (IntKind.wrap .i64 (Int.tdiv x1 (1440 : Int))))), (9, .one (tI (IntKind.wrap .i64 (Int.tdiv x1 (1440 : Int)))))]) .ret (stL 80 [(6, .one (tI w0_6)), (7, .one (tB w0_7))]) k k) (Loops.ev h5) <| AN)
theorem s_NextFire_P2 (x0 : GCron) (x1 : Int) (x2 : Int) (h0 : Small.sm x0) (h1 : (cronOk x0) = true) (h2 : (inRange x1 (0 : Int) (68374079 : Int)) = true) (h3 : (decide (x2 < (0 : Int))) = false) (h4 : (decide (x2 > (3000 : Int))) = true) (h5 : Loops E 11 (lpAt Try.f11 0) (stL 80 [(1, .one (tI x1)), (2, .one (tI (3000 : Int))), (3, .box () [.s .far () 1 (x0.f0.map etI), .s .far () 1 (x0.f1.map etI), .s .far () 1 (x0.f2.map etI), .s .far () 1 (x0.f3.map etI), .s .far () 1 (x0.f4.map etI)]), (8, .one (tI (IntKind.wrap .i64 (Int.tdiv x1 (1440 : Int))))), (9, .one (tI (IntKind.wrap .i64 (Int.tdiv x1 (1440 : Int)))))]) (.exit 0) (stL 80 [])) : Does E 11 [.agg (GCron.t .far x0), .one (tI x1), .one (tI x2)] [(false, [tI (0 : Int)]), (false, [tB false])] :=
  Does.path (fn := Try.f11) [rT, rT, .b false, .b true, .lp (.exit 0) (stL 80 [])] _ rfl (fun _ => rfl) (fun k => by kernel_rfl) (AD (Does.tB (T_s_CronOk x0 h0) h1) <| AD (Does.tB (T_s_l01In x1 (0 : Int) (68374079 : Int)) h2) <| AC h3 <| AC h4 <| AV (ψ := fun k => LoopK E 11 (lpAt Try.f11 0) (stL 80 [(1, .one (tI x1)), (2, .one (tI (3000 : Int))), (3, .box () [.s .far () 1 (x0.f0.map etI), .s .far () 1 (x0.f1.map etI), .s .far () 1 (x0.f2.map etI), .s .far () 1 (x0.f3.map etI), .s .far () 1 (x0.f4.map etI)]), (8, .one (tI (IntKind.wrap .i64 (Int.tdiv x1 (1440 : Int))))), (9, .one (tI (IntKind.wrap .i64 (Int.tdiv x1 (1440 : Int)))))]) (.exit 0) (stL 80 []) k k) (Loops.ev h5) <| AN)
theorem s_NextFire_P3 (x0 : GCron) (x1 : Int) (x2 : Int) (w0_6 : Int) (w0_7 : Bool) (h0 : Small.sm x0) (h1 : (cronOk x0) = true) (h2 : (inRange x1 (0 : Int) (68374079 : Int)) = true) (h3 : (decide (x2 < (0 : Int))) = false) (h4 : (decide (x2 > (3000 : Int))) = false) (h5 : Loops E 11 (lpAt Try.f11 0) (stL 80 [(1, .one (tI x1)), (2, .one (tI x2)), (3, .box () [.s .far () 1 (x0.f0.map etI), .s .far () 1 (x0.f1.map etI), .s .far () 1 (x0.f2.map etI), .s .far () 1 (x0.f3.map etI), .s .far () 1 (x0.f4.map etI)]), (8, .one (tI (IntKind.wrap .i64 (Int.tdiv x1 (1440 : Int))))), (9, .one (tI (IntKind.wrap .i64 (Int.tdiv x1 (1440 : Int)))))]) .ret (stL 80 [(6, .one (tI w0_6)), (7, .one (tB w0_7))])) : Does E 11 [.agg (GCron.t .far x0), .one (tI x1), .one (tI x2)] [(false, [tI w0_6]), (false, [tB w0_7])] :=
  Does.path (fn := Try.f11) [rT, rT, .b false, .b false, .lp .ret (stL 80 [(6, .one (tI w0_6)), (7, .one (tB w0_7))])] _ rfl (fun _ => rfl) (fun k => by kernel_rfl) (AD (Does.tB (T_s_CronOk x0 h0) h1) <| AD (Does.tB (T_s_l01In x1 (0 : Int) (68374079 : Int)) h2) <| AC h3 <| AC h4 <| AV (ψ := fun k => LoopK E 11 (lpAt Try.f11 0) (stL 80 [(1, .one (tI x1)), (2, .one (tI x2)), (3, .box () [.s .far () 1 (x0.f0.map etI), .s .far () 1 (x0.f1.map etI), .s .far () 1 (x0.f2.map etI), .s .far () 1 (x0.f3.map etI), .s .far () 1 (x0.f4.map etI)]), (8, .one (tI (IntKind.wrap .i64 (Int.tdiv x1 (1440 : Int))))), (9, .one (tI (IntKind.wrap .i64 (Int.tdiv x1 (1440 : Int)))))]) .ret (stL 80 [(6, .one (tI w0_6)), (7, .one (tB w0_7))]) k k) (Loops.ev h5) <| AN)
theorem s_NextFire_P4 (x0 : GCron) (x1 : Int) (x2 : Int) (h0 : Small.sm x0) (h1 : (cronOk x0) = true) (h2 : (inRange x1 (0 : Int) (68374079 : Int)) = true) (h3 : (decide (x2 < (0 : Int))) = false) (h4 : (decide (x2 > (3000 : Int))) = false) (h5 : Loops E 11 (lpAt Try.f11 0) (stL 80 [(1, .one (tI x1)), (2, .one (tI x2)), (3, .box () [.s .far () 1 (x0.f0.map etI), .s .far () 1 (x0.f1.map etI), .s .far () 1 (x0.f2.map etI), .s .far () 1 (x0.f3.map etI), .s .far () 1 (x0.f4.map etI)]), (8, .one (tI (IntKind.wrap .i64 (Int.tdiv x1 (1440 : Int))))), (9, .one (tI (IntKind.wrap .i64 (Int.tdiv x1 (1440 : Int)))))]) (.exit 0) (stL 80 [])) : Does E 11 [.agg (GCron.t .far x0), .one (tI x1), .one (tI x2)] [(false, [tI (0 : Int)]), (false, [tB false])] :=
  Does.path (fn := Try.f11) [rT, rT, .b false, .b false, .lp (.exit 0) (stL 80 [])] _ rfl (fun _ => rfl) (fun k => by kernel_rfl) (AD (Does.tB (T_s_CronOk x0 h0) h1) <| AD (Does.tB (T_s_l01In x1 (0 : Int) (68374079 : Int)) h2) <| AC h3 <| AC h4 <| AV (ψ := fun k => LoopK E 11 (lpAt Try.f11 0) (stL 80 [(1, .one (tI x1)), (2, .one (tI x2)), (3, .box () [.s .far () 1 (x0.f0.map etI), .s .far () 1 (x0.f1.map etI), .s .far () 1 (x0.f2.map etI), .s .far () 1 (x0.f3.map etI), .s .far () 1 (x0.f4.map etI)]), (8, .one (tI (IntKind.wrap .i64 (Int.tdiv x1 (1440 : Int))))), (9, .one (tI (IntKind.wrap .i64 (Int.tdiv x1 (1440 : Int)))))]) (.exit 0) (stL 80 []) k k) (Loops.ev h5) <| AN)
theorem s_NextFire_P5 (x0 : GCron) (x1 : Int) (x2 : Int) (h0 : Small.sm x0) (h1 : (cronOk x0) = true) (h2 : (inRange x1 (0 : Int) (68374079 : Int)) = false) : Does E 11 [.agg (GCron.t .far x0), .one (tI x1), .one (tI x2)] [(false, [tI (0 : Int)]), (false, [tB false])] :=
  Does.path (fn := Try.f11) [rT, rF] _ rfl (fun _ => rfl) (fun k => by kernel_rfl) (AD (Does.tB (T_s_CronOk x0 h0) h1) <| AD (Does.tB (T_s_l01In x1 (0 : Int) (68374079 : Int)) h2) <| AN)
theorem s_NextFire_P6 (x0 : GCron) (x1 : Int) (x2 : Int) (h0 : Small.sm x0) (h1 : (cronOk x0) = false) : Does E 11 [.agg (GCron.t .far x0), .one (tI x1), .one (tI x2)] [(false, [tI (0 : Int)]), (false, [tB false])] :=
  Does.path (fn := Try.f11) [rF] _ rfl (fun _ => rfl) (fun k => by kernel_rfl) (AD (Does.tB (T_s_CronOk x0 h0) h1) <| AN)
noncomputable def s_NextFire_F (x0 : GCron) (x1 : Int) (x2 : Int) : Option (Int × Bool) :=
    if Small.sm x0 then cond (cronOk x0)
      (cond (inRange x1 (0 : Int) (68374079 : Int))
        (cond (decide (x2 < (0 : Int)))
          (some ((0 : Int), false))
          (cond (decide (x2 > (3000 : Int)))
            ((s_NextFire_l0 x1 (3000 : Int) x0.f0 x0.f1 x0.f2 x0.f3 x0.f4 (IntKind.wrap .i64 (Int.tdiv x1 (1440 : Int))) 9223372036854775808 (IntKind.wrap .i64 (Int.tdiv x1 (1440 : Int)))).bind fun y => match y with
              | .ret w0_6 w0_7 => (some (w0_6, w0_7))
              | .x0 => (some ((0 : Int), false)))
            ((s_NextFire_l0 x1 x2 x0.f0 x0.f1 x0.f2 x0.f3 x0.f4 (IntKind.wrap .i64 (Int.tdiv x1 (1440 : Int))) 9223372036854775808 (IntKind.wrap .i64 (Int.tdiv x1 (1440 : Int)))).bind fun y => match y with
              | .ret w0_6 w0_7 => (some (w0_6, w0_7))
              | .x0 => (some ((0 : Int), false)))))
        (some ((0 : Int), false)))
      (some ((0 : Int), false)) else none
theorem s_NextFire_D (x0 : GCron) (x1 : Int) (x2 : Int) : Ans (s_NextFire_F x0 x1 x2) (fun r => Does E 11 [.agg (GCron.t .far x0), .one (tI x1), .one (tI x2)] [(false, [tI r.1]), (false, [tB r.2])]) := by
  unfold s_NextFire_F
  refine Ans.pre (fun h0 => ?_)
  refine Ans.ite (fun h1 => ?_) (fun h1 => ?_)
  · refine Ans.ite (fun h2 => ?_) (fun h2 => ?_)
    · refine Ans.ite (fun h3 => ?_) (fun h3 => ?_)
      · exact Ans.some (s_NextFire_P0 x0 x1 x2 h0 h1 h2 h3)
      · refine Ans.ite (fun h4 => ?_) (fun h4 => ?_)
        · refine Ans.bind (fun y hy => ?_)
          replace hy := s_NextFire_L0 x1 (3000 : Int) x0.f0 x0.f1 x0.f2 x0.f3 x0.f4 (IntKind.wrap .i64 (Int.tdiv x1 (1440 : Int))) 9223372036854775808 (IntKind.wrap .i64 (Int.tdiv x1 (1440 : Int))) y hy
          cases y with
          | ret w0_6 w0_7 =>
            have h5 := hy
            exact Ans.some (s_NextFire_P1 x0 x1 x2 w0_6 w0_7 h0 h1 h2 h3 h4 h5)
          | x0 =>
            have h5 := hy
            exact Ans.some (s_NextFire_P2 x0 x1 x2 h0 h1 h2 h3 h4 h5)
        · refine Ans.bind (fun y hy => ?_)
          replace hy := s_NextFire_L0 x1 x2 x0.f0 x0.f1 x0.f2 x0.f3 x0.f4 (IntKind.wrap .i64 (Int.tdiv x1 (1440 : Int))) 9223372036854775808 (IntKind.wrap .i64 (Int.tdiv x1 (1440 : Int))) y hy
          cases y with
          | ret w0_6 w0_7 =>
            have h5 := hy
            exact Ans.some (s_NextFire_P3 x0 x1 x2 w0_6 w0_7 h0 h1 h2 h3 h4 h5)
          | x0 =>
            have h5 := hy
            exact Ans.some (s_NextFire_P4 x0 x1 x2 h0 h1 h2 h3 h4 h5)
    · exact Ans.some (s_NextFire_P5 x0 x1 x2 h0 h1 h2)
  · exact Ans.some (s_NextFire_P6 x0 x1 x2 h0 h1)
noncomputable def fireD (c : GCron) (from_ : Int) : Nat → Int → Option Int
  | 0, _ => none
  | n + 1, d => if d * 1440 ≤ 68374079 then (if dayOk c (d * 1440) = true then (match firstH d (max from_ (d * 1440)) c.f1 c.f0 with | some m => some m | none => fireD c from_ n (d + 1)) else fireD c from_ n (d + 1)) else none
noncomputable def nextFire (c : GCron) (from_ days : Int) : Int × Bool := if isMinute from_ = true then (match fireD c from_ 401 (from_ / 1440) with | some m => (m, true) | none => (0, false)) else (0, false)
noncomputable def nextFireS (c : GCron) (from_ days : Int) : Int × Bool := if cronOk c = true then nextFire c from_ days else (0, false)
theorem min_s (d from_ h : Int) (h0 : 0 ≤ d) (h1 : d < 47482) (hh : 0 ≤ h ∧ h ≤ 23) (hours : List Int) (k : Nat) (hk : hours[k]? = some h) : ∀ (mins : List Int) (i : Nat), (∀ x ∈ mins, 0 ≤ x ∧ x ≤ 59) →
    s_NextFire_l2 from_ hours d (k : Int) mins i = some (match firstM d from_ h mins with | some m => .ret m true | none => .x4)
  | [], i, _ => rfl
  | x :: mins, i, hm => by
    have hx := hm x (by simp)
    unfold s_NextFire_l2
    rw [getI_nat, hk, Option.bind_some]
    have e : IntKind.wrap .i64 (IntKind.wrap .i64 (IntKind.wrap .i64 (d * 1440) + IntKind.wrap .i64 (h * 60)) + x) = d * 1440 + h * 60 + x := by
      rw [wrap_id (h * 60) (by omega) (by omega), wrap_id (d * 1440) (by omega) (by omega), wrap_id (d * 1440 + h * 60) (by omega) (by omega), wrap_id _ (by omega) (by omega)]
    rw [e, min_s d from_ h h0 h1 hh hours k hk mins (i + 1) fun y hy => hm y (by simp [hy])]
    unfold firstM
    rw [List.map_cons, List.find?_cons]
    cases decide (d * 1440 + h * 60 + x ≥ from_) <;> rfl
theorem hour_s (d from_ : Int) (h0 : 0 ≤ d) (h1 : d < 47482) (full mins : List Int) (hl : mins.length ≤ 1050000) (hm : ∀ x ∈ mins, 0 ≤ x ∧ x ≤ 59) : ∀ (hours : List Int) (i : Nat), full.drop i = hours → (∀ x ∈ hours, 0 ≤ x ∧ x ≤ 23) →
    s_NextFire_l1 from_ mins full d hours i = some (match firstH d from_ hours mins with | some m => .ret m true | none => .x2)
  | [], i, _, _ => rfl
  | h :: hours, i, hE, hh => by
    have hk : full[i]? = some h := by rw [← List.head?_drop, hE]; rfl
    unfold s_NextFire_l1
    rw [if_pos (by omega), min_s d from_ h h0 h1 (hh h (by simp)) full i hk mins 0 hm, hour_s d from_ h0 h1 full mins hl hm hours (i + 1) (foldRest hE) fun y hy => hh y (by simp [hy])]
    unfold firstH
    rw [List.findSome?_cons]
    cases firstM d from_ h mins <;> rfl
theorem firstM_max (d from_ h : Int) (hh : 0 ≤ h) (mins : List Int) (hm : ∀ x ∈ mins, 0 ≤ x ∧ x ≤ 59) : firstM d (max from_ (d * 1440)) h mins = firstM d from_ h mins := by
  induction mins with
  | nil => rfl
  | cons x mins ih =>
    have hx := hm x (by simp)
    unfold firstM at ih ⊢
    rw [List.map_cons, List.find?_cons, List.find?_cons, ih fun y hy => hm y (by simp [hy])]
    have : decide (d * 1440 + h * 60 + x ≥ max from_ (d * 1440)) = decide (d * 1440 + h * 60 + x ≥ from_) := by
      rw [decide_eq_decide]; omega
    rw [this]
theorem firstH_max (d from_ : Int) (hours mins : List Int) (hh : ∀ x ∈ hours, 0 ≤ x ∧ x ≤ 23) (hm : ∀ x ∈ mins, 0 ≤ x ∧ x ≤ 59) : firstH d (max from_ (d * 1440)) hours mins = firstH d from_ hours mins := by
  induction hours with
  | nil => rfl
  | cons h hours ih =>
    unfold firstH at ih ⊢
    rw [List.findSome?_cons, List.findSome?_cons, firstM_max d from_ h (hh h (by simp)).1 mins hm, ih fun y hy => hh y (by simp [hy])]
theorem fire_s (c : GCron) (from_ : Int) (h : Small.sm c) (hc : cronOk c = true) (first : Int) (hf0 : 0 ≤ first) (hf1 : first < 47482) : ∀ (m n : Nat) (d : Int), d + m = first + 401 → first ≤ d → m < n →
    s_NextFire_l0 from_ 400 c.f0 c.f1 c.f2 c.f3 c.f4 first n d = some (match fireD c from_ m d with | some x => .ret x true | none => .x0)
  | m, 0, d, _, _, hn => by omega
  | 0, n + 1, d, hd, _, _ => by
    unfold s_NextFire_l0
    rw [wrap_id (first + 400) (by omega) (by omega), decide_eq_false (by omega)]
    rfl
  | m + 1, n + 1, d, hd, hle, hn => by
    obtain ⟨hm, hh⟩ := cron_hours hc
    have ih := fire_s c from_ h hc first hf0 hf1 m n (d + 1) (by omega) (by omega) (by omega)
    have l1 := h.2.1.1
    have l0 := h.1.1
    unfold s_NextFire_l0 fireD
    rw [wrap_id (first + 400) (by omega) (by omega), decide_eq_true (by omega), cond_true, wrap_id (d * 1440) (by omega) (by omega), inc_id d (by omega) (by omega), ih]
    by_cases q : d * 1440 ≤ 68374079
    · rw [decide_eq_true q, if_pos q, cond_true, if_pos (show Small.sm (GCron.mk c.f0 c.f1 c.f2 c.f3 c.f4) from h)]
      show cond (dayOk c (d * 1440)) _ _ = _
      cases dayOk c (d * 1440) with
      | false => rfl
      | true =>
        rw [cond_true, if_pos rfl, if_pos (by omega), hour_s d from_ (by omega) (by omega) c.f1 c.f0 l0 hm c.f1 0 rfl hh, firstH_max d from_ c.f1 c.f0 hh hm]
        cases firstH d from_ c.f1 c.f0 <;> rfl
    · rw [decide_eq_false q, if_neg q]; rfl
theorem fire_i (c : GCron) (from_ : Int) (h : Small.sm c) (hc : cronOk c = true) (first : Int) (hf : first = from_ / 1440) (hf0 : 0 ≤ from_) (hf1 : from_ ≤ 68374079) : ∀ (m n : Nat) (d v : Int), d + m = first + 401 → first ≤ d → m < n → v = max from_ (d * 1440) →
    i_nextFire_l0 400 c.f0 c.f1 c.f2 c.f3 c.f4 n v (d - first) = some (match fireD c from_ m d with | some x => .ret x true | none => .x0)
  | m, 0, d, v, _, _, hn, _ => by omega
  | 0, n + 1, d, v, hd, _, _, _ => by
    unfold i_nextFire_l0
    have : minI 400 3000 = 400 := rfl
    rw [this, decide_eq_false (by omega)]
    rfl
  | m + 1, n + 1, d, v, hd, hle, hn, hv => by
    have d0 : 0 ≤ d := by omega
    have dv : d ≤ 50000 := by omega
    have hd1440 : v / 1440 = d := by omega
    have v0 : 0 ≤ v := by omega
    have v1 : v < (d + 1) * 1440 := by omega
    have nx : IntKind.wrap .i64 (v + IntKind.wrap .i64 (1440 - Int.tmod v 1440)) = (d + 1) * 1440 := by
      rw [Int.tmod_eq_emod_of_nonneg v0, wrap_id (1440 - v % 1440) (by omega) (by omega), wrap_id _ (by omega) (by omega)]; omega
    have ih := fire_i c from_ h hc first hf hf0 hf1 m n (d + 1) ((d + 1) * 1440) (by omega) (by omega) (by omega) (by omega)
    have ee : inc (d - first) = d + 1 - first := by rw [inc_id _ (by omega) (by omega)]; omega
    unfold i_nextFire_l0 fireD
    have hm4 : minI 400 3000 = 400 := rfl
    rw [hm4, decide_eq_true (by omega), cond_true, nx, ee, ih]
    have sm : Small.sm (GCron.mk c.f0 c.f1 c.f2 c.f3 c.f4) := h
    simp only [if_pos sm]
    by_cases q : d * 1440 ≤ 68374079
    · have vm : isMinute v = true := inRange_iff.2 ⟨v0, by omega⟩
      have e1 := day_same c v v0 (inRange_iff.1 vm).2
      rw [hd1440] at e1
      have e2 := (nextIn_ok c v h hc v0 (inRange_iff.1 vm).2).2
      rw [hd1440, hv] at e2
      rw [if_pos q, vm, cond_true]
      show cond (dayFires c v (civilOf v).1) _ _ = _
      rw [e1]
      cases dayOk c (d * 1440) with
      | false => rfl
      | true =>
        rw [cond_true, if_pos rfl]
        show cond (nextIn c v).2 (some (i_nextFire_X0.ret (nextIn c v).1 true)) _ = _
        rw [hv, e2]
        cases firstH d (max from_ (d * 1440)) c.f1 c.f0 <;> rfl
    · have vm : isMinute v = false := by
        cases z : isMinute v with
        | false => rfl
        | true => exact absurd (inRange_iff.1 z).2 (by omega)
      rw [if_neg q, vm]; rfl
theorem nextFire_i (c : GCron) (from_ : Int) (h : Small.sm c) (hc : cronOk c = true) : i_nextFire_F c from_ 400 = some (nextFire c from_ 400) := by
  unfold i_nextFire_F nextFire
  cases q : isMinute from_ with
  | false =>
    have : i_nextFire_l0 400 c.f0 c.f1 c.f2 c.f3 c.f4 9223372036854775808 from_ 0 = some .x0 := by
      unfold i_nextFire_l0
      have hm4 : minI 400 3000 = 400 := rfl
      rw [hm4, decide_eq_true (by omega), cond_true, q]
      rfl
    rw [this]; rfl
  | true =>
    obtain ⟨f0, f1⟩ := inRange_iff.1 q
    have := fire_i c from_ h hc (from_ / 1440) rfl f0 f1 401 9223372036854775808 (from_ / 1440) from_ (by omega) (by omega) (by omega) (by omega)
    rw [show from_ / 1440 - from_ / 1440 = 0 by omega] at this
    rw [this, if_pos rfl]
    cases fireD c from_ 401 (from_ / 1440) <;> rfl
theorem nextFire_s (c : GCron) (from_ : Int) (h : Small.sm c) : s_NextFire_F c from_ 400 = some (nextFireS c from_ 400) := by
  unfold s_NextFire_F nextFireS
  try rw [if_pos h]
  cases hc : cronOk c with
  | false => rfl
  | true =>
    rw [cond_true, if_pos rfl]
    unfold nextFire
    cases q : isMinute from_ with
    | false =>
      have : inRange from_ 0 68374079 = false := q
      rw [this]; rfl
    | true =>
      have q' : inRange from_ 0 68374079 = true := q
      obtain ⟨f0, f1⟩ := inRange_iff.1 q
      have e : IntKind.wrap .i64 (Int.tdiv from_ 1440) = from_ / 1440 := by rw [Int.tdiv_eq_ediv_of_nonneg f0]; exact wrap_id _ (by omega) (by omega)
      have := fire_s c from_ h hc (from_ / 1440) (by omega) (by omega) 401 9223372036854775808 (from_ / 1440) (by omega) (by omega) (by omega)
      rw [q', cond_true, decide_eq_false (by omega), cond_false, decide_eq_false (by omega), cond_false, e, this, if_pos rfl]
      cases fireD c from_ 401 (from_ / 1440) <;> rfl
theorem T_i_nextFire (x0 : GCron) (x1 : Int) (x2 : Int) (h : Small.sm x0) (hc : cronOk x0 = true) (hd : x2 = 400) : Does E 40 [.agg (GCron.t .far x0), .one (tI x1), .one (tI x2)] [(false, [tI ((nextFire x0 x1 x2).1)]), (false, [tB ((nextFire x0 x1 x2).2)])] := by
  subst hd
  exact i_nextFire_D x0 x1 400 _ (nextFire_i x0 x1 h hc)
theorem T_s_NextFire (x0 : GCron) (x1 : Int) (x2 : Int) (h : Small.sm x0) (hd : x2 = 400) : Does E 11 [.agg (GCron.t .far x0), .one (tI x1), .one (tI x2)] [(false, [tI ((nextFireS x0 x1 x2).1)]), (false, [tB ((nextFireS x0 x1 x2).2)])] := by
  subst hd
  exact s_NextFire_D x0 x1 400 _ (nextFire_s x0 x1 h)
end Go.Proofs.Ytalapefcbodhaaa.Am
