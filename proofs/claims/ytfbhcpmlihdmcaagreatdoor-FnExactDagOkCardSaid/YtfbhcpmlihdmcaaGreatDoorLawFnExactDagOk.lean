/- 'laws.FnExactDagOk' returns true for every plan, and leaves the plan as it was. Conditions: none. -/
import Derived.Test.YtfbhcpmlihdmcaaGreatDoorPlans
import Derived.Test.YtfbhcpmlihdmcaaGreatDoorRows
import Derived.Test.YtfbhcpmlihdmcaaGreatDoorCards
import Derived.Test.YtfbhcpmlihdmcaaGreatDoorTie
import Derived.WalkKit
import Derived.ProofKit
import Derived.OpenShut
import Derived.ShutString
import Derived.ChangeOld
import Derived.Below
import Derived.SizedLaws
import Derived.Lay
import Derived.LaidMore
import Derived.SevenTiedAt
import Derived.Stop.Joined
import Derived.Stop.LaidErr
import Derived.Lib.LaidTab
import Derived.Shelf.Vars
import Derived.HandedShaped
namespace Go.Proofs.YtfbhcpmlihdmcaaGreatDoor.Am
open Go Go.Proofs Classical
set_option maxRecDepth 100000
set_option linter.unusedVariables false
set_option linter.unusedSimpArgs false
inductive oq where
 | ret (v4 : Int)
 | x0 (v1 : Int)
def eM (v0 : List ByteArray) (v1 v5 : Int) : US := stL 28 [(0, .one (.s .far () 1 (v0.map etS))), (1, .one (tI v1)), (5, .one (tI v5))]
def jl (zv4 : Int) : US := stL 28 [(4, .one (tI zv4))]
def jQ (zv1 : Int) : US := stL 28 [(1, .one (tI zv1))]
abbrev k8 : US → Exit → US → Prop := Round E 42 (aB Tryz.f42 0)
def wy (v0 : List ByteArray) (v1 v5 : Int) : oq → Prop
 | .ret zv4 => Loops E 42 (aB Tryz.f42 0) (eM v0 v1 v5) .ret (jl zv4)
 | .x0 zv1 => Loops E 42 (aB Tryz.f42 0) (eM v0 v1 v5) (.exit 0) (jQ zv1)
theorem tv (v0 : List ByteArray) (v1 v5 : Int) (g0 : ByteArray) (h0 : (decide (v5 < (v0.length : Int))) = true) (h1 : am v0 v5 = some g0) (h2 : (decide ((IntKind.wrap .i64 (v1 - (g0.size : Int))) < (0 : Int))) = true) : k8 (eM v0 v1 v5) .ret (jl (-1 : Int)) :=
 IV [.val (.int .i64 (v0.length : Int)), .b true, .row (etS g0), .no, .b true] _ (fun k => by kernel_rfl) (AC (p := ((v0.map etS).length : Int) = (v0.length : Int)) ag <| AC h0 <| AC (p := 0 ≤ v5 ∧ (v0.map etS)[v5.toNat]? = some (etS g0)) (az h1) <| AC h2 <| AN)
theorem tw (v0 : List ByteArray) (v1 v5 : Int) (g0 : ByteArray) (h0 : (decide (v5 < (v0.length : Int))) = true) (h1 : am v0 v5 = some g0) (h2 : (decide ((IntKind.wrap .i64 (v1 - (g0.size : Int))) < (0 : Int))) = false) : k8 (eM v0 v1 v5) .normal (eM v0 (IntKind.wrap .i64 (v1 - (g0.size : Int))) (inc v5)) :=
 IV [.val (.int .i64 (v0.length : Int)), .b true, .row (etS g0), .no, .b false] _ (fun k => by kernel_rfl) (AC (p := ((v0.map etS).length : Int) = (v0.length : Int)) ag <| AC h0 <| AC (p := 0 ≤ v5 ∧ (v0.map etS)[v5.toNat]? = some (etS g0)) (az h1) <| AC h2 <| AN)
theorem tz (v0 : List ByteArray) (v1 v5 : Int) (h0 : (decide (v5 < (v0.length : Int))) = false) : k8 (eM v0 v1 v5) (.exit 0) (jQ v1) :=
 IV [.val (.int .i64 (v0.length : Int)), .b false] _ (fun k => by kernel_rfl) (AC (p := ((v0.map etS).length : Int) = (v0.length : Int)) ag <| AC h0 <| AN)
noncomputable def cH  : List ByteArray → Nat → Int → Option oq
 | [], i, v1 => some (.x0 v1)
 | hd :: rest, i, v1 => cond (decide ((IntKind.wrap .i64 (v1 - (hd.size : Int))) < (0 : Int)))
  (some (.ret (-1 : Int)))
  (cH rest (i + 1) (IntKind.wrap .i64 (v1 - (hd.size : Int))))
theorem wx (v0 : List ByteArray) (rest : List ByteArray) : ∀ (i : Nat) (v1 : Int), (v0).drop i = rest → v0.length ≤ 9223372036854775807 → Ans (cH rest i v1) (wy v0 v1 (i : Int)) := by
 induction rest with
 | nil =>
  intro i v1 hE hl
  have hb := bH hE
  unfold cH
  exact IX (IZ (tz v0 v1 (i : Int) hb) (by intro h; cases h))
 | cons hd rest ih =>
  intro i v1 hE hl
  have hb := bh hE
  have hw := bi hE hl
  have hE2 := aK hE
  have hg := bq hE
  unfold cH
  refine I3 (fun h2 => ?_) (fun h2 => ?_)
  ·exact IX (IZ (tv v0 v1 (i : Int) hd hb hg h2) (by intro h; cases h))
  ·exact (ih (i + 1) (IntKind.wrap .i64 (v1 - (hd.size : Int))) hE2 hl).mono fun y hy => by have r := tw v0 v1 (i : Int) hd hb hg h2; rw [hw] at r; cases y <;> exact IY r hy
noncomputable def fc (x0 : List ByteArray) (x1 : Int) : Option (Int) :=
  cond (decide ((IntKind.wrap .i64 (x1 - (x0.length : Int))) < (0 : Int)))
   (some ((-1 : Int)))
   (if x0.length ≤ 9223372036854775807 then (cH x0 0 (IntKind.wrap .i64 (x1 - (x0.length : Int)))).bind fun y => match y with
    | .ret w0_4 => (some (w0_4))
    | .x0 w0_1 => (some (w0_1)) else none)
theorem yL (x0 : List ByteArray) (x1 : Int) : Ans (fc x0 x1) (fun r => Does E 42 [.one (.s .far () 1 (x0.map etS)), .one (tI x1)] [(false, [tI r])]) := by
 unfold fc
 refine I3 (fun h0 => ?_) (fun h0 => ?_)
 ·exact IX (IW (fn := Tryz.f42) [.val (.int .i64 (x0.length : Int)), .no, .b true] _ rfl (fun _ => rfl) (fun k => by kernel_rfl) (AC (p := ((x0.map etS).length : Int) = (x0.length : Int)) ag <| AC h0 <| AN))
 ·refine I5 (fun hl2 => ?_)
  refine I4 (fun y hy => ?_)
  replace hy := wx x0 x0 0 (IntKind.wrap .i64 (x1 - (x0.length : Int))) rfl hl2 y hy
  cases y with
  | ret w0_4 =>
   have h1 := hy
   exact IX (IW (fn := Tryz.f42) [.val (.int .i64 (x0.length : Int)), .no, .b false, .lp .ret (jl w0_4)] _ rfl (fun _ => rfl) (fun k => by kernel_rfl) (AC (p := ((x0.map etS).length : Int) = (x0.length : Int)) ag <| AC h0 <| AL h1 <| AN))
  | x0 w0_1 =>
   have h1 := hy
   exact IX (IW (fn := Tryz.f42) [.val (.int .i64 (x0.length : Int)), .no, .b false, .lp (.exit 0) (jQ w0_1)] _ rfl (fun _ => rfl) (fun k => by kernel_rfl) (AC (p := ((x0.map etS).length : Int) = (x0.length : Int)) ag <| AC h0 <| AL h1 <| AN))
noncomputable def cD (x : List ByteArray) (n : Int) : Int := (fc x n).getD (-1)
theorem oI : ∀ (rest : List ByteArray) (i : Nat) (n : Int), (∀ y ∈ rest, Wf.wf y) → Tot (cH rest i n)
 | [], i, n, _ => Tot.some _
 | x :: rest, i, n, h => by
  have hx := h x (by simp)
  have ih := fun i n => oI rest i n fun y hy => h y (by simp [hy])
  unfold cH
  repeat' (first | exact Tot.some _ | exact ih _ _ | apply Tot.cond | refine Tot.ite (by assumption) ?_)
theorem nA (x : List ByteArray) (n : Int) (h : Wf.wf x) : fc x n = some (cD x n) := by
 refine Tot.getD ?_ _
 unfold fc
 refine Tot.cond (Tot.some _) ?_
 refine Tot.ite h.1 (Tot.bind (oI x 0 _ h.2) fun y hy => ?_)
 cases y <;> exact Tot.some _
theorem pA (x0 : List ByteArray) (x1 : Int) (h : Wf.wf x0) : Does E 42 [.one (.s .far () 1 (x0.map etS)), .one (tI x1)] [(false, [tI (cD x0 x1)])] := by
 exact yL x0 x1 _ (nA x0 x1 h)
theorem np : ∀ (rest : List ByteArray) (i : Nat) (n : Int), (∀ y ∈ rest, Wf.wf y) → 0 ≤ n → n ≤ 1048576 → ∀ y, cH rest i n = some y →
  (∃ m, y = .x0 m ∧ 0 ≤ m ∧ m ≤ n ∧ ∀ z ∈ rest, aq.sm z) ∨ ∃ m, y = .ret m ∧ m < 0
 | [], i, n, _, h0, h1, y, e => by cases e; exact .inl ⟨n, rfl, h0, Int.le_refl _, fun z hz => by cases hz⟩
 | x :: rest, i, n, h, h0, h1, y, e => by
  have hx := h x (by simp)
  unfold cH at e
  try rw [if_pos hx] at e
  by_cases q : IntKind.wrap .i64 (n - (x.size : Int)) < 0
  ·rw [decide_eq_true q, cond_true] at e
   cases e
   exact .inr ⟨_, rfl, by omega⟩
  ·rw [decide_eq_false q, cond_false] at e
   try rw [if_pos hx] at e
   obtain ⟨b, c⟩ := pv h0 h1 hx (by omega)
   rcases np rest _ _ (fun y hy => h y (by simp [hy])) (by omega) (by omega) y e with ⟨m, g1, g2, g3, g4⟩ | g
   ·refine .inl ⟨m, g1, g2, by omega, fun z hz => ?_⟩
    rcases List.mem_cons.1 hz with rfl | hz
    ·exact jU c
    ·exact g4 z hz
   ·exact .inr g
theorem wG (x : List ByteArray) (n : Int) (hw : Wf.wf x) (h0 : 0 ≤ n) (h1 : n ≤ 1048576) (h : 0 ≤ cD x n) : cD x n ≤ n ∧ aq.sm x := by
 have e := nA x n hw
 generalize cD x n = r at *
 unfold fc at e
 obtain ⟨a1, e⟩ := lQ e h
 obtain ⟨b1, c1⟩ := pv (n := n) (k := x.length) h0 h1 hw.1 a1
 rw [if_pos hw.1, Option.bind_eq_some_iff] at e
 obtain ⟨y, e1, e2⟩ := e
 rcases np x 0 _ hw.2 a1 (by omega) y e1 with ⟨m, rfl, g2, g3, g4⟩ | ⟨m, rfl, g⟩
 ·cases e2; exact ⟨by omega, jU c1, g4⟩
 ·cases e2; omega
noncomputable def iX (x0 : GTask) (x1 : Int) : Option (Int) :=
  cond (decide ((IntKind.wrap .i64 (x1 - (x0.f0.size : Int))) < (0 : Int)))
   (some ((-1 : Int)))
   (cond (decide ((IntKind.wrap .i64 ((IntKind.wrap .i64 (x1 - (x0.f0.size : Int))) - (x0.f1.size : Int))) < (0 : Int)))
    (some ((-1 : Int)))
    (if Wf.wf x0.f4 then cond (decide ((cD x0.f4 (IntKind.wrap .i64 ((IntKind.wrap .i64 (x1 - (x0.f0.size : Int))) - (x0.f1.size : Int)))) < (0 : Int)))
     (some ((-1 : Int)))
     (some (cD x0.f4 (IntKind.wrap .i64 ((IntKind.wrap .i64 (x1 - (x0.f0.size : Int))) - (x0.f1.size : Int))))) else none))
theorem DX (x0 : GTask) (x1 : Int) : Ans (iX x0 x1) (fun r => Does E 24 [.agg (GTask.t .far x0), .one (tI x1)] [(false, [tI r])]) := by
 unfold iX
 refine I3 (fun h0 => ?_) (fun h0 => ?_)
 ·exact IX (IW (fn := Tryz.f24) [.no, .b true] _ rfl (fun _ => rfl) (fun k => by kernel_rfl) (AC h0 <| AN))
 ·refine I3 (fun h1 => ?_) (fun h1 => ?_)
  ·exact IX (IW (fn := Tryz.f24) [.no, .b false, .no, .b true] _ rfl (fun _ => rfl) (fun k => by kernel_rfl) (AC h0 <| AC h1 <| AN))
  ·refine I5 (fun h2 => ?_)
   refine I3 (fun h3 => ?_) (fun h3 => ?_)
   ·exact IX (IW (fn := Tryz.f24) [.no, .b false, .no, .b false, .ret [(false, [tI (cD x0.f4 (IntKind.wrap .i64 ((IntKind.wrap .i64 (x1 - (x0.f0.size : Int))) - (x0.f1.size : Int))))])], .b true] _ rfl (fun _ => rfl) (fun k => by kernel_rfl) (AC h0 <| AC h1 <| AD (pA x0.f4 (IntKind.wrap .i64 ((IntKind.wrap .i64 (x1 - (x0.f0.size : Int))) - (x0.f1.size : Int))) h2) <| AC h3 <| AN))
   ·exact IX (IW (fn := Tryz.f24) [.no, .b false, .no, .b false, .ret [(false, [tI (cD x0.f4 (IntKind.wrap .i64 ((IntKind.wrap .i64 (x1 - (x0.f0.size : Int))) - (x0.f1.size : Int))))])], .b false] _ rfl (fun _ => rfl) (fun k => by kernel_rfl) (AC h0 <| AC h1 <| AD (pA x0.f4 (IntKind.wrap .i64 ((IntKind.wrap .i64 (x1 - (x0.f0.size : Int))) - (x0.f1.size : Int))) h2) <| AC h3 <| AN))
noncomputable def cw (x : GTask) (n : Int) : Int := (iX x n).getD (-1)
theorem ry (x : GTask) (n : Int) (h : Wf.wf x) : iX x n = some (cw x n) := by
 obtain ⟨w0, w1, w4⟩ := h
 refine Tot.getD ?_ _
 unfold iX
 repeat' (first | exact Tot.some _ | apply Tot.cond | refine Tot.ite (by assumption) ?_)
theorem t7 (x0 : GTask) (x1 : Int) (h : Wf.wf x0) : Does E 24 [.agg (GTask.t .far x0), .one (tI x1)] [(false, [tI (cw x0 x1)])] := by
 exact DX x0 x1 _ (ry x0 x1 h)
theorem Cq (x : GTask) (n : Int) (hw : Wf.wf x) (h0 : 0 ≤ n) (h1 : n ≤ 1048576) (h : 0 ≤ cw x n) : cw x n ≤ n ∧ aq.sm x := by
 have e := ry x n hw
 obtain ⟨w0, w1, w4⟩ := hw
 generalize cw x n = r at *
 unfold iX at e
 obtain ⟨a1, e⟩ := lQ e h
 obtain ⟨b1, c1⟩ := pv (n := n) (k := x.f0.size) h0 (by omega) w0 a1
 generalize IntKind.wrap .i64 (n - (x.f0.size : Int)) = m1 at *
 obtain ⟨a2, e⟩ := lQ e h
 obtain ⟨b2, c2⟩ := pv (n := m1) (k := x.f1.size) a1 (by omega) w1 a2
 generalize IntKind.wrap .i64 (m1 - (x.f1.size : Int)) = m2 at *
 try rw [if_pos w4] at e
 obtain ⟨a3, e⟩ := lQ e h
 try rw [if_pos w4] at e
 obtain ⟨b3, c3⟩ := wG x.f4 m2 w4 a2 (by omega) a3
 generalize cD x.f4 m2 = m3 at *
 cases e
 exact ⟨by omega, ⟨jU c1, jU c2, c3⟩⟩
inductive qV where
 | ret (v4 : Int)
 | x0 (v1 : Int)
def fQ (q0 : Kd) (v0 : List GTask) (v1 v5 : Int) : US := stL 27 [(0, .one (.s .far () 5 (v0.map (GTask.t q0)))), (1, .one (tI v1)), (5, .one (tI v5))]
def kA (q0 : Kd) (zv4 : Int) : US := stL 27 [(4, .one (tI zv4))]
def k9 (q0 : Kd) (zv1 : Int) : US := stL 27 [(1, .one (tI zv1))]
abbrev mQ : US → Exit → US → Prop := Round E 9 (aB Tryz.f9 0)
def AK {q0 : Kd} (v0 : List GTask) (v1 v5 : Int) : qV → Prop
 | .ret zv4 => Loops E 9 (aB Tryz.f9 0) (fQ q0 v0 v1 v5) .ret (kA q0 zv4)
 | .x0 zv1 => Loops E 9 (aB Tryz.f9 0) (fQ q0 v0 v1 v5) (.exit 0) (k9 q0 zv1)
theorem wz {q0 : Kd} (v0 : List GTask) (v1 v5 : Int) (g0 : GTask) (h0 : (decide (v5 < (v0.length : Int))) = true) (h1 : am v0 v5 = some g0) (h2 : Wf.wf g0) (h3 : (decide ((cw g0 v1) < (0 : Int))) = true) : mQ (fQ q0 v0 v1 v5) .ret (kA q0 (-1 : Int)) :=
 IV [.val (.int .i64 (v0.length : Int)), .b true, .row ((GTask.t q0) g0), .ret [(false, [tI (cw g0 v1)])], .b true] _ (fun k => by kernel_rfl) (AC (p := ((v0.map (GTask.t q0)).length : Int) = (v0.length : Int)) ag <| AC h0 <| AC (p := 0 ≤ v5 ∧ (v0.map (GTask.t q0))[v5.toNat]? = some ((GTask.t q0) g0)) (az h1) <| AD (t7 g0 v1 h2) <| AC h3 <| AN)
theorem wA {q0 : Kd} (v0 : List GTask) (v1 v5 : Int) (g0 : GTask) (h0 : (decide (v5 < (v0.length : Int))) = true) (h1 : am v0 v5 = some g0) (h2 : Wf.wf g0) (h3 : (decide ((cw g0 v1) < (0 : Int))) = false) : mQ (fQ q0 v0 v1 v5) .normal (fQ q0 v0 (cw g0 v1) (inc v5)) :=
 IV [.val (.int .i64 (v0.length : Int)), .b true, .row ((GTask.t q0) g0), .ret [(false, [tI (cw g0 v1)])], .b false] _ (fun k => by kernel_rfl) (AC (p := ((v0.map (GTask.t q0)).length : Int) = (v0.length : Int)) ag <| AC h0 <| AC (p := 0 ≤ v5 ∧ (v0.map (GTask.t q0))[v5.toNat]? = some ((GTask.t q0) g0)) (az h1) <| AD (t7 g0 v1 h2) <| AC h3 <| AN)
theorem wB {q0 : Kd} (v0 : List GTask) (v1 v5 : Int) (h0 : (decide (v5 < (v0.length : Int))) = false) : mQ (fQ q0 v0 v1 v5) (.exit 0) (k9 q0 v1) :=
 IV [.val (.int .i64 (v0.length : Int)), .b false] _ (fun k => by kernel_rfl) (AC (p := ((v0.map (GTask.t q0)).length : Int) = (v0.length : Int)) ag <| AC h0 <| AN)
noncomputable def dA  : List GTask → Nat → Int → Option qV
 | [], i, v1 => some (.x0 v1)
 | hd :: rest, i, v1 => if Wf.wf hd then cond (decide ((cw hd v1) < (0 : Int)))
  (some (.ret (-1 : Int)))
  (dA rest (i + 1) (cw hd v1)) else none
theorem AJ {q0 : Kd} (v0 : List GTask) (rest : List GTask) : ∀ (i : Nat) (v1 : Int), (v0).drop i = rest → v0.length ≤ 9223372036854775807 → Ans (dA rest i v1) (AK (q0 := q0) v0 v1 (i : Int)) := by
 induction rest with
 | nil =>
  intro i v1 hE hl
  have hb := bH hE
  unfold dA
  exact IX (IZ (wB (q0 := q0) v0 v1 (i : Int) hb) (by intro h; cases h))
 | cons hd rest ih =>
  intro i v1 hE hl
  have hb := bh hE
  have hw := bi hE hl
  have hE2 := aK hE
  have hg := bq hE
  unfold dA
  refine I5 (fun h2 => ?_)
  refine I3 (fun h3 => ?_) (fun h3 => ?_)
  ·exact IX (IZ (wz (q0 := q0) v0 v1 (i : Int) hd hb hg h2 h3) (by intro h; cases h))
  ·exact (ih (i + 1) (cw hd v1) hE2 hl).mono fun y hy => by have r := wA (q0 := q0) v0 v1 (i : Int) hd hb hg h2 h3; rw [hw] at r; cases y <;> exact IY r hy
noncomputable def gQ (x0 : List GTask) (x1 : Int) : Option (Int) :=
  cond (decide ((IntKind.wrap .i64 (x1 - (x0.length : Int))) < (0 : Int)))
   (some ((-1 : Int)))
   (if x0.length ≤ 9223372036854775807 then (dA x0 0 (IntKind.wrap .i64 (x1 - (x0.length : Int)))).bind fun y => match y with
    | .ret w0_4 => (some (w0_4))
    | .x0 w0_1 => (some (w0_1)) else none)
theorem Co {q0 : Kd} (x0 : List GTask) (x1 : Int) : Ans (gQ x0 x1) (fun r => Does E 9 [.one (.s .far () 5 (x0.map (GTask.t q0))), .one (tI x1)] [(false, [tI r])]) := by
 unfold gQ
 refine I3 (fun h0 => ?_) (fun h0 => ?_)
 ·exact IX (IW (fn := Tryz.f9) [.val (.int .i64 (x0.length : Int)), .no, .b true] _ rfl (fun _ => rfl) (fun k => by kernel_rfl) (AC (p := ((x0.map (GTask.t q0)).length : Int) = (x0.length : Int)) ag <| AC h0 <| AN))
 ·refine I5 (fun hl2 => ?_)
  refine I4 (fun y hy => ?_)
  replace hy := AJ (q0 := q0) x0 x0 0 (IntKind.wrap .i64 (x1 - (x0.length : Int))) rfl hl2 y hy
  cases y with
  | ret w0_4 =>
   have h1 := hy
   exact IX (IW (fn := Tryz.f9) [.val (.int .i64 (x0.length : Int)), .no, .b false, .lp .ret (kA q0 w0_4)] _ rfl (fun _ => rfl) (fun k => by kernel_rfl) (AC (p := ((x0.map (GTask.t q0)).length : Int) = (x0.length : Int)) ag <| AC h0 <| AL h1 <| AN))
  | x0 w0_1 =>
   have h1 := hy
   exact IX (IW (fn := Tryz.f9) [.val (.int .i64 (x0.length : Int)), .no, .b false, .lp (.exit 0) (k9 q0 w0_1)] _ rfl (fun _ => rfl) (fun k => by kernel_rfl) (AC (p := ((x0.map (GTask.t q0)).length : Int) = (x0.length : Int)) ag <| AC h0 <| AL h1 <| AN))
noncomputable def cE (x : List GTask) (n : Int) : Int := (gQ x n).getD (-1)
theorem rx : ∀ (rest : List GTask) (i : Nat) (n : Int), (∀ y ∈ rest, Wf.wf y) → Tot (dA rest i n)
 | [], i, n, _ => Tot.some _
 | x :: rest, i, n, h => by
  have hx := h x (by simp)
  have ih := fun i n => rx rest i n fun y hy => h y (by simp [hy])
  unfold dA
  repeat' (first | exact Tot.some _ | exact ih _ _ | apply Tot.cond | refine Tot.ite (by assumption) ?_)
theorem pW (x : List GTask) (n : Int) (h : Wf.wf x) : gQ x n = some (cE x n) := by
 refine Tot.getD ?_ _
 unfold gQ
 refine Tot.cond (Tot.some _) ?_
 refine Tot.ite h.1 (Tot.bind (rx x 0 _ h.2) fun y hy => ?_)
 cases y <;> exact Tot.some _
theorem rW {q0 : Kd} (x0 : List GTask) (x1 : Int) (h : Wf.wf x0) : Does E 9 [.one (.s .far () 5 (x0.map (GTask.t q0))), .one (tI x1)] [(false, [tI (cE x0 x1)])] := by
 exact Co x0 x1 _ (pW x0 x1 h)
theorem pI : ∀ (rest : List GTask) (i : Nat) (n : Int), (∀ y ∈ rest, Wf.wf y) → 0 ≤ n → n ≤ 1048576 → ∀ y, dA rest i n = some y →
  (∃ m, y = .x0 m ∧ 0 ≤ m ∧ m ≤ n ∧ ∀ z ∈ rest, aq.sm z) ∨ ∃ m, y = .ret m ∧ m < 0
 | [], i, n, _, h0, h1, y, e => by cases e; exact .inl ⟨n, rfl, h0, Int.le_refl _, fun z hz => by cases hz⟩
 | x :: rest, i, n, h, h0, h1, y, e => by
  have hx := h x (by simp)
  unfold dA at e
  try rw [if_pos hx] at e
  by_cases q : cw x n < 0
  ·rw [decide_eq_true q, cond_true] at e
   cases e
   exact .inr ⟨_, rfl, by omega⟩
  ·rw [decide_eq_false q, cond_false] at e
   try rw [if_pos hx] at e
   obtain ⟨b, c⟩ := Cq x n hx h0 h1 (by omega)
   rcases pI rest _ _ (fun y hy => h y (by simp [hy])) (by omega) (by omega) y e with ⟨m, g1, g2, g3, g4⟩ | g
   ·refine .inl ⟨m, g1, g2, by omega, fun z hz => ?_⟩
    rcases List.mem_cons.1 hz with rfl | hz
    ·exact c
    ·exact g4 z hz
   ·exact .inr g
theorem AP (x : List GTask) (n : Int) (hw : Wf.wf x) (h0 : 0 ≤ n) (h1 : n ≤ 1048576) (h : 0 ≤ cE x n) : cE x n ≤ n ∧ aq.sm x := by
 have e := pW x n hw
 generalize cE x n = r at *
 unfold gQ at e
 obtain ⟨a1, e⟩ := lQ e h
 obtain ⟨b1, c1⟩ := pv (n := n) (k := x.length) h0 h1 hw.1 a1
 rw [if_pos hw.1, Option.bind_eq_some_iff] at e
 obtain ⟨y, e1, e2⟩ := e
 rcases pI x 0 _ hw.2 a1 (by omega) y e1 with ⟨m, rfl, g2, g3, g4⟩ | ⟨m, rfl, g⟩
 ·cases e2; exact ⟨by omega, jU c1, g4⟩
 ·cases e2; omega
noncomputable def ka (x0 : LDag) (x1 : Int) : Option (Int) :=
  cond (decide ((IntKind.wrap .i64 (x1 - (x0.f0.size : Int))) < (0 : Int)))
   (some ((-1 : Int)))
   (cond (decide ((IntKind.wrap .i64 ((IntKind.wrap .i64 (x1 - (x0.f0.size : Int))) - (x0.f1.size : Int))) < (0 : Int)))
    (some ((-1 : Int)))
    (if Wf.wf x0.f5 then cond (decide ((cE x0.f5 (IntKind.wrap .i64 ((IntKind.wrap .i64 (x1 - (x0.f0.size : Int))) - (x0.f1.size : Int)))) < (0 : Int)))
     (some ((-1 : Int)))
     (some (cE x0.f5 (IntKind.wrap .i64 ((IntKind.wrap .i64 (x1 - (x0.f0.size : Int))) - (x0.f1.size : Int))))) else none))
theorem E6 {q0 : Kd} (x0 : LDag) (x1 : Int) : Ans (ka x0 x1) (fun r => Does E 4 [.agg (LDag.t .far q0 x0), .one (tI x1)] [(false, [tI r])]) := by
 unfold ka
 refine I3 (fun h0 => ?_) (fun h0 => ?_)
 ·exact IX (IW (fn := Tryz.f4) [.no, .b true] _ rfl (fun _ => rfl) (fun k => by kernel_rfl) (AC h0 <| AN))
 ·refine I3 (fun h1 => ?_) (fun h1 => ?_)
  ·exact IX (IW (fn := Tryz.f4) [.no, .b false, .no, .b true] _ rfl (fun _ => rfl) (fun k => by kernel_rfl) (AC h0 <| AC h1 <| AN))
  ·refine I5 (fun h2 => ?_)
   refine I3 (fun h3 => ?_) (fun h3 => ?_)
   ·exact IX (IW (fn := Tryz.f4) [.no, .b false, .no, .b false, .ret [(false, [tI (cE x0.f5 (IntKind.wrap .i64 ((IntKind.wrap .i64 (x1 - (x0.f0.size : Int))) - (x0.f1.size : Int))))])], .b true] _ rfl (fun _ => rfl) (fun k => by kernel_rfl) (AC h0 <| AC h1 <| AV (ψ := fun k => E.C k 9 [.one (.s .far () 5 (x0.f5.map (GTask.t q0))), .one (tI (IntKind.wrap .i64 ((IntKind.wrap .i64 (x1 - (x0.f0.size : Int))) - (x0.f1.size : Int))))] = some [(false, [tI (cE x0.f5 (IntKind.wrap .i64 ((IntKind.wrap .i64 (x1 - (x0.f0.size : Int))) - (x0.f1.size : Int))))])]) (rW x0.f5 (IntKind.wrap .i64 ((IntKind.wrap .i64 (x1 - (x0.f0.size : Int))) - (x0.f1.size : Int))) h2) <| AC h3 <| AN))
   ·exact IX (IW (fn := Tryz.f4) [.no, .b false, .no, .b false, .ret [(false, [tI (cE x0.f5 (IntKind.wrap .i64 ((IntKind.wrap .i64 (x1 - (x0.f0.size : Int))) - (x0.f1.size : Int))))])], .b false] _ rfl (fun _ => rfl) (fun k => by kernel_rfl) (AC h0 <| AC h1 <| AV (ψ := fun k => E.C k 9 [.one (.s .far () 5 (x0.f5.map (GTask.t q0))), .one (tI (IntKind.wrap .i64 ((IntKind.wrap .i64 (x1 - (x0.f0.size : Int))) - (x0.f1.size : Int))))] = some [(false, [tI (cE x0.f5 (IntKind.wrap .i64 ((IntKind.wrap .i64 (x1 - (x0.f0.size : Int))) - (x0.f1.size : Int))))])]) (rW x0.f5 (IntKind.wrap .i64 ((IntKind.wrap .i64 (x1 - (x0.f0.size : Int))) - (x0.f1.size : Int))) h2) <| AC h3 <| AN))
noncomputable def cR (x : LDag) (n : Int) : Int := (ka x n).getD (-1)
theorem sN (x : LDag) (n : Int) (h : Wf.wf x) : ka x n = some (cR x n) := by
 obtain ⟨w0, w1, w5⟩ := h
 refine Tot.getD ?_ _
 unfold ka
 repeat' (first | exact Tot.some _ | apply Tot.cond | refine Tot.ite (by assumption) ?_)
theorem na {q0 : Kd} (x0 : LDag) (x1 : Int) (h : Wf.wf x0) : Does E 4 [.agg (LDag.t .far q0 x0), .one (tI x1)] [(false, [tI (cR x0 x1)])] := by
 exact E6 x0 x1 _ (sN x0 x1 h)
theorem DZ (x : LDag) (n : Int) (hw : Wf.wf x) (h0 : 0 ≤ n) (h1 : n ≤ 1048576) (h : 0 ≤ cR x n) : cR x n ≤ n ∧ aq.sm x := by
 have e := sN x n hw
 obtain ⟨w0, w1, w5⟩ := hw
 generalize cR x n = r at *
 unfold ka at e
 obtain ⟨a1, e⟩ := lQ e h
 obtain ⟨b1, c1⟩ := pv (n := n) (k := x.f0.size) h0 (by omega) w0 a1
 generalize IntKind.wrap .i64 (n - (x.f0.size : Int)) = m1 at *
 obtain ⟨a2, e⟩ := lQ e h
 obtain ⟨b2, c2⟩ := pv (n := m1) (k := x.f1.size) a1 (by omega) w1 a2
 generalize IntKind.wrap .i64 (m1 - (x.f1.size : Int)) = m2 at *
 try rw [if_pos w5] at e
 obtain ⟨a3, e⟩ := lQ e h
 try rw [if_pos w5] at e
 obtain ⟨b3, c3⟩ := AP x.f5 m2 w5 a2 (by omega) a3
 generalize cE x.f5 m2 = m3 at *
 cases e
 exact ⟨by omega, ⟨jU c1, jU c2, c3⟩⟩
inductive ou where
 | x0 (v3 : List ByteArray)
def iY (v0 v3 : List ByteArray) (v4 : Int) : US := stL 22 [(0, .one (.s .far () 1 (v0.map etS))), (3, .one (.s .own () 1 (v3.map etS))), (4, .one (tI v4))]
def jR (zv3 : List ByteArray) : US := stL 22 [(3, .one (.s .own () 1 (zv3.map etS)))]
abbrev ot : US → Exit → US → Prop := Round E 47 (aB Tryz.f47 0)
def wD (v0 v3 : List ByteArray) (v4 : Int) : ou → Prop
 | .x0 zv3 => Loops E 47 (aB Tryz.f47 0) (iY v0 v3 v4) (.exit 0) (jR zv3)
theorem tA (v0 v3 : List ByteArray) (v4 : Int) (g0 g1 : ByteArray) (h0 : (decide (v4 < (v0.length : Int))) = true) (h1 : am v0 v4 = some g0) (h2 : am v3 v4 = some g1) : ot (iY v0 v3 v4) .normal (iY v0 (v3.set v4.toNat g0) (inc v4)) :=
 IV [.val (.int .i64 (v0.length : Int)), .b true, .row (etS g0), .row (etS g1), .rows ((v3.set v4.toNat g0).map etS)] _ (fun k => by kernel_rfl) (AC (p := ((v0.map etS).length : Int) = (v0.length : Int)) ag <| AC h0 <| AC (p := 0 ≤ v4 ∧ (v0.map etS)[v4.toNat]? = some (etS g0)) (az h1) <| AC (p := 0 ≤ v4 ∧ v4 < ((v3.map etS).length : Int)) (aF h2) <| AC (p := (v3.map etS)[0 + v4.toNat]? = some (etS g1)) (au h2) <| AC (p := (v3.map etS).set (0 + v4.toNat) (ax (etS g1) 0 [tS g0]) = (v3.set v4.toNat g0).map etS) (fX (by rfl)) <| AN)
theorem tC (v0 v3 : List ByteArray) (v4 : Int) (h0 : (decide (v4 < (v0.length : Int))) = false) : ot (iY v0 v3 v4) (.exit 0) (jR v3) :=
 IV [.val (.int .i64 (v0.length : Int)), .b false] _ (fun k => by kernel_rfl) (AC (p := ((v0.map etS).length : Int) = (v0.length : Int)) ag <| AC h0 <| AN)
noncomputable def dm  : List ByteArray → Nat → (List ByteArray) → Option ou
 | [], i, v3 => some (.x0 v3)
 | hd :: rest, i, v3 => (am v3 (i : Int)).bind fun g1 => dm rest (i + 1) (v3.set (i : Int).toNat hd)
theorem wC (v0 : List ByteArray) (rest : List ByteArray) : ∀ (i : Nat) (v3 : List ByteArray), (v0).drop i = rest → v0.length ≤ 9223372036854775807 → Ans (dm rest i v3) (wD v0 v3 (i : Int)) := by
 induction rest with
 | nil =>
  intro i v3 hE hl
  have hb := bH hE
  unfold dm
  exact IX (IZ (tC v0 v3 (i : Int) hb) (by intro h; cases h))
 | cons hd rest ih =>
  intro i v3 hE hl
  have hb := bh hE
  have hw := bi hE hl
  have hE2 := aK hE
  have hg := bq hE
  unfold dm
  refine I4 (fun g1 h2 => ?_)
  exact (ih (i + 1) (v3.set (i : Int).toNat hd) hE2 hl).mono fun y hy => by have r := tA v0 v3 (i : Int) hd g1 hb hg h2; rw [hw] at r; cases y <;> exact IY r hy
noncomputable def l3 (x0 : List ByteArray) : Option ((List ByteArray)) :=
  if 0 ≤ (x0.length : Int) ∧ (x0.length : Int) ≤ (x0.length : Int) ∧ ((16 : Nat) : Int) * (x0.length : Int) ≤ 281474976710656 ∧ (x0.length : Int) ≤ 4611686018427387904 then if x0.length ≤ 9223372036854775807 then (dm x0 0 (List.replicate (x0.length : Int).toNat ByteArray.empty)).bind fun y => match y with
   | .x0 w0_3 => (some (w0_3)) else none else none
theorem yM (x0 : List ByteArray) : Ans (l3 x0) (fun r => Does E 47 [.one (.s .far () 1 (x0.map etS))] [(false, [.s .own () 1 (r.map etS)])]) := by
 unfold l3
 refine I5 (fun h0 => ?_)
 refine I5 (fun hl1 => ?_)
 refine I4 (fun y hy => ?_)
 replace hy := wC x0 x0 0 (List.replicate (x0.length : Int).toNat ByteArray.empty) rfl hl1 y hy
 cases y with
 | x0 w0_3 =>
  have h1 := hy
  exact IX (IW (fn := Tryz.f47) [.val (.int .i64 (x0.length : Int)), .rows ((List.replicate (x0.length : Int).toNat ByteArray.empty).map etS), .lp (.exit 0) (jR w0_3)] _ rfl (fun _ => rfl) (fun k => by kernel_rfl) (AC (p := ((x0.map etS).length : Int) = (x0.length : Int)) ag <| AC h0 <| AC (p := List.replicate (x0.length : Int).toNat [tS ByteArray.empty] = (List.replicate (x0.length : Int).toNat ByteArray.empty).map etS) (oz rfl) <| AL h1 <| AN))
def jC (l : List ByteArray) : List ByteArray := l
theorem nY : ∀ (rest : List ByteArray) (i : Nat) (v : List ByteArray), (∀ y ∈ rest, aq.sm y) → v.length = i + rest.length → dm rest i v = some (.x0 (v.take i ++ rest))
 | [], i, v, _, hv => by unfold dm; rw [List.take_of_length_le (by simp at hv; omega)]; simp
 | x :: rest, i, v, h, hv => by
  have hx := h x (by simp)
  have hi : i < v.length := by simp at hv; omega
  unfold dm
  rw [fD, List.getElem?_eq_getElem hi, Option.bind_some]
  try rw [if_pos hx]
  rw [Int.toNat_natCast, nY rest (i + 1) _ (fun y hy => h y (by simp [hy])) (by simp at hv ⊢; omega), C8 hi]
  simp
theorem xY (x0 : List ByteArray) (h : aq.sm x0) : Does E 47 [.one (.s .far () 1 (x0.map etS))] [(false, [.s .own () 1 ((jC x0).map etS)])] := by
 exact yM x0 _ (by
  unfold l3
  rw [if_pos (Fa 16 (by decide) h.1 rfl), if_pos (ny h), nY x0 0 _ h.2 (by simp)]
  simp [jC])
noncomputable def pc (x0 : GTask) : Option (GTask) :=
  if aq.sm x0.f4 then some ((GTask.mk x0.f0 x0.f1 x0.f2 x0.f3 (jC x0.f4))) else none
theorem DY (x0 : GTask) : Ans (pc x0) (fun r => Does E 32 [.agg (GTask.t .far x0)] [(true, GTask.t .own r)]) := by
 unfold pc
 refine I5 (fun h0 => ?_)
 exact IX (IW (fn := Tryz.f32) [.ret [(false, [.s .own () 1 ((jC x0.f4).map etS)])]] _ rfl (fun _ => rfl) (fun k => by kernel_rfl) (AD (xY x0.f4 h0) <| AN))
def cI (x : GTask) : GTask := x
theorem Df (x0 : GTask) (h : aq.sm x0) : Does E 32 [.agg (GTask.t .far x0)] [(true, GTask.t .own (cI x0))] := by
 obtain ⟨w0, w1, w4⟩ := h
 exact DY x0 _ (by
  unfold pc
  repeat rw [if_pos (by assumption)]
  rfl)
inductive qY where
 | x0 (v3 : List GTask)
def kB (q0 : Kd) (v0 v3 : List GTask) (v4 : Int) : US := stL 23 [(0, .one (.s .far () 5 (v0.map (GTask.t q0)))), (3, .one (.s .own () 5 (v3.map (GTask.t .own)))), (4, .one (tI v4))]
def la (q0 : Kd) (zv3 : List GTask) : US := stL 23 [(3, .one (.s .own () 5 (zv3.map (GTask.t .own))))]
abbrev qX : US → Exit → US → Prop := Round E 16 (aB Tryz.f16 0)
def AO {q0 : Kd} (v0 v3 : List GTask) (v4 : Int) : qY → Prop
 | .x0 zv3 => Loops E 16 (aB Tryz.f16 0) (kB q0 v0 v3 v4) (.exit 0) (la q0 zv3)
theorem wE {q0 : Kd} (v0 v3 : List GTask) (v4 : Int) (g0 g1 : GTask) (h0 : (decide (v4 < (v0.length : Int))) = true) (h1 : am v0 v4 = some g0) (h2 : aq.sm g0) (h3 : am v3 v4 = some g1) : qX (kB q0 v0 v3 v4) .normal (kB q0 v0 (v3.set v4.toNat (cI g0)) (inc v4)) :=
 IV [.val (.int .i64 (v0.length : Int)), .b true, .row ((GTask.t q0) g0), .ret [(true, GTask.t .own (cI g0))], .row ((GTask.t .own) g1), .rows ((v3.set v4.toNat (cI g0)).map (GTask.t .own))] _ (fun k => by kernel_rfl) (AC (p := ((v0.map (GTask.t q0)).length : Int) = (v0.length : Int)) ag <| AC h0 <| AC (p := 0 ≤ v4 ∧ (v0.map (GTask.t q0))[v4.toNat]? = some ((GTask.t q0) g0)) (az h1) <| AD (Df g0 h2) <| AC (p := 0 ≤ v4 ∧ v4 < ((v3.map (GTask.t .own)).length : Int)) (aF h3) <| AC (p := (v3.map (GTask.t .own))[0 + v4.toNat]? = some ((GTask.t .own) g1)) (au h3) <| AC (p := (v3.map (GTask.t .own)).set (0 + v4.toNat) (ax ((GTask.t .own) g1) 0 [tS ((cI g0).f0), tS ((cI g0).f1), tI ((cI g0).f2), tB ((cI g0).f3), .s .own () 1 (((cI g0).f4).map etS)]) = (v3.set v4.toNat (cI g0)).map (GTask.t .own)) (fX (by rfl)) <| AN)
theorem wF {q0 : Kd} (v0 v3 : List GTask) (v4 : Int) (h0 : (decide (v4 < (v0.length : Int))) = false) : qX (kB q0 v0 v3 v4) (.exit 0) (la q0 v3) :=
 IV [.val (.int .i64 (v0.length : Int)), .b false] _ (fun k => by kernel_rfl) (AC (p := ((v0.map (GTask.t q0)).length : Int) = (v0.length : Int)) ag <| AC h0 <| AN)
noncomputable def dX  : List GTask → Nat → (List GTask) → Option qY
 | [], i, v3 => some (.x0 v3)
 | hd :: rest, i, v3 => if aq.sm hd then (am v3 (i : Int)).bind fun g1 => dX rest (i + 1) (v3.set (i : Int).toNat (cI hd)) else none
theorem AM {q0 : Kd} (v0 : List GTask) (rest : List GTask) : ∀ (i : Nat) (v3 : List GTask), (v0).drop i = rest → v0.length ≤ 9223372036854775807 → Ans (dX rest i v3) (AO (q0 := q0) v0 v3 (i : Int)) := by
 induction rest with
 | nil =>
  intro i v3 hE hl
  have hb := bH hE
  unfold dX
  exact IX (IZ (wF (q0 := q0) v0 v3 (i : Int) hb) (by intro h; cases h))
 | cons hd rest ih =>
  intro i v3 hE hl
  have hb := bh hE
  have hw := bi hE hl
  have hE2 := aK hE
  have hg := bq hE
  unfold dX
  refine I5 (fun h2 => ?_)
  refine I4 (fun g1 h3 => ?_)
  exact (ih (i + 1) (v3.set (i : Int).toNat (cI hd)) hE2 hl).mono fun y hy => by have r := wE (q0 := q0) v0 v3 (i : Int) hd g1 hb hg h2 h3; rw [hw] at r; cases y <;> exact IY r hy
noncomputable def nM (x0 : List GTask) : Option ((List GTask)) :=
  if 0 ≤ (x0.length : Int) ∧ (x0.length : Int) ≤ (x0.length : Int) ∧ ((72 : Nat) : Int) * (x0.length : Int) ≤ 281474976710656 ∧ (x0.length : Int) ≤ 4611686018427387904 then if x0.length ≤ 9223372036854775807 then (dX x0 0 (List.replicate (x0.length : Int).toNat (GTask.mk ByteArray.empty ByteArray.empty (0 : Int) false ([] : List ByteArray)))).bind fun y => match y with
   | .x0 w0_3 => (some (w0_3)) else none else none
theorem Cp {q0 : Kd} (x0 : List GTask) : Ans (nM x0) (fun r => Does E 16 [.one (.s .far () 5 (x0.map (GTask.t q0)))] [(false, [.s .own () 5 (r.map (GTask.t .own))])]) := by
 unfold nM
 refine I5 (fun h0 => ?_)
 refine I5 (fun hl1 => ?_)
 refine I4 (fun y hy => ?_)
 replace hy := AM (q0 := q0) x0 x0 0 (List.replicate (x0.length : Int).toNat (GTask.mk ByteArray.empty ByteArray.empty (0 : Int) false ([] : List ByteArray))) rfl hl1 y hy
 cases y with
 | x0 w0_3 =>
  have h1 := hy
  exact IX (IW (fn := Tryz.f16) [.val (.int .i64 (x0.length : Int)), .rows ((List.replicate (x0.length : Int).toNat (GTask.mk ByteArray.empty ByteArray.empty (0 : Int) false ([] : List ByteArray))).map (GTask.t .own)), .lp (.exit 0) (la q0 w0_3)] _ rfl (fun _ => rfl) (fun k => by kernel_rfl) (AC (p := ((x0.map (GTask.t q0)).length : Int) = (x0.length : Int)) ag <| AC h0 <| AC (p := List.replicate (x0.length : Int).toNat [tS ByteArray.empty, tS ByteArray.empty, tI (0 : Int), tB false, .s .own () 1 (([] : List ByteArray).map etS)] = (List.replicate (x0.length : Int).toNat (GTask.mk ByteArray.empty ByteArray.empty (0 : Int) false ([] : List ByteArray))).map (GTask.t .own)) (oz rfl) <| AL h1 <| AN))
def gS (l : List GTask) : List GTask := l
theorem qi : ∀ (rest : List GTask) (i : Nat) (v : List GTask), (∀ y ∈ rest, aq.sm y) → v.length = i + rest.length → dX rest i v = some (.x0 (v.take i ++ rest))
 | [], i, v, _, hv => by unfold dX; rw [List.take_of_length_le (by simp at hv; omega)]; simp
 | x :: rest, i, v, h, hv => by
  have hx := h x (by simp)
  have hi : i < v.length := by simp at hv; omega
  unfold dX
  rw [fD, List.getElem?_eq_getElem hi, Option.bind_some]
  try rw [if_pos hx]
  rw [Int.toNat_natCast, qi rest (i + 1) _ (fun y hy => h y (by simp [hy])) (by simp at hv ⊢; omega), C8 hi]
  simp [cI]
theorem BR {q0 : Kd} (x0 : List GTask) (h : aq.sm x0) : Does E 16 [.one (.s .far () 5 (x0.map (GTask.t q0)))] [(false, [.s .own () 5 ((gS x0).map (GTask.t .own))])] := by
 exact Cp x0 _ (by
  unfold nM
  rw [if_pos (Fa 72 (by decide) h.1 rfl), if_pos (ny h), qi x0 0 _ h.2 (by simp)]
  simp [gS])
noncomputable def qW (x0 : LDag) : Option (GDag) :=
  if aq.sm x0.f5 then some ((GDag.mk x0.f0 x0.f1 x0.f2 x0.f3 x0.f4 (gS x0.f5))) else none
theorem E7 {q0 : Kd} (x0 : LDag) : Ans (qW x0) (fun r => Does E 6 [.agg (LDag.t .far q0 x0)] [(true, GDag.t .own .own r)]) := by
 unfold qW
 refine I5 (fun h0 => ?_)
 exact IX (IW (fn := Tryz.f6) [.ret [(false, [.s .own () 5 ((gS x0.f5).map (GTask.t .own))])]] _ rfl (fun _ => rfl) (fun k => by kernel_rfl) (AV (ψ := fun k => E.C k 16 [.one (.s .far () 5 (x0.f5.map (GTask.t q0)))] = some [(false, [.s .own () 5 ((gS x0.f5).map (GTask.t .own))])]) (BR x0.f5 h0) <| AN))
def ay (x : LDag) : GDag := ⟨x.f0, x.f1, x.f2, x.f3, x.f4, gS x.f5⟩
theorem Em {x : LDag} (h : aq.sm x) : aq.sm (ay x) := by
 obtain ⟨w0, w1, w5⟩ := h
 exact ⟨w0, w1, w5⟩
theorem gd {q0 : Kd} (x0 : LDag) (h : aq.sm x0) : Does E 6 [.agg (LDag.t .far q0 x0)] [(true, GDag.t .own .own (ay x0))] := by
 obtain ⟨w0, w1, w5⟩ := h
 exact E7 x0 _ (by
  unfold qW
  repeat rw [if_pos (by assumption)]
  rfl)
inductive oo where
 | ret (v4 : Bool)
 | x0 
def eL (v0 v1 : List ByteArray) (v5 : Int) : US := stL 26 [(0, .one (.s .far () 1 (v0.map etS))), (1, .one (.s .far () 1 (v1.map etS))), (5, .one (tI v5))]
def jk (zv4 : Bool) : US := stL 26 [(4, .one (tB zv4))]
def jP  : US := stL 26 []
abbrev k6 : US → Exit → US → Prop := Round E 56 (aB Tryz.f56 0)
def wt (v0 v1 : List ByteArray) (v5 : Int) : oo → Prop
 | .ret zv4 => Loops E 56 (aB Tryz.f56 0) (eL v0 v1 v5) .ret (jk zv4)
 | .x0 => Loops E 56 (aB Tryz.f56 0) (eL v0 v1 v5) (.exit 0) (jP)
theorem tr (v0 v1 : List ByteArray) (v5 : Int) (g0 g1 : ByteArray) (h0 : (decide (v5 < (v0.length : Int))) = true) (h1 : am v0 v5 = some g0) (h2 : am v1 v5 = some g1) (h3 : (!(g0.toList == g1.toList)) = true) : k6 (eL v0 v1 v5) .ret (jk false) :=
 IV [.val (.int .i64 (v0.length : Int)), .b true, .row (etS g0), .row (etS g1), .b true] _ (fun k => by kernel_rfl) (AC (p := ((v0.map etS).length : Int) = (v0.length : Int)) ag <| AC h0 <| AC (p := 0 ≤ v5 ∧ (v0.map etS)[v5.toNat]? = some (etS g0)) (az h1) <| AC (p := 0 ≤ v5 ∧ (v1.map etS)[v5.toNat]? = some (etS g1)) (az h2) <| AC h3 <| AN)
theorem tt (v0 v1 : List ByteArray) (v5 : Int) (g0 g1 : ByteArray) (h0 : (decide (v5 < (v0.length : Int))) = true) (h1 : am v0 v5 = some g0) (h2 : am v1 v5 = some g1) (h3 : (!(g0.toList == g1.toList)) = false) : k6 (eL v0 v1 v5) .normal (eL v0 v1 (inc v5)) :=
 IV [.val (.int .i64 (v0.length : Int)), .b true, .row (etS g0), .row (etS g1), .b false] _ (fun k => by kernel_rfl) (AC (p := ((v0.map etS).length : Int) = (v0.length : Int)) ag <| AC h0 <| AC (p := 0 ≤ v5 ∧ (v0.map etS)[v5.toNat]? = some (etS g0)) (az h1) <| AC (p := 0 ≤ v5 ∧ (v1.map etS)[v5.toNat]? = some (etS g1)) (az h2) <| AC h3 <| AN)
theorem tu (v0 v1 : List ByteArray) (v5 : Int) (h0 : (decide (v5 < (v0.length : Int))) = false) : k6 (eL v0 v1 v5) (.exit 0) (jP) :=
 IV [.val (.int .i64 (v0.length : Int)), .b false] _ (fun k => by kernel_rfl) (AC (p := ((v0.map etS).length : Int) = (v0.length : Int)) ag <| AC h0 <| AN)
noncomputable def dM (v1 : List ByteArray) : List ByteArray → Nat → Option oo
 | [], i => some (.x0)
 | hd :: rest, i => (am v1 (i : Int)).bind fun g1 => cond (!(hd.toList == g1.toList))
  (some (.ret false))
  (dM v1 rest (i + 1))
theorem wr (v0 v1 : List ByteArray) (rest : List ByteArray) : ∀ (i : Nat) , (v0).drop i = rest → v0.length ≤ 9223372036854775807 → Ans (dM v1 rest i) (wt v0 v1 (i : Int)) := by
 induction rest with
 | nil =>
  intro i hE hl
  have hb := bH hE
  unfold dM
  exact IX (IZ (tu v0 v1 (i : Int) hb) (by intro h; cases h))
 | cons hd rest ih =>
  intro i hE hl
  have hb := bh hE
  have hw := bi hE hl
  have hE2 := aK hE
  have hg := bq hE
  unfold dM
  refine I4 (fun g1 h2 => ?_)
  refine I3 (fun h3 => ?_) (fun h3 => ?_)
  ·exact IX (IZ (tr v0 v1 (i : Int) hd g1 hb hg h2 h3) (by intro h; cases h))
  ·exact (ih (i + 1) hE2 hl).mono fun y hy => by have r := tt v0 v1 (i : Int) hd g1 hb hg h2 h3; rw [hw] at r; cases y <;> exact IY r hy
noncomputable def lZ (x0 x1 : List ByteArray) : Option (Bool) :=
  cond ((x0.length : Int) != (x1.length : Int))
   (some (false))
   (if x0.length ≤ 9223372036854775807 then (dM x1 x0 0).bind fun y => match y with
    | .ret w0_4 => (some (w0_4))
    | .x0 => (some (true)) else none)
theorem yK (x0 x1 : List ByteArray) : Ans (lZ x0 x1) (fun r => Does E 56 [.one (.s .far () 1 (x0.map etS)), .one (.s .far () 1 (x1.map etS))] [(false, [tB r])]) := by
 unfold lZ
 refine I3 (fun h0 => ?_) (fun h0 => ?_)
 ·exact IX (IW (fn := Tryz.f56) [.val (.int .i64 (x0.length : Int)), .val (.int .i64 (x1.length : Int)), .b true] _ rfl (fun _ => rfl) (fun k => by kernel_rfl) (AC (p := ((x0.map etS).length : Int) = (x0.length : Int)) ag <| AC (p := ((x1.map etS).length : Int) = (x1.length : Int)) ag <| AC h0 <| AN))
 ·refine I5 (fun hl2 => ?_)
  refine I4 (fun y hy => ?_)
  replace hy := wr x0 x1 x0 0 rfl hl2 y hy
  cases y with
  | ret w0_4 =>
   have h1 := hy
   exact IX (IW (fn := Tryz.f56) [.val (.int .i64 (x0.length : Int)), .val (.int .i64 (x1.length : Int)), .b false, .lp .ret (jk w0_4)] _ rfl (fun _ => rfl) (fun k => by kernel_rfl) (AC (p := ((x0.map etS).length : Int) = (x0.length : Int)) ag <| AC (p := ((x1.map etS).length : Int) = (x1.length : Int)) ag <| AC h0 <| AL h1 <| AN))
  | x0 =>
   have h1 := hy
   exact IX (IW (fn := Tryz.f56) [.val (.int .i64 (x0.length : Int)), .val (.int .i64 (x1.length : Int)), .b false, .lp (.exit 0) (jP)] _ rfl (fun _ => rfl) (fun k => by kernel_rfl) (AC (p := ((x0.map etS).length : Int) = (x0.length : Int)) ag <| AC (p := ((x1.map etS).length : Int) = (x1.length : Int)) ag <| AC h0 <| AL h1 <| AN))
theorem oa (l : List ByteArray) : ∀ (rest : List ByteArray) (i : Nat), l.drop i = rest → (∀ y ∈ rest, aq.sm y) → dM l rest i = some .x0
 | [], i, _, _ => rfl
 | x :: rest, i, hE, h => by
  have hx := h x (by simp)
  unfold dM
  rw [bq hE, Option.bind_some]
  simp only [hx, if_true, yes, bne_self_eq_false, BEq.rfl, Bool.not_true, cond_false, cond_true]
  exact oa l rest (i + 1) (aK hE) (fun y hy => h y (by simp [hy]))
theorem pz (x0 : List ByteArray) (x1 : List ByteArray) (e : x0 = x1) (h : aq.sm x0) : Does E 56 [.one (.s .far () 1 (x0.map etS)), .one (.s .far () 1 (x1.map etS))] [(false, [tB (yes x0 x1)])] := by
 subst e
 exact yK x0 x0 _ (by
  unfold lZ
  rw [if_pos (ny h), oa x0 x0 0 rfl h.2]
  simp [yes])
noncomputable def pa (x0 x1 : GTask) : Option (Bool) :=
  cond (!(x0.f0.toList == x1.f0.toList))
   (some (false))
   (cond (!(x0.f1.toList == x1.f1.toList))
    (some (false))
    (cond (x0.f2 != x1.f2)
     (some (false))
     (cond (!(x0.f3 == x1.f3))
      (some (false))
      (if x0.f4 = x1.f4 then if aq.sm x0.f4 then cond (yes x0.f4 x1.f4)
       (some (true))
       (some (false)) else none else none))))
theorem DW (x0 x1 : GTask) : Ans (pa x0 x1) (fun r => Does E 41 [.agg (GTask.t .far x0), .agg (GTask.t .far x1)] [(false, [tB r])]) := by
 unfold pa
 refine I3 (fun h0 => ?_) (fun h0 => ?_)
 ·exact IX (IW (fn := Tryz.f41) [.b true] _ rfl (fun _ => rfl) (fun k => by kernel_rfl) (AC h0 <| AN))
 ·refine I3 (fun h1 => ?_) (fun h1 => ?_)
  ·exact IX (IW (fn := Tryz.f41) [.b false, .b true] _ rfl (fun _ => rfl) (fun k => by kernel_rfl) (AC h0 <| AC h1 <| AN))
  ·refine I3 (fun h2 => ?_) (fun h2 => ?_)
   ·exact IX (IW (fn := Tryz.f41) [.b false, .b false, .b true] _ rfl (fun _ => rfl) (fun k => by kernel_rfl) (AC h0 <| AC h1 <| AC h2 <| AN))
   ·refine I3 (fun h3 => ?_) (fun h3 => ?_)
    ·exact IX (IW (fn := Tryz.f41) [.b false, .b false, .b false, .b true] _ rfl (fun _ => rfl) (fun k => by kernel_rfl) (AC h0 <| AC h1 <| AC h2 <| AC h3 <| AN))
    ·refine I5 (fun h4 => ?_)
     refine I5 (fun h5 => ?_)
     refine I3 (fun h6 => ?_) (fun h6 => ?_)
     ·exact IX (IW (fn := Tryz.f41) [.b false, .b false, .b false, .b false, rT] _ rfl (fun _ => rfl) (fun k => by kernel_rfl) (AC h0 <| AC h1 <| AC h2 <| AC h3 <| AD (I8 (pz x0.f4 x1.f4 h4 h5) h6) <| AN))
     ·exact IX (IW (fn := Tryz.f41) [.b false, .b false, .b false, .b false, rF] _ rfl (fun _ => rfl) (fun k => by kernel_rfl) (AC h0 <| AC h1 <| AC h2 <| AC h3 <| AD (I8 (pz x0.f4 x1.f4 h4 h5) h6) <| AN))
theorem t6 (x0 : GTask) (x1 : GTask) (e : x0 = x1) (h : aq.sm x0) : Does E 41 [.agg (GTask.t .far x0), .agg (GTask.t .far x1)] [(false, [tB (yes x0 x1)])] := by
 subst e
 obtain ⟨w0, w1, w4⟩ := h
 exact DW x0 x0 _ (by
  unfold pa
  simp only [w4, if_true, yes, bne_self_eq_false, BEq.rfl, Bool.not_true, cond_false, cond_true])
inductive qU where
 | ret (v4 : Bool)
 | x0 
def fP (q0 : Kd) (q1 : Kd) (v0 v1 : List GTask) (v5 : Int) : US := stL 27 [(0, .one (.s .far () 5 (v0.map (GTask.t q0)))), (1, .one (.s .far () 5 (v1.map (GTask.t q1)))), (5, .one (tI v5))]
def kz (q0 : Kd) (q1 : Kd) (zv4 : Bool) : US := stL 27 [(4, .one (tB zv4))]
def k7 (q0 : Kd) (q1 : Kd)  : US := stL 27 []
abbrev mP : US → Exit → US → Prop := Round E 23 (aB Tryz.f23 0)
def AI {q0 : Kd} {q1 : Kd} (v0 v1 : List GTask) (v5 : Int) : qU → Prop
 | .ret zv4 => Loops E 23 (aB Tryz.f23 0) (fP q0 q1 v0 v1 v5) .ret (kz q0 q1 zv4)
 | .x0 => Loops E 23 (aB Tryz.f23 0) (fP q0 q1 v0 v1 v5) (.exit 0) (k7 q0 q1)
theorem wu {q0 : Kd} {q1 : Kd} (v0 v1 : List GTask) (v5 : Int) (g0 g1 : GTask) (h0 : (decide (v5 < (v0.length : Int))) = true) (h1 : am v0 v5 = some g0) (h2 : am v1 v5 = some g1) (h3 : g0 = g1) (h4 : aq.sm g0) (h5 : (yes g0 g1) = true) : mP (fP q0 q1 v0 v1 v5) .normal (fP q0 q1 v0 v1 (inc v5)) :=
 IV [.val (.int .i64 (v0.length : Int)), .b true, .row ((GTask.t q0) g0), .row ((GTask.t q1) g1), rT] _ (fun k => by kernel_rfl) (AC (p := ((v0.map (GTask.t q0)).length : Int) = (v0.length : Int)) ag <| AC h0 <| AC (p := 0 ≤ v5 ∧ (v0.map (GTask.t q0))[v5.toNat]? = some ((GTask.t q0) g0)) (az h1) <| AC (p := 0 ≤ v5 ∧ (v1.map (GTask.t q1))[v5.toNat]? = some ((GTask.t q1) g1)) (az h2) <| AD (I8 (t6 g0 g1 h3 h4) h5) <| AN)
theorem wv {q0 : Kd} {q1 : Kd} (v0 v1 : List GTask) (v5 : Int) (g0 g1 : GTask) (h0 : (decide (v5 < (v0.length : Int))) = true) (h1 : am v0 v5 = some g0) (h2 : am v1 v5 = some g1) (h3 : g0 = g1) (h4 : aq.sm g0) (h5 : (yes g0 g1) = false) : mP (fP q0 q1 v0 v1 v5) .ret (kz q0 q1 false) :=
 IV [.val (.int .i64 (v0.length : Int)), .b true, .row ((GTask.t q0) g0), .row ((GTask.t q1) g1), rF] _ (fun k => by kernel_rfl) (AC (p := ((v0.map (GTask.t q0)).length : Int) = (v0.length : Int)) ag <| AC h0 <| AC (p := 0 ≤ v5 ∧ (v0.map (GTask.t q0))[v5.toNat]? = some ((GTask.t q0) g0)) (az h1) <| AC (p := 0 ≤ v5 ∧ (v1.map (GTask.t q1))[v5.toNat]? = some ((GTask.t q1) g1)) (az h2) <| AD (I8 (t6 g0 g1 h3 h4) h5) <| AN)
theorem ww {q0 : Kd} {q1 : Kd} (v0 v1 : List GTask) (v5 : Int) (h0 : (decide (v5 < (v0.length : Int))) = false) : mP (fP q0 q1 v0 v1 v5) (.exit 0) (k7 q0 q1) :=
 IV [.val (.int .i64 (v0.length : Int)), .b false] _ (fun k => by kernel_rfl) (AC (p := ((v0.map (GTask.t q0)).length : Int) = (v0.length : Int)) ag <| AC h0 <| AN)
noncomputable def eV (v1 : List GTask) : List GTask → Nat → Option qU
 | [], i => some (.x0)
 | hd :: rest, i => (am v1 (i : Int)).bind fun g1 => if hd = g1 then if aq.sm hd then cond (yes hd g1)
  (eV v1 rest (i + 1))
  (some (.ret false)) else none else none
theorem AH {q0 : Kd} {q1 : Kd} (v0 v1 : List GTask) (rest : List GTask) : ∀ (i : Nat) , (v0).drop i = rest → v0.length ≤ 9223372036854775807 → Ans (eV v1 rest i) (AI (q0 := q0) (q1 := q1) v0 v1 (i : Int)) := by
 induction rest with
 | nil =>
  intro i hE hl
  have hb := bH hE
  unfold eV
  exact IX (IZ (ww (q0 := q0) (q1 := q1) v0 v1 (i : Int) hb) (by intro h; cases h))
 | cons hd rest ih =>
  intro i hE hl
  have hb := bh hE
  have hw := bi hE hl
  have hE2 := aK hE
  have hg := bq hE
  unfold eV
  refine I4 (fun g1 h2 => ?_)
  refine I5 (fun h3 => ?_)
  refine I5 (fun h4 => ?_)
  refine I3 (fun h5 => ?_) (fun h5 => ?_)
  ·exact (ih (i + 1) hE2 hl).mono fun y hy => by have r := wu (q0 := q0) (q1 := q1) v0 v1 (i : Int) hd g1 hb hg h2 h3 h4 h5; rw [hw] at r; cases y <;> exact IY r hy
  ·exact IX (IZ (wv (q0 := q0) (q1 := q1) v0 v1 (i : Int) hd g1 hb hg h2 h3 h4 h5) (by intro h; cases h))
noncomputable def nL (x0 x1 : List GTask) : Option (Bool) :=
  cond ((x0.length : Int) != (x1.length : Int))
   (some (false))
   (if x0.length ≤ 9223372036854775807 then (eV x1 x0 0).bind fun y => match y with
    | .ret w0_4 => (some (w0_4))
    | .x0 => (some (true)) else none)
theorem Cn {q0 : Kd} {q1 : Kd} (x0 x1 : List GTask) : Ans (nL x0 x1) (fun r => Does E 23 [.one (.s .far () 5 (x0.map (GTask.t q0))), .one (.s .far () 5 (x1.map (GTask.t q1)))] [(false, [tB r])]) := by
 unfold nL
 refine I3 (fun h0 => ?_) (fun h0 => ?_)
 ·exact IX (IW (fn := Tryz.f23) [.val (.int .i64 (x0.length : Int)), .val (.int .i64 (x1.length : Int)), .b true] _ rfl (fun _ => rfl) (fun k => by kernel_rfl) (AC (p := ((x0.map (GTask.t q0)).length : Int) = (x0.length : Int)) ag <| AC (p := ((x1.map (GTask.t q1)).length : Int) = (x1.length : Int)) ag <| AC h0 <| AN))
 ·refine I5 (fun hl2 => ?_)
  refine I4 (fun y hy => ?_)
  replace hy := AH (q0 := q0) (q1 := q1) x0 x1 x0 0 rfl hl2 y hy
  cases y with
  | ret w0_4 =>
   have h1 := hy
   exact IX (IW (fn := Tryz.f23) [.val (.int .i64 (x0.length : Int)), .val (.int .i64 (x1.length : Int)), .b false, .lp .ret (kz q0 q1 w0_4)] _ rfl (fun _ => rfl) (fun k => by kernel_rfl) (AC (p := ((x0.map (GTask.t q0)).length : Int) = (x0.length : Int)) ag <| AC (p := ((x1.map (GTask.t q1)).length : Int) = (x1.length : Int)) ag <| AC h0 <| AL h1 <| AN))
  | x0 =>
   have h1 := hy
   exact IX (IW (fn := Tryz.f23) [.val (.int .i64 (x0.length : Int)), .val (.int .i64 (x1.length : Int)), .b false, .lp (.exit 0) (k7 q0 q1)] _ rfl (fun _ => rfl) (fun k => by kernel_rfl) (AC (p := ((x0.map (GTask.t q0)).length : Int) = (x0.length : Int)) ag <| AC (p := ((x1.map (GTask.t q1)).length : Int) = (x1.length : Int)) ag <| AC h0 <| AL h1 <| AN))
theorem ql (l : List GTask) : ∀ (rest : List GTask) (i : Nat), l.drop i = rest → (∀ y ∈ rest, aq.sm y) → eV l rest i = some .x0
 | [], i, _, _ => rfl
 | x :: rest, i, hE, h => by
  have hx := h x (by simp)
  unfold eV
  rw [bq hE, Option.bind_some]
  simp only [hx, if_true, yes, bne_self_eq_false, BEq.rfl, Bool.not_true, cond_false, cond_true]
  exact ql l rest (i + 1) (aK hE) (fun y hy => h y (by simp [hy]))
theorem rV {q0 : Kd} {q1 : Kd} (x0 : List GTask) (x1 : List GTask) (e : x0 = x1) (h : aq.sm x0) : Does E 23 [.one (.s .far () 5 (x0.map (GTask.t q0))), .one (.s .far () 5 (x1.map (GTask.t q1)))] [(false, [tB (yes x0 x1)])] := by
 subst e
 exact Cn x0 x0 _ (by
  unfold nL
  rw [if_pos (ny h), ql x0 x0 0 rfl h.2]
  simp [yes])
noncomputable def qT (x0 x1 : GDag) : Option (Bool) :=
  cond (!(x0.f0.toList == x1.f0.toList))
   (some (false))
   (cond (!(x0.f1.toList == x1.f1.toList))
    (some (false))
    (cond (x0.f2 != x1.f2)
     (some (false))
     (cond (x0.f3 != x1.f3)
      (some (false))
      (cond (!(x0.f4 == x1.f4))
       (some (false))
       (if x0.f5 = x1.f5 then if aq.sm x0.f5 then cond (yes x0.f5 x1.f5)
        (some (true))
        (some (false)) else none else none)))))
theorem E5 {q0 : Kd} {q1 : Kd} (x0 x1 : GDag) : Ans (qT x0 x1) (fun r => Does E 8 [.agg (GDag.t .far q0 x0), .agg (GDag.t .far q1 x1)] [(false, [tB r])]) := by
 unfold qT
 refine I3 (fun h0 => ?_) (fun h0 => ?_)
 ·exact IX (IW (fn := Tryz.f8) [.b true] _ rfl (fun _ => rfl) (fun k => by kernel_rfl) (AC h0 <| AN))
 ·refine I3 (fun h1 => ?_) (fun h1 => ?_)
  ·exact IX (IW (fn := Tryz.f8) [.b false, .b true] _ rfl (fun _ => rfl) (fun k => by kernel_rfl) (AC h0 <| AC h1 <| AN))
  ·refine I3 (fun h2 => ?_) (fun h2 => ?_)
   ·exact IX (IW (fn := Tryz.f8) [.b false, .b false, .b true] _ rfl (fun _ => rfl) (fun k => by kernel_rfl) (AC h0 <| AC h1 <| AC h2 <| AN))
   ·refine I3 (fun h3 => ?_) (fun h3 => ?_)
    ·exact IX (IW (fn := Tryz.f8) [.b false, .b false, .b false, .b true] _ rfl (fun _ => rfl) (fun k => by kernel_rfl) (AC h0 <| AC h1 <| AC h2 <| AC h3 <| AN))
    ·refine I3 (fun h4 => ?_) (fun h4 => ?_)
     ·exact IX (IW (fn := Tryz.f8) [.b false, .b false, .b false, .b false, .b true] _ rfl (fun _ => rfl) (fun k => by kernel_rfl) (AC h0 <| AC h1 <| AC h2 <| AC h3 <| AC h4 <| AN))
     ·refine I5 (fun h5 => ?_)
      refine I5 (fun h6 => ?_)
      refine I3 (fun h7 => ?_) (fun h7 => ?_)
      ·exact IX (IW (fn := Tryz.f8) [.b false, .b false, .b false, .b false, .b false, rT] _ rfl (fun _ => rfl) (fun k => by kernel_rfl) (AC h0 <| AC h1 <| AC h2 <| AC h3 <| AC h4 <| AV (ψ := fun k => E.C k 23 [.one (.s .far () 5 (x0.f5.map (GTask.t q0))), .one (.s .far () 5 (x1.f5.map (GTask.t q1)))] = some [(false, [tB true])]) (I6 (rV x0.f5 x1.f5 h5 h6) (by rw [h7])) <| AN))
      ·exact IX (IW (fn := Tryz.f8) [.b false, .b false, .b false, .b false, .b false, rF] _ rfl (fun _ => rfl) (fun k => by kernel_rfl) (AC h0 <| AC h1 <| AC h2 <| AC h3 <| AC h4 <| AV (ψ := fun k => E.C k 23 [.one (.s .far () 5 (x0.f5.map (GTask.t q0))), .one (.s .far () 5 (x1.f5.map (GTask.t q1)))] = some [(false, [tB false])]) (I6 (rV x0.f5 x1.f5 h5 h6) (by rw [h7])) <| AN))
theorem xq {q0 : Kd} {q1 : Kd} (x0 : GDag) (x1 : GDag) (e : x0 = x1) (h : aq.sm x0) : Does E 8 [.agg (GDag.t .far q0 x0), .agg (GDag.t .far q1 x1)] [(false, [tB (yes x0 x1)])] := by
 subst e
 obtain ⟨w0, w1, w5⟩ := h
 exact E5 x0 x0 _ (by
  unfold qT
  simp only [w5, if_true, yes, bne_self_eq_false, BEq.rfl, Bool.not_true, cond_false, cond_true])
end Go.Proofs.YtfbhcpmlihdmcaaGreatDoor.Am
namespace Go.Proofs.YtfbhcpmlihdmcaaGreatDoor.Am
open Go Go.Proofs Classical
set_option maxRecDepth 100000
set_option linter.unusedVariables false
set_option linter.unusedSimpArgs false
noncomputable def jO (x0 : LDag) : Option (Bool) :=
  if Wf.wf x0 then cond (decide ((cR x0 (1048576 : Int)) < (0 : Int)))
   (some (true))
   (if aq.sm x0 then if aq.sm (ay x0) then cond (!((eg (ay x0)) == (eg (ay x0))))
    (some (false))
    (if (ay x0) = (ay x0) then cond (yes (ay x0) (ay x0))
     (some (true))
     (some (false)) else none) else none else none) else none
theorem tq {q0 : Kd} (x0 : LDag) : Ans (jO x0) (fun r => Does E 3 [.agg (LDag.t .far q0 x0)] [(false, [tB r])]) := by
 unfold jO
 refine I5 (fun h0 => ?_)
 refine I3 (fun h1 => ?_) (fun h1 => ?_)
 ·exact IX (IW (fn := Tryz.f3) [.ret [(false, [tI (cR x0 (1048576 : Int))])], .b true] _ rfl (fun _ => rfl) (fun k => by kernel_rfl) (AV (ψ := fun k => E.C k 4 [.agg (LDag.t .far q0 x0), .one (tI (1048576 : Int))] = some [(false, [tI (cR x0 (1048576 : Int))])]) (na x0 (1048576 : Int) h0) <| AC h1 <| AN))
 ·refine I5 (fun h2 => ?_)
  refine I5 (fun h3 => ?_)
  refine I3 (fun h4 => ?_) (fun h4 => ?_)
  ·exact IX (IW (fn := Tryz.f3) [.ret [(false, [tI (cR x0 (1048576 : Int))])], .b false, .ret [(true, GDag.t .own .own (ay x0))], .ret [(false, [tB (eg (ay x0))])], .ret [(true, GDag.t .own .own (ay x0))], .ret [(false, [tB (eg (ay x0))])], .b true] _ rfl (fun _ => rfl) (fun k => by kernel_rfl) (AV (ψ := fun k => E.C k 4 [.agg (LDag.t .far q0 x0), .one (tI (1048576 : Int))] = some [(false, [tI (cR x0 (1048576 : Int))])]) (na x0 (1048576 : Int) h0) <| AC h1 <| AV (ψ := fun k => E.C k 6 [.agg (LDag.t .far q0 x0)] = some [(true, GDag.t .own .own (ay x0))]) (gd x0 h2) <| AV (ψ := fun k => E.C k 5 [.agg (GDag.t .far .own (ay x0))] = some [(false, [tB (eg (ay x0))])]) (qc (ay x0) h3) <| AV (ψ := fun k => E.C k 6 [.agg (LDag.t .far q0 x0)] = some [(true, GDag.t .own .own (ay x0))]) (gd x0 h2) <| AV (ψ := fun k => E.C k 7 [.agg (GDag.t .far .own (ay x0))] = some [(false, [tB (eg (ay x0))])]) (qa (ay x0) h3) <| AC h4 <| AN))
  ·refine I5 (fun h5 => ?_)
   refine I3 (fun h6 => ?_) (fun h6 => ?_)
   ·exact IX (IW (fn := Tryz.f3) [.ret [(false, [tI (cR x0 (1048576 : Int))])], .b false, .ret [(true, GDag.t .own .own (ay x0))], .ret [(false, [tB (eg (ay x0))])], .ret [(true, GDag.t .own .own (ay x0))], .ret [(false, [tB (eg (ay x0))])], .b false, .ret [(true, GDag.t .own .own (ay x0))], rT] _ rfl (fun _ => rfl) (fun k => by kernel_rfl) (AV (ψ := fun k => E.C k 4 [.agg (LDag.t .far q0 x0), .one (tI (1048576 : Int))] = some [(false, [tI (cR x0 (1048576 : Int))])]) (na x0 (1048576 : Int) h0) <| AC h1 <| AV (ψ := fun k => E.C k 6 [.agg (LDag.t .far q0 x0)] = some [(true, GDag.t .own .own (ay x0))]) (gd x0 h2) <| AV (ψ := fun k => E.C k 5 [.agg (GDag.t .far .own (ay x0))] = some [(false, [tB (eg (ay x0))])]) (qc (ay x0) h3) <| AV (ψ := fun k => E.C k 6 [.agg (LDag.t .far q0 x0)] = some [(true, GDag.t .own .own (ay x0))]) (gd x0 h2) <| AV (ψ := fun k => E.C k 7 [.agg (GDag.t .far .own (ay x0))] = some [(false, [tB (eg (ay x0))])]) (qa (ay x0) h3) <| AC h4 <| AV (ψ := fun k => E.C k 6 [.agg (LDag.t .far q0 x0)] = some [(true, GDag.t .own .own (ay x0))]) (gd x0 h2) <| AV (ψ := fun k => E.C k 8 [.agg (GDag.t .far .own (ay x0)), .agg (GDag.t .far .own (ay x0))] = some [(false, [tB true])]) (I6 (xq (ay x0) (ay x0) h5 h3) (by rw [h6])) <| AN))
   ·exact IX (IW (fn := Tryz.f3) [.ret [(false, [tI (cR x0 (1048576 : Int))])], .b false, .ret [(true, GDag.t .own .own (ay x0))], .ret [(false, [tB (eg (ay x0))])], .ret [(true, GDag.t .own .own (ay x0))], .ret [(false, [tB (eg (ay x0))])], .b false, .ret [(true, GDag.t .own .own (ay x0))], rF] _ rfl (fun _ => rfl) (fun k => by kernel_rfl) (AV (ψ := fun k => E.C k 4 [.agg (LDag.t .far q0 x0), .one (tI (1048576 : Int))] = some [(false, [tI (cR x0 (1048576 : Int))])]) (na x0 (1048576 : Int) h0) <| AC h1 <| AV (ψ := fun k => E.C k 6 [.agg (LDag.t .far q0 x0)] = some [(true, GDag.t .own .own (ay x0))]) (gd x0 h2) <| AV (ψ := fun k => E.C k 5 [.agg (GDag.t .far .own (ay x0))] = some [(false, [tB (eg (ay x0))])]) (qc (ay x0) h3) <| AV (ψ := fun k => E.C k 6 [.agg (LDag.t .far q0 x0)] = some [(true, GDag.t .own .own (ay x0))]) (gd x0 h2) <| AV (ψ := fun k => E.C k 7 [.agg (GDag.t .far .own (ay x0))] = some [(false, [tB (eg (ay x0))])]) (qa (ay x0) h3) <| AC h4 <| AV (ψ := fun k => E.C k 6 [.agg (LDag.t .far q0 x0)] = some [(true, GDag.t .own .own (ay x0))]) (gd x0 h2) <| AV (ψ := fun k => E.C k 8 [.agg (GDag.t .far .own (ay x0)), .agg (GDag.t .far .own (ay x0))] = some [(false, [tB false])]) (I6 (xq (ay x0) (ay x0) h5 h3) (by rw [h6])) <| AN))
theorem BS {q0 : Kd} (x0 : LDag) (h : Wf.wf x0) : Does E 3 [.agg (LDag.t .far q0 x0)] [(false, [tB true])] := by
 have hs := DZ x0 1048576 h (by omega) (by omega)
 exact tq x0 _ (by
  unfold jO
  refine Hr h (HM fun q => ?_)
  have hs := (hs q).2
  have ht := Em hs
  simp [hs, ht, yes])
end Go.Proofs.YtfbhcpmlihdmcaaGreatDoor.Am
namespace Go.Proofs.YtfbhcpmlihdmcaaGreatDoor.fnExactDagOk
open Go.ChangeShapes Go.WideShapes Go.ChangeAt Go.RowKit Go.Proofs.YtfbhcpmlihdmcaaGreatDoor.Am
open Go.ChangeMaps (open_string shut_string)
set_option linter.unusedVariables false
set_option linter.unusedSimpArgs false
theorem own : ownKnob Tryz.prog.godebug = none := by kernel_rfl
theorem laid : laidOutB Tryz.prog = true := by kernel_rfl
theorem tH {α : Type} {enc : α → List (T Unit)} {B : α → Prop} : ∀ (rows : List (List DT)), (∀ r ∈ rows, ∃ x, erL r = enc x ∧ B x) → ∃ l : List α, rows.map erL = l.map enc ∧ l.length = rows.length ∧ ∀ y ∈ l, B y
 | [], _ => ⟨[], rfl, rfl, fun y h => by cases h⟩
 | r :: rs, h => by
  obtain ⟨x, h1, h2⟩ := h r (by simp)
  obtain ⟨l, g1, g2, g3⟩ := tH rs fun q hq => h q (by simp [hq])
  refine ⟨x :: l, by simp only [List.map_cons, h1, g1], by simp [g2], fun y hy => ?_⟩
  rcases List.mem_cons.1 hy with rfl | hy
  ·exact h2
  ·exact g3 y hy
def tQ : Ty := (.struct (.cons .str (.cons .str (.cons (.int .i64) (.cons .bool (.cons (.slice .str) .nil))))))
theorem D8 {ts : List DT} (h : Shape tQ ts) : ∃ x : GTask, erL ts = GTask.t .far x ∧ Wf.wf x := by
 simp only [tQ, Shape, ShapeF] at h
 obtain ⟨xs0, ys0, rfl, s0, xs1, ys1, rfl, s1, xs2, ys2, rfl, s2, xs3, ys3, rfl, s3, xs4, ys4, rfl, s4, rfl⟩ := h
 obtain ⟨v0, rfl, k0⟩ := s0
 obtain ⟨v1, rfl, k1⟩ := s1
 obtain ⟨v2, rfl, k2⟩ := s2
 obtain ⟨v3, rfl⟩ := s3
 obtain ⟨d4, r4, rfl, k4, a4⟩ := s4
 obtain ⟨v4, e4, b4, c4⟩ := tH (enc := etS) (B := Wf.wf) r4 (fun r hr => (by obtain ⟨s, rfl, hs⟩ := a4 r hr; exact ⟨s, rfl, hs⟩))
 refine ⟨⟨v0, v1, v2, v3, v4⟩, ?_, ⟨k0, k1, ⟨by rw [b4]; exact k4, c4⟩⟩⟩
 simp only [List.map_append, List.map_cons, List.map_nil, erL, aw, dp, e4]
 rfl
def rG : Ty := (.struct (.cons .str (.cons .str (.cons (.int .i64) (.cons (.int .i64) (.cons .bool (.cons (.slice (.struct (.cons .str (.cons .str (.cons (.int .i64) (.cons .bool (.cons (.slice .str) .nil))))))) .nil)))))))
theorem Fg {ts : List DT} (h : Shape rG ts) : ∃ x : LDag, erL ts = LDag.t .far .far x ∧ Wf.wf x := by
 simp only [rG, Shape, ShapeF] at h
 obtain ⟨xs0, ys0, rfl, s0, xs1, ys1, rfl, s1, xs2, ys2, rfl, s2, xs3, ys3, rfl, s3, xs4, ys4, rfl, s4, xs5, ys5, rfl, s5, rfl⟩ := h
 obtain ⟨v0, rfl, k0⟩ := s0
 obtain ⟨v1, rfl, k1⟩ := s1
 obtain ⟨v2, rfl, k2⟩ := s2
 obtain ⟨v3, rfl, k3⟩ := s3
 obtain ⟨v4, rfl⟩ := s4
 obtain ⟨d5, r5, rfl, k5, a5⟩ := s5
 obtain ⟨v5, e5, b5, c5⟩ := tH (enc := (GTask.t .far)) (B := Wf.wf) r5 (fun r hr => D8 (by simp only [tQ, Shape, ShapeF]; exact a5 r hr))
 refine ⟨⟨v0, v1, v2, v3, v4, v5⟩, ?_, ⟨k0, k1, ⟨by rw [b5]; exact k5, c5⟩⟩⟩
 simp only [List.map_append, List.map_cons, List.map_nil, erL, aw, dp, e5]
 rfl
theorem Dh {H : Type} {enc : TypeId × Value → H} {a : Assume} {C : Checked} {os : Os} {f : FuncId} {fn : Func} {s : ChangeSpec} {conds : List PathCond} {apart fresh handsOn again : Bool} {X : World → Array Value → Prop}
  (hX : ∀ (w w' : World) (args : Array Value), w.heap = w'.heap → X w args → X w' args)
  (own : ownKnob C.prog.godebug = none) (started : os.Started) (noInit : C.prog.inits.idxOf? f = none) (hfn : C.prog.funcs[f]? = some fn)
  (witness : ∃ (w : World) (tape : Tape) (i : Input), w.os = os ∧ (w.forCall tape i).Shaped C.prog ∧ i.vars = [] ∧ Input.okWide C.prog (w.forCall tape i) .any w.heap.size f i ∧
   ((s.pre enc C.prog fn conds apart (w.forCall tape i).memory i.args ∧ X (w.forCall tape i).memory i.args) ∧ sizedMet enc C.prog fn (OpenSpec.ofChange s) apart (w.forCall tape i).memory i.args) ∧ a.holds C.prog (lone (Frame.enter C.prog f i.args .normal) [] (w.forCall tape i)))
  (contract : ∀ (W : World) (base : Nat) (args : Array Value) (ds gs : List (DataW H)) (before : List MemPlace),
   (∀ (j : Nat) t v, fn.params[j]? = some t → args[j]? = some v → Value.okWide C.prog W .any base t v) →
   DataW.Whole enc C.prog fn.params.toList s.vars apart W args.toList ds gs before →
   X W args → W.ShapedOpen C.prog →
   Calls C.prog f args W fun e W' => ∃ v, e = .returned v ∧ s.post enc C.prog fn apart fresh handsOn again W args v W') :
  ReturnsInHanded a C os f .any (fun w args => (s.pre enc C.prog fn conds apart w args ∧ X w args) ∧ sizedMet enc C.prog fn (OpenSpec.ofChange s) apart w args) (s.post enc C.prog fn apart fresh handsOn again) := by
 refine returnsInHanded_of_calls own started noInit witness ?_
 intro w tape i _ hsh _ hok hpre _
 obtain ⟨_, _, _, fn', hfn', _, _, _, _, hval⟩ := hok
 have e : fn' = fn := Option.some.inj (hfn'.symm.trans hfn)
 subst e
 obtain ⟨⟨⟨ds, gs, before, hw, hc⟩, hx⟩, hz⟩ := hpre
 have hw' := DataW.Whole.of_heap (w' := w.forCall tape i) (by rfl) hw
 refine (contract (w.forCall tape i) w.heap.size i.args ds gs before hval hw' (hX _ _ _ (by rfl) hx) hsh).mono fun e W' ⟨v, he, hp⟩ => ?_
 subst he
 exact ChangeSpec.post_blind hp
theorem GI {W : World} (hS : W.ShapedOpen Tryz.prog) (hL : laidMetH Tryz.prog Rows.fnExactDagOkRow.laid W) : iO.ok W [] := by
 rw [MakeChecks.laidMetH_plain _ _ _ (by kernel_rfl)] at hL
 refine ⟨?_, fun b h => (by cases h), ?_, ?_⟩
 ·obtain ⟨x, hx⟩ := Option.isSome_iff_exists.1 (show (((begin Tryz.prog (fun _ _ => 0) default).world.heap[5]?).bind Obj.row?).isSome = true by kernel_rfl)
  obtain ⟨cs, hh, _⟩ := hS.1 5 x.1 x.2 (of_decide_eq_true (by kernel_rfl)) hx
  have hn : iO.n = 6 := by show Tryz.prog.globals.size = 6; kernel_rfl
  rw [hn]
  rcases Nat.lt_or_ge 5 W.heap.size with g | g
  ·exact g
  ·rw [Array.getElem?_eq_none g] at hh; cases hh
 ·exact cell_of_shapedOpen_int (t := 3) (zero := #[.int .i64 0]) hS (of_decide_eq_true (by kernel_rfl)) (by kernel_rfl) rfl (by kernel_rfl) (by kernel_rfl) Tryz.underlying3
 ·have e : Rows.laid_internal_strconv_uint64pow10 (H := Unit) = Lib.tabData .u64 Lib.pow10Tab := by kernel_rfl
  refine Lib.tabIs_of_head (rest := Rows.fnExactDagOkRow.laid.drop 3) (g := 1) (t := 147) (e := 123) (n := 20) (by kernel_rfl) (by kernel_rfl) Tryz.underlying147 (by kernel_rfl) (by kernel_rfl) (by kernel_rfl) ?_
  rw [← e]
  exact hL.tail.tail
set_option maxRecDepth 100000 in
theorem Hu (os : Os) (started : os.Started) (H : Type) (enc : TypeId × Value → H) :
  ReturnsInHanded {} Tryz.checked os 3 .any (fun w args => (Rows.fnExactDagOkSpec.pre enc Tryz.prog Tryz.f3 Rows.fnExactDagOkRow.domain false w args ∧ laidMetH Tryz.prog Rows.fnExactDagOkRow.laid w) ∧ sizedMet enc Tryz.prog Tryz.f3 (OpenSpec.ofChange Rows.fnExactDagOkSpec) false w args)
   (Rows.fnExactDagOkSpec.post enc Tryz.prog Tryz.f3 false true false false) := by
 refine Dh (C := Tryz.checked) (X := fun w _ => laidMetH Tryz.prog Rows.fnExactDagOkRow.laid w) (fun _ _ _ hh h => h.of_heap hh) own started (by kernel_rfl) Tryz.func3
  (ChangeSpec.witness_shaped (enc := enc) (C := Tryz.checked) (os := os) (X := fun w _ => laidMetH Tryz.prog Rows.fnExactDagOkRow.laid w) false (World.laidAll Tryz.prog os Rows.fnExactDagOkRow.laid) #[.agg #[.string ByteArray.empty, .string ByteArray.empty, .int .i64 0, .int .i64 0, .bool false, .slice none 0 0]] 8 (World.laidAll_os _ _ _)
   (World.shaped_of_ZipB (by kernel_rfl) (by kernel_rfl)) (by kernel_rfl) (by kernel_rfl) (by kernel_rfl)
   (by rw [MakeChecks.laidMetH_plain _ _ _ (by kernel_rfl)]; exact laidMet_laidAll _ (by kernel_rfl) (by kernel_rfl))) ?_
 intro W base args ds gs before hval0 hW hL hS
 have hB := GI hS hL
 have hval : ∀ (j : Nat) t v, Tryz.f3.params[j]? = some t → args[j]? = some v → Value.okWide Tryz.prog W .any base t v := hval0
 have hW' := hW
 obtain ⟨p, q, hA0, hV, rfl, hfz, hnd⟩ := hW
 have hA : DataW.TrodAll enc Tryz.prog W 0 (fun _ => true) true Tryz.f3.params.toList args.toList ds p := hA0
 rw [Tryz.params3] at hA hval
 have hlt := hA.lt
 obtain ⟨v0, vs0, d0, ds0, p0, q0, hargs, rfl, rfl, h0, r0⟩ := trodAll_cons hA
 obtain ⟨rfl, rfl, rfl⟩ := trodAll_nil r0
 obtain rfl : args = #[v0] := by cases args; simp_all
 obtain ⟨rfl, rfl⟩ := trodVars_none hV
 have hok0 := hval 0 24 v0 rfl rfl
 unfold Value.okWide at hok0
 rw [Tryz.underlying24] at hok0
 obtain ⟨cs0, rfl, _, _⟩ := hok0
 have h0k := h0
 obtain ⟨n0, h0⟩ := h0
 obtain ⟨ts0, R0, S0, L0⟩ := Ty.open rG n0 24 _ _ (by kernel_rfl) h0
 obtain ⟨x0, e0, k0⟩ := Fg S0
 clear hA0 hval0
 refine (HU (BS x0 k0) hB (ad := [.agg ts0]) (by simp only [List.map_cons, List.map_nil, Sl.er, dp, aw]; rw [e0]) (ArgsIn.cons (AOk.agg R0 (Shape.noLent rG _ S0)) (ArgsIn.nil W))).mono fun e W' ⟨he, bel⟩ => ?_
 subst he
 exact ⟨_, rfl, _, _, _, [], _, [], hW', trodAll_mk1 (shut_bool Tryz.underlying4 _), (trodAll_cons_mk (Below.trod laid (by kernel_rfl) (of_decide_eq_true (by kernel_rfl)) h0k bel (fun x hx => hlt x (by simp [hx]))) trodAll_mk0), rfl, bel.frame _, fun h => by cases h⟩
theorem HT : Rows.fnExactDagOkRow.holds Tryz.pinned (OpenSpec.ofChange Rows.fnExactDagOkSpec) :=
 OpenClaim.holds_of_wide 3 Tryz.f3 rfl rfl rfl rfl rfl rfl rfl ⟨rfl, rfl, rfl, rfl, rfl⟩ rfl rfl rfl rfl rfl (by kernel_rfl) Tryz.func3 (by kernel_rfl)
  (of_decide_eq_true (by kernel_rfl)) (by unfold Func.isWrapper; first | (rw [if_pos (by decide +kernel)]; kernel_rfl) | (rw [if_neg (by decide +kernel)]; exact ⟨rfl, rfl⟩))
  (fun os started H enc _ => Hu os started H enc)
theorem proved : Rows.FnExactDagOkCardSaid :=
 Claim7.holds_tied_plain_at .later [] [.data, .data, .data, .data, .pinned] true (true, "fbc170e4ab14d293956a2e9dd51dba45f9b7cc69645055e95fd7bb0550b99c8f") false HT (fun _ h => by cases h) (by kernel_rfl) (fun _ h => by cases h) fnExactDagOk_row_tie rfl ⟨rfl, rfl⟩ (by kernel_rfl) rfl
  (fun f fn hf hfn => by
   obtain rfl : f = 3 := Option.some.inj ((show Tryz.prog.funcNamed "loop.example/g00188/laws.FnExactDagOk" = some 3 by kernel_rfl).symm.trans hf) |>.symm
   obtain rfl : fn = Tryz.f3 := (Option.some.inj (Tryz.func3.symm.trans hfn)).symm
   exact ⟨by kernel_rfl, fun j t ht => by
    rw [Tryz.params3] at ht
    have hm : t ∈ [24] := by simpa using Array.mem_of_getElem? ht
    have hall : ([24].all fun u => !Tryz.prog.wantsStandIn u) = true := by kernel_rfl
    exact (show Tryz.prog.wantsStandIn t = false by simpa using List.all_eq_true.1 hall t hm)⟩)
  (by kernel_rfl)
end Go.Proofs.YtfbhcpmlihdmcaaGreatDoor.fnExactDagOk
namespace Go.Proofs.YtfbhcpmlihdmcaaGreatDoor
theorem fnExactDagOk_holds : Rows.FnExactDagOkCardSaid := fnExactDagOk.proved
end Go.Proofs.YtfbhcpmlihdmcaaGreatDoor
