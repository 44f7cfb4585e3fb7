/- What stands above a task; orders; what the functions that measure, copy and compare plans do. -/
import Derived.Test.YtjfbofdmjihglaaGreatDoorPlans
namespace Go.Proofs.YtjfbofdmjihglaaGreatDoor.Am
open Go Go.Proofs Classical
set_option maxRecDepth 100000
set_option linter.unusedVariables false
set_option linter.unusedSimpArgs false
inductive BT where
 | x0 (v5 : List Int)
def sg (q0 : Kd) (v2_0 v2_1 : ByteArray) (v2_2 v2_3 : Int) (v2_4 : Bool) (v2_5 : List GTask) (v5 : List Int) (v13 : List ByteArray) (v14 v15 : Int) : US := stL 29 [(2, .box () [tS v2_0, tS v2_1, tI v2_2, tI v2_3, tB v2_4, .s .far () 5 (v2_5.map (GTask.t q0))]), (5, .one (.s .own () 1 (v5.map etI))), (13, .one (.s .far () 1 (v13.map etS))), (14, .one (tI v14)), (15, .one (tI v15))]
def se (q0 : Kd) (zv5 : List Int) : US := stL 29 [(5, .one (.s .own () 1 (zv5.map etI)))]
abbrev BS : US → Exit → US → Prop := Round E 30 (ax Tryz.f30 0)
def It {q0 : Kd} (v2_0 v2_1 : ByteArray) (v2_2 v2_3 : Int) (v2_4 : Bool) (v2_5 : List GTask) (v5 : List Int) (v13 : List ByteArray) (v14 v15 : Int) : BT → Prop
 | .x0 zv5 => Loops E 30 (ax Tryz.f30 0) (sg q0 v2_0 v2_1 v2_2 v2_3 v2_4 v2_5 v5 v13 v14 v15) (.exit 0) (se q0 zv5)
noncomputable def jV (v2_0 v2_1 : ByteArray) (v2_2 v2_3 : Int) (v2_5 : List GTask) : List ByteArray → Nat → Bool → (List Int) → Option BT
 | [], i, v2_4, v5 => some (.x0 v5)
 | hd :: rest, i, v2_4, v5 => if (GDag.mk v2_0 v2_1 v2_2 v2_3 v2_4 v2_5).f5.length ≤ 1050000 then if (v5.length + ([bF (GDag.mk v2_0 v2_1 v2_2 v2_3 v2_4 v2_5) hd]).length) * 8 ≤ 140737488355328 ∧ v5.length + ([bF (GDag.mk v2_0 v2_1 v2_2 v2_3 v2_4 v2_5) hd]).length ≤ 4611686018427387904 then jV v2_0 v2_1 v2_2 v2_3 v2_5 rest (i + 1) v2_4 (v5 ++ ([bF (GDag.mk v2_0 v2_1 v2_2 v2_3 v2_4 v2_5) hd])) else none else none
theorem Is {q0 : Kd} (v2_0 v2_1 : ByteArray) (v2_2 v2_3 : Int) (v2_5 : List GTask) (v13 : List ByteArray) (rest : List ByteArray) : ∀ (i : Nat) (v2_4 : Bool) (v5 : List Int), (v13).drop i = rest → v13.length ≤ 9223372036854775807 → Ans (jV v2_0 v2_1 v2_2 v2_3 v2_5 rest i v2_4 v5) (It (q0 := q0) v2_0 v2_1 v2_2 v2_3 v2_4 v2_5 v5 v13 (v13.length : Int) (i : Int)) := by
 induction rest with
 | nil =>
  intro i v2_4 v5 hE hl
  have hb := bh hE
  unfold jV
  exact K5 (K7 (show BS (sg q0 v2_0 v2_1 v2_2 v2_3 v2_4 v2_5 v5 v13 (v13.length : Int) (i : Int)) (.exit 0) (se q0 v5) from K3 [.b false] _ (fun k => by kernel_rfl) (AC hb <| AN)) (by intro h; cases h))
 | cons hd rest ih =>
  intro i v2_4 v5 hE hl
  have hb := aS hE
  have hw := aT hE hl
  have hE2 := aG hE
  have hg := aX hE
  unfold jV
  refine La (fun h2 => ?_)
  refine La (fun h3 => ?_)
  exact (ih (i + 1) v2_4 (v5 ++ ([bF (GDag.mk v2_0 v2_1 v2_2 v2_3 v2_4 v2_5) hd])) hE2 hl).mono fun y hy => by have r : BS (sg q0 v2_0 v2_1 v2_2 v2_3 v2_4 v2_5 v5 v13 (v13.length : Int) (i : Int)) .normal (sg q0 v2_0 v2_1 v2_2 v2_3 v2_4 v2_5 (v5 ++ ([bF (GDag.mk v2_0 v2_1 v2_2 v2_3 v2_4 v2_5) hd])) v13 (v13.length : Int) (inc (i : Int))) := K3 [.b true, .row (etS hd), .ret [(false, [tI (bF (GDag.mk v2_0 v2_1 v2_2 v2_3 v2_4 v2_5) hd)])], .rows ((v5 ++ ([bF (GDag.mk v2_0 v2_1 v2_2 v2_3 v2_4 v2_5) hd])).map etI)] _ (fun k => by kernel_rfl) (AC hb <| AR etS hg <| AV (ψ := fun k => E.C k 48 [.agg (GDag.t .far q0 (GDag.mk v2_0 v2_1 v2_2 v2_3 v2_4 v2_5)), .one (tS hd)] = some [(false, [tI (bF (GDag.mk v2_0 v2_1 v2_2 v2_3 v2_4 v2_5) hd)])]) (eU (GDag.mk v2_0 v2_1 v2_2 v2_3 v2_4 v2_5) hd h2) <| AAp etI (fun _ => rfl) h3 <| AN); rw [hw] at r; cases y <;> exact K6 r hy
noncomputable def ve (x0 : GDag) (x1 : Int) : Option ((List Int)) :=
  (aI x0.f5 x1).bind fun g0 => if g0.f4.length ≤ 9223372036854775807 then (jV x0.f0 x0.f1 x0.f2 x0.f3 x0.f5 g0.f4 0 x0.f4 ([])).bind fun y => match y with
   | .x0 w0_5 => (if w0_5.length < 4611686018427387904 then some (cq w0_5) else none) else none
theorem Jf {q0 : Kd} (x0 : GDag) (x1 : Int) : Ans (ve x0 x1) (fun r => Does E 30 [.agg (GDag.t .far q0 x0), .one (tI x1)] [(false, [.s .own () 1 (r.map etI)])]) := by
 unfold ve
 refine K9 (fun g0 h0 => ?_)
 refine La (fun hl1 => ?_)
 refine K9 (fun y hy => ?_)
 replace hy := Is (q0 := q0) x0.f0 x0.f1 x0.f2 x0.f3 x0.f5 g0.f4 g0.f4 0 x0.f4 ([]) rfl hl1 y hy
 cases y with
 | x0 w0_5 =>
  have h1 := hy
  refine La (fun h2 => ?_)
  exact K5 (K4 (fn := Tryz.f30) [.row ((GTask.t q0) g0), .val (.int .i64 (g0.f4.length : Int)), .lp (.exit 0) (se q0 w0_5), .ret [(false, [.s .own () 1 ((cq w0_5).map etI)])]] _ rfl (fun _ => rfl) (fun k => by kernel_rfl) (AR (GTask.t q0) h0 <| ALn g0.f4 etS <| AL h1 <| AC (p := (w0_5.map etI).length = (w0_5.map etI).length) rfl <| AV (ψ := fun k => E.C k 53 [.one (.s .own () 1 (w0_5.map etI))] = some [(false, [.s .own () 1 ((cq w0_5).map etI)])]) (kT w0_5 h2) <| AN))
inductive vV where
 | x2 (v5 : List Int)
def jt (q0 : Kd) (v1 : Int) (v2_0 v2_1 : ByteArray) (v2_2 v2_3 : Int) (v2_4 : Bool) (v2_5 : List GTask) (v5 : List Int) (v6 v7 : Int) : US := stL 48 [(1, .one (tI v1)), (2, .box () [tS v2_0, tS v2_1, tI v2_2, tI v2_3, tB v2_4, .s .far () 5 (v2_5.map (GTask.t q0))]), (5, .one (.s .own () 1 (v5.map etI))), (6, .one (tI v6)), (7, .one (tI v7))]
def oM (q0 : Kd) (v1 : Int) (v2_0 v2_1 : ByteArray) (v2_2 v2_3 : Int) (v2_4 : Bool) (v2_5 : List GTask) (v6 : Int) (zv5 : List Int) : US := stL 48 [(1, .one (tI v1)), (2, .box () [tS v2_0, tS v2_1, tI v2_2, tI v2_3, tB v2_4, .s .far () 5 (v2_5.map (GTask.t q0))]), (5, .one (.s .own () 1 (zv5.map etI))), (6, .one (tI v6))]
abbrev qX : US → Exit → US → Prop := Round E 26 (ax Tryz.f26 1)
def Ep {q0 : Kd} (v1 : Int) (v2_0 v2_1 : ByteArray) (v2_2 v2_3 : Int) (v2_4 : Bool) (v2_5 : List GTask) (v5 : List Int) (v6 v7 : Int) : vV → Prop
 | .x2 zv5 => Loops E 26 (ax Tryz.f26 1) (jt q0 v1 v2_0 v2_1 v2_2 v2_3 v2_4 v2_5 v5 v6 v7) (.exit 2) (oM q0 v1 v2_0 v2_1 v2_2 v2_3 v2_4 v2_5 v6 zv5)
noncomputable def eZ (v2_5 : List GTask) (v6 : Int) : List ByteArray → Nat → Bool → (List Int) → Option vV
 | [], i, v2_4, v5 => some (.x2 v5)
 | hd :: rest, i, v2_4, v5 => (aI v2_5 v6).bind fun g2 => cond (hd.toList == g2.f0.toList)
  (if (v5.length + ([v6]).length) * 8 ≤ 140737488355328 ∧ v5.length + ([v6]).length ≤ 4611686018427387904 then eZ v2_5 v6 rest (i + 1) v2_4 (v5 ++ ([v6])) else none)
  (eZ v2_5 v6 rest (i + 1) v2_4 v5)
theorem En {q0 : Kd} (v1 : Int) (v2_0 v2_1 : ByteArray) (v2_2 v2_3 : Int) (v2_5 : List GTask) (v6 : Int) (g0 : GTask) (hq0 : aI v2_5 v1 = some g0) (rest : List ByteArray) : ∀ (i : Nat) (v2_4 : Bool) (v5 : List Int), (g0.f4).drop i = rest → g0.f4.length ≤ 9223372036854775807 → Ans (eZ v2_5 v6 rest i v2_4 v5) (Ep (q0 := q0) v1 v2_0 v2_1 v2_2 v2_3 v2_4 v2_5 v5 v6 (i : Int)) := by
 induction rest with
 | nil =>
  intro i v2_4 v5 hE hl
  have hb := bh hE
  unfold eZ
  exact K5 (K7 (show qX (jt q0 v1 v2_0 v2_1 v2_2 v2_3 v2_4 v2_5 v5 v6 (i : Int)) (.exit 2) (oM q0 v1 v2_0 v2_1 v2_2 v2_3 v2_4 v2_5 v6 v5) from K3 [.row ((GTask.t q0) g0), .val (.int .i64 (g0.f4.length : Int)), .b false] _ (fun k => by kernel_rfl) (AR (GTask.t q0) hq0 <| ALn g0.f4 etS <| AC hb <| AN)) (by intro h; cases h))
 | cons hd rest ih =>
  intro i v2_4 v5 hE hl
  have hb := aS hE
  have hw := aT hE hl
  have hE2 := aG hE
  have hg := aX hE
  unfold eZ
  refine K9 (fun g2 h3 => ?_)
  refine K8 (fun h4 => ?_) (fun h4 => ?_)
  ·refine La (fun h5 => ?_)
   exact (ih (i + 1) v2_4 (v5 ++ ([v6])) hE2 hl).mono fun y hy => by have r : qX (jt q0 v1 v2_0 v2_1 v2_2 v2_3 v2_4 v2_5 v5 v6 (i : Int)) .normal (jt q0 v1 v2_0 v2_1 v2_2 v2_3 v2_4 v2_5 (v5 ++ ([v6])) v6 (inc (i : Int))) := K3 [.row ((GTask.t q0) g0), .val (.int .i64 (g0.f4.length : Int)), .b true, .row ((GTask.t q0) g0), .row (etS hd), .row ((GTask.t q0) g2), .b true, .rows ((v5 ++ ([v6])).map etI)] _ (fun k => by kernel_rfl) (AR (GTask.t q0) hq0 <| ALn g0.f4 etS <| AC hb <| AR (GTask.t q0) hq0 <| AR etS hg <| AR (GTask.t q0) h3 <| AC h4 <| AAp etI (fun _ => rfl) h5 <| AN); rw [hw] at r; cases y <;> exact K6 r hy
  ·exact (ih (i + 1) v2_4 v5 hE2 hl).mono fun y hy => by have r : qX (jt q0 v1 v2_0 v2_1 v2_2 v2_3 v2_4 v2_5 v5 v6 (i : Int)) .normal (jt q0 v1 v2_0 v2_1 v2_2 v2_3 v2_4 v2_5 v5 v6 (inc (i : Int))) := K3 [.row ((GTask.t q0) g0), .val (.int .i64 (g0.f4.length : Int)), .b true, .row ((GTask.t q0) g0), .row (etS hd), .row ((GTask.t q0) g2), .b false] _ (fun k => by kernel_rfl) (AR (GTask.t q0) hq0 <| ALn g0.f4 etS <| AC hb <| AR (GTask.t q0) hq0 <| AR etS hg <| AR (GTask.t q0) h3 <| AC h4 <| AN); rw [hw] at r; cases y <;> exact K6 r hy
inductive vU where
 | x0 (v5 : List Int)
def nW (q0 : Kd) (v1 : Int) (v2_0 v2_1 : ByteArray) (v2_2 v2_3 : Int) (v2_4 : Bool) (v2_5 : List GTask) (v5 : List Int) (v6 : Int) : US := stL 48 [(1, .one (tI v1)), (2, .box () [tS v2_0, tS v2_1, tI v2_2, tI v2_3, tB v2_4, .s .far () 5 (v2_5.map (GTask.t q0))]), (5, .one (.s .own () 1 (v5.map etI))), (6, .one (tI v6))]
def oL (q0 : Kd) (zv5 : List Int) : US := stL 48 [(5, .one (.s .own () 1 (zv5.map etI)))]
abbrev vT : US → Exit → US → Prop := Round E 26 (ax Tryz.f26 0)
def Eo {q0 : Kd} (v1 : Int) (v2_0 v2_1 : ByteArray) (v2_2 v2_3 : Int) (v2_4 : Bool) (v2_5 : List GTask) (v5 : List Int) (v6 : Int) : vU → Prop
 | .x0 zv5 => Loops E 26 (ax Tryz.f26 0) (nW q0 v1 v2_0 v2_1 v2_2 v2_3 v2_4 v2_5 v5 v6) (.exit 0) (oL q0 zv5)
noncomputable def fS (v1 : Int) (v2_5 : List GTask) : List GTask → Nat → Bool → (List Int) → Option vU
 | [], i, v2_4, v5 => some (.x0 v5)
 | hd :: rest, i, v2_4, v5 => (aI v2_5 v1).bind fun e1 => if e1.f4.length ≤ 9223372036854775807 then (eZ v2_5 (i : Int) e1.f4 0 v2_4 v5).bind fun y => match y with
  | .x2 w0_5 => (fS v1 v2_5 rest (i + 1) v2_4 w0_5) else none
theorem Em {q0 : Kd} (v1 : Int) (v2_0 v2_1 : ByteArray) (v2_2 v2_3 : Int) (v2_5 : List GTask) (rest : List GTask) : ∀ (i : Nat) (v2_4 : Bool) (v5 : List Int), (v2_5).drop i = rest → v2_5.length ≤ 9223372036854775807 → Ans (fS v1 v2_5 rest i v2_4 v5) (Eo (q0 := q0) v1 v2_0 v2_1 v2_2 v2_3 v2_4 v2_5 v5 (i : Int)) := by
 induction rest with
 | nil =>
  intro i v2_4 v5 hE hl
  have hb := bh hE
  unfold fS
  exact K5 (K7 (show vT (nW q0 v1 v2_0 v2_1 v2_2 v2_3 v2_4 v2_5 v5 (i : Int)) (.exit 0) (oL q0 v5) from K3 [.val (.int .i64 (v2_5.length : Int)), .b false] _ (fun k => by kernel_rfl) (ALn v2_5 (GTask.t q0) <| AC hb <| AN)) (by intro h; cases h))
 | cons hd rest ih =>
  intro i v2_4 v5 hE hl
  have hb := aS hE
  have hw := aT hE hl
  have hE2 := aG hE
  have hg := aX hE
  unfold fS
  refine K9 (fun e1 k1 => ?_)
  refine La (fun hl2 => ?_)
  refine K9 (fun y hy => ?_)
  replace hy := En (q0 := q0) v1 v2_0 v2_1 v2_2 v2_3 v2_5 (i : Int) e1 k1 e1.f4 0 v2_4 v5 rfl hl2 y hy
  cases y with
  | x2 w0_5 =>
   have h1 := hy
   exact (ih (i + 1) v2_4 w0_5 hE2 hl).mono fun y hy => by have r : vT (nW q0 v1 v2_0 v2_1 v2_2 v2_3 v2_4 v2_5 v5 (i : Int)) .normal (nW q0 v1 v2_0 v2_1 v2_2 v2_3 v2_4 v2_5 w0_5 (inc (i : Int))) := K3 [.val (.int .i64 (v2_5.length : Int)), .b true, .lp (.exit 2) (oM q0 v1 v2_0 v2_1 v2_2 v2_3 v2_4 v2_5 (i : Int) w0_5)] _ (fun k => by kernel_rfl) (ALn v2_5 (GTask.t q0) <| AC hb <| AL h1 <| AN); rw [hw] at r; cases y <;> exact K6 r hy
noncomputable def pc (x0 : GDag) (x1 : Int) : Option ((List Int)) :=
  if x0.f5.length ≤ 9223372036854775807 then (fS x1 x0.f5 x0.f5 0 x0.f4 ([])).bind fun y => match y with
   | .x0 w0_5 => (some (w0_5)) else none
theorem Gf {q0 : Kd} (x0 : GDag) (x1 : Int) : Ans (pc x0 x1) (fun r => Does E 26 [.agg (GDag.t .far q0 x0), .one (tI x1)] [(false, [.s .own () 1 (r.map etI)])]) := by
 unfold pc
 refine La (fun hl1 => ?_)
 refine K9 (fun y hy => ?_)
 replace hy := Em (q0 := q0) x1 x0.f0 x0.f1 x0.f2 x0.f3 x0.f5 x0.f5 0 x0.f4 ([]) rfl hl1 y hy
 cases y with
 | x0 w0_5 =>
  have h0 := hy
  exact K5 (K4 (fn := Tryz.f26) [.lp (.exit 0) (oL q0 w0_5)] _ rfl (fun _ => rfl) (fun k => by kernel_rfl) (AL h0 <| AN))
noncomputable def IH (ts : List GTask) (t : GTask) : List Int := cq (t.f4.map (av ts))
noncomputable def ups (d : GDag) (i : Int) : List Int := match aI d.f5 i with | some t => IH d.f5 t | none => []
theorem lH {d : GDag} (h : bA d = true) : d.f5.length ≤ 4 ∧ 1 ≤ d.f5.length ∧ dz d.f5 d.f5 0 = true ∧ co d.f5 ∧ (cy d.f5).length = d.f5.length := by
 unfold bA at h
 simp only [Bool.and_eq_true, beq_iff_eq] at h
 obtain ⟨_, _, _, _, h5, h6, h7⟩ := h
 have h4 : 1 ≤ d.f5.length ∧ d.f5.length ≤ 4 := by unfold aH at h5; simp at h5; omega
 exact ⟨h4.2, h4.1, h6, r9 h4.2 h6, by omega⟩
theorem xG {ts : List GTask} (h : dz ts ts 0 = true) {k : Nat} {t : GTask} (hk : ts[k]? = some t) : asc t.f0 t.f4 none = true ∧ ∀ n ∈ t.f4, 0 ≤ av ts n := by
 have := o9 ts ts 0 rfl h k t (Nat.zero_le _) hk
 unfold ia at this
 simp only [Bool.and_eq_true] at this
 exact ⟨this.2.2.2.2.1, fun n hn => of_decide_eq_true (List.all_eq_true.1 this.2.2.2.2.2 n hn)⟩
theorem AI (ts : List GTask) {a b : ByteArray} (h : tx a = tx b) : av ts a = av ts b := by
 rw [lh h]
theorem sP {ts : List GTask} {n : ByteArray} (h : 0 ≤ av ts n) : ∃ (k : Nat) (t : GTask), av ts n = (k : Int) ∧ ts[k]? = some t ∧ tx t.f0 = tx n := by
 unfold av at h ⊢
 rcases mi n ts 0 with ⟨h', _⟩ | ⟨k, t, h1, h2, h3⟩
 ·rw [h'] at h; omega
 ·unfold iD at h3
  rw [ja, decide_eq_true_eq] at h3
  exact ⟨k, t, by rw [h1]; omega, h2, h3⟩
theorem oN {l : List Int} (hn : l.Nodup) : (cq l).Pairwise (· < ·) ∧ ∀ x, x ∈ cq l ↔ x ∈ l := by
 have hs : (cq l).Pairwise (· ≤ ·) := by
  have := List.pairwise_mergeSort (le := fun x y : Int => decide (x ≤ y)) (fun a b c => by simp; omega) (fun a b => by simp; omega) l
  exact this.imp fun h => by simpa using h
 have hp : (cq l).Perm l := List.mergeSort_perm l _
 have hd : (cq l).Nodup := hp.nodup_iff.2 hn
 refine ⟨?_, fun x => hp.mem_iff⟩
 have := hs.and hd
 exact this.imp fun ⟨a, b⟩ => by omega
theorem zL {ts : List GTask} {t : GTask} (ha : asc t.f0 t.f4 none = true) (h0 : ∀ n ∈ t.f4, 0 ≤ av ts n) : (t.f4.map (av ts)).Nodup := by
 have hn := (qg t.f0 t.f4 none ha).1
 unfold List.Nodup at hn ⊢
 rw [List.pairwise_map] at hn ⊢
 refine hn.imp_of_mem fun {a b} hA hB hne e => ?_
 obtain ⟨k, u, e1, e2, e3⟩ := sP (h0 a hA)
 obtain ⟨j, v, g1, g2, g3⟩ := sP (h0 b hB)
 have : k = j := by omega
 subst this
 rw [e2] at g2
 cases g2
 exact hne (e3.symm.trans g3)
def gE (af : List ByteArray) : List GTask → Nat → List Int
 | [], _ => []
 | t :: r, k => (af.filter fun n => n.toList == t.f0.toList).map (fun _ => (k : Int)) ++ gE af r (k + 1)
theorem xc {x : ByteArray} : ∀ {l : List ByteArray}, (l.map tx).Nodup → (l.filter fun n => n.toList == x.toList).length ≤ 1
 | [], _ => by simp
 | y :: l, h => by
  rw [List.map_cons, List.nodup_cons] at h
  have ih := xc (x := x) h.2
  rw [List.filter_cons]
  split
  ·rename_i q
   rw [ja, decide_eq_true_eq] at q
   have : l.filter (fun n => n.toList == x.toList) = [] := by
    rw [List.filter_eq_nil_iff]
    intro z hz e
    rw [ja, decide_eq_true_eq] at e
    exact h.1 (List.mem_map.2 ⟨z, hz, e.trans q.symm⟩)
   rw [this]; simp
  ·exact ih
theorem xX {af : List ByteArray} (hn : (af.map tx).Nodup) : ∀ (l : List GTask) (k : Nat), (gE af l k).Pairwise (· < ·) ∧ (∀ x ∈ gE af l k, (k : Int) ≤ x) ∧ ∀ x, x ∈ gE af l k ↔ ∃ (j : Nat) (t : GTask), l[j]? = some t ∧ x = ((k + j : Nat) : Int) ∧ ∃ n ∈ af, tx n = tx t.f0
 | [], k => ⟨by simp [gE], fun x hx => by simp [gE] at hx, fun x => by simp [gE]⟩
 | t :: l, k => by
  obtain ⟨h1, h2, h3⟩ := xX hn l (k + 1)
  unfold gE
  have hf := xc (x := t.f0) hn
  have hmem : ∀ x, x ∈ (af.filter fun n => n.toList == t.f0.toList).map (fun _ => (k : Int)) ↔ x = (k : Int) ∧ ∃ n ∈ af, tx n = tx t.f0 := fun x => by
   rw [List.mem_map]
   constructor
   ·rintro ⟨n, hm, rfl⟩
    rw [List.mem_filter, ja, decide_eq_true_eq] at hm
    exact ⟨rfl, n, hm⟩
   ·rintro ⟨rfl, n, hm⟩
    exact ⟨n, by rw [List.mem_filter, ja, decide_eq_true_eq]; exact hm, rfl⟩
  refine ⟨?_, fun x hx => ?_, fun x => ?_⟩
  ·rw [List.pairwise_append]
   refine ⟨?_, h1, fun a ha b hb => ?_⟩
   ·generalize (af.filter fun n => n.toList == t.f0.toList) = L at hf
    match L, hf with
    | [], _ => simp
    | [y], _ => simp
    | y :: z :: w, hf => simp at hf
   ·have := ((hmem a).1 ha).1
    have := h2 b hb
    omega
  ·rcases List.mem_append.1 hx with hx | hx
   ·have := ((hmem x).1 hx).1; omega
   ·have := h2 x hx; omega
  ·rw [List.mem_append, hmem, h3]
   constructor
   ·rintro (⟨e, hn⟩ | ⟨j, u, e1, e2, hn⟩)
    ·exact ⟨0, t, rfl, by omega, hn⟩
    ·exact ⟨j + 1, u, e1, by omega, hn⟩
   ·rintro ⟨j, u, e1, e2, hn⟩
    cases j with
    | zero => cases e1; exact .inl ⟨by omega, hn⟩
    | succ j => exact .inr ⟨j, u, e1, by omega, hn⟩
theorem II {ts : List GTask} (hg : co ts) {t : GTask} (ha : asc t.f0 t.f4 none = true) (h0 : ∀ n ∈ t.f4, 0 ≤ av ts n) : gE t.f4 ts 0 = IH ts t := by
 obtain ⟨a1, -, a3⟩ := xX (qg t.f0 t.f4 none ha).1 ts 0
 obtain ⟨b1, b2⟩ := oN (zL ha h0)
 refine qy a1 b1 fun x => ?_
 rw [a3]
 show _ ↔ x ∈ cq _
 rw [b2, List.mem_map]
 constructor
 ·rintro ⟨j, u, e1, e2, n, hn, e3⟩
  refine ⟨n, hn, ?_⟩
  rw [AI ts e3, hg.2 j u e1]
  omega
 ·rintro ⟨n, hn, rfl⟩
  obtain ⟨k, u, e1, e2, e3⟩ := sP (h0 n hn)
  exact ⟨k, u, e2, by rw [e1]; omega, n, hn, e3.symm⟩
theorem HP (a b : ByteArray) (c e : Int) (ts : List GTask) (ht : ts.length ≤ 1050000) : ∀ (l : List ByteArray) (i : Nat) (z : Bool) (v : List Int), v.length + l.length ≤ 2000000 → jV a b c e ts l i z v = some (.x0 (v ++ l.map (av ts)))
 | [], i, z, v, _ => by unfold jV; simp
 | n :: l, i, z, v, hl => by
  simp only [List.length_cons] at hl
  unfold jV
  rw [if_pos (show (GDag.mk a b c e z ts).f5.length ≤ 1050000 from ht), if_pos (by simp; omega), HP a b c e ts ht l (i + 1) z _ (by simp; omega)]
  simp [bF]
theorem J8 (d : GDag) (i : Int) (h : ao.sm d) (hi : 0 ≤ i ∧ i < (d.f5.length : Int)) : ve d i = some (ups d i) := by
 have hs : ao.sm d.f5 := h.2.2
 obtain ⟨t, hg, hm⟩ := l4 hi
 have h4 : t.f4.length ≤ 1050000 := (hs.2 t hm).2.2.1
 unfold ve ups
 rw [hg, Option.bind_some, if_pos (by omega), HP _ _ _ _ _ hs.1 _ _ _ _ (by simp; omega), Option.bind_some]
 simp only [List.nil_append]
 rw [if_pos (by rw [List.length_map]; omega)]
 rfl
theorem C9 (ts : List GTask) (k : Nat) (u : GTask) (hu : ts[k]? = some u) : ∀ (l : List ByteArray) (i : Nat) (z : Bool) (v : List Int), v.length + l.length ≤ 8000000 → eZ ts (k : Int) l i z v = some (.x2 (v ++ (l.filter fun n => n.toList == u.f0.toList).map fun _ => (k : Int)))
 | [], i, z, v, _ => by unfold eZ; simp
 | n :: l, i, z, v, hl => by
  simp only [List.length_cons] at hl
  have hg : aI ts (k : Int) = some u := by rw [eR]; exact hu
  unfold eZ
  rw [hg, Option.bind_some, List.filter_cons]
  cases n.toList == u.f0.toList with
  | true => rw [cond_true, if_pos (by simp; omega), C9 ts k u hu l (i + 1) z _ (by simp; omega)]; simp
  | false => rw [cond_false, C9 ts k u hu l (i + 1) z v (by omega)]; simp
theorem HO (ts : List GTask) (i : Int) (t : GTask) (hg : aI ts i = some t) (h4 : t.f4.length ≤ 1050000) (hl4 : ts.length ≤ 4) : ∀ (l : List GTask) (k : Nat) (z : Bool) (v : List Int), ts.drop k = l → v.length + l.length * 1050000 ≤ 6000000 → fS i ts l k z v = some (.x0 (v ++ gE t.f4 l k))
 | [], k, z, v, _, _ => by unfold fS gE; rw [List.append_nil]
 | u :: l, k, z, v, hd, hv => by
  have hu : ts[k]? = some u := by rw [← List.head?_drop, hd]; rfl
  simp only [List.length_cons] at hv
  have hf := List.length_filter_le (fun n : ByteArray => n.toList == u.f0.toList) t.f4
  unfold fS gE
  rw [hg, Option.bind_some, if_pos (by omega), C9 ts k u hu _ _ _ _ (by omega), Option.bind_some]
  simp only
  rw [HO ts i t hg h4 hl4 l (k + 1) z _ (aG hd) (by simp; omega), List.append_assoc]
theorem J9 (d : GDag) (i : Int) (h : ao.sm d) (hd : bA d = true) (hi : 0 ≤ i ∧ i < (d.f5.length : Int)) : pc d i = some (ups d i) := by
 obtain ⟨h4, -, hr, hgn, -⟩ := lH hd
 have hs : ao.sm d.f5 := h.2.2
 obtain ⟨t, hg, hm⟩ := l4 hi
 have hf : t.f4.length ≤ 1050000 := (hs.2 t hm).2.2.1
 obtain ⟨h0, hk⟩ := iJ hg
 obtain ⟨ha, hn⟩ := xG hr hk
 unfold pc ups
 rw [if_pos (by omega), hg, HO d.f5 i t hg hf h4 d.f5 0 d.f4 [] rfl (by simp; omega), Option.bind_some]
 simp only [List.nil_append]
 rw [II hgn ha hn]
theorem HN {d : GDag} {i : Int} (hd : bA d = true) (hi : 0 ≤ i ∧ i < (d.f5.length : Int)) : (∀ x ∈ ups d i, 0 ≤ x ∧ x < (d.f5.length : Int)) ∧ (ups d i).length ≤ 4 := by
 obtain ⟨h4, -, hr, hgn, -⟩ := lH hd
 obtain ⟨t, hg, hm⟩ := l4 hi
 obtain ⟨h0, hk⟩ := iJ hg
 obtain ⟨ha, hn⟩ := xG hr hk
 have e : ups d i = IH d.f5 t := by unfold ups; rw [hg]
 obtain ⟨b1, b2⟩ := oN (zL ha hn)
 have hx : ∀ x ∈ ups d i, 0 ≤ x ∧ x < (d.f5.length : Int) := fun x hx => by
  rw [e] at hx
  obtain ⟨n, hm, rfl⟩ := List.mem_map.1 ((b2 x).1 hx)
  exact ⟨hn n hm, (Gi d.f5 n).2⟩
 refine ⟨hx, ?_⟩
 have := sD 0 ((d.f5.length : Int) - 1) (ups d i) 0 (by rw [e]; exact b1) (fun x h => by have := hx x h; omega) (by omega)
 omega
theorem Ew {q0 : Kd} (x0 : GDag) (x1 : Int) (h : ao.sm x0) (hd : bA x0 = true) (hi : 0 ≤ x1 ∧ x1 < (x0.f5.length : Int)) : Does E 30 [.agg (GDag.t .far q0 x0), .one (tI x1)] [(false, [.s .own () 1 ((ups x0 x1).map etI)])] := by
 exact Jf x0 x1 _ (J8 x0 x1 h hi)
theorem wS {q0 : Kd} (x0 : GDag) (x1 : Int) (h : ao.sm x0) (hd : bA x0 = true) (hi : 0 ≤ x1 ∧ x1 < (x0.f5.length : Int)) : Does E 26 [.agg (GDag.t .far q0 x0), .one (tI x1)] [(false, [.s .own () 1 ((ups x0 x1).map etI)])] := by
 exact Gf x0 x1 _ (J9 x0 x1 h hd hi)
noncomputable def xq (x0 : GDag) (x1 : Int) : Option (Bool) :=
  some (aH x1 (0 : Int) (IntKind.wrap .i64 ((x0.f5.length : Int) - (1 : Int))))
theorem FQ {q0 : Kd} (x0 : GDag) (x1 : Int) : Ans (xq x0 x1) (fun r => Does E 40 [.agg (GDag.t .far q0 x0), .one (tI x1)] [(false, [tB r])]) := by
 unfold xq
 exact K5 (K4 (fn := Tryz.f40) [.val (.int .i64 (x0.f5.length : Int)), .ret [(false, [tB (aH x1 (0 : Int) (IntKind.wrap .i64 ((x0.f5.length : Int) - (1 : Int))))])]] _ rfl (fun _ => rfl) (fun k => by kernel_rfl) (ALn x0.f5 (GTask.t q0) <| AD (cM x1 (0 : Int) (IntKind.wrap .i64 ((x0.f5.length : Int) - (1 : Int)))) <| AN))
def gL (d : GDag) (i : Int) : Bool := aH i 0 (IntKind.wrap .i64 ((d.f5.length : Int) - 1))
theorem og {d : GDag} {i : Int} (h : gL d i = true) (hs : ao.sm d) : 0 ≤ i ∧ i < (d.f5.length : Int) := DS h hs.2.2.1
theorem ko {q0 : Kd} (x0 : GDag) (x1 : Int) : Does E 40 [.agg (GDag.t .far q0 x0), .one (tI x1)] [(false, [tB (gL x0 x1)])] := by
 exact FQ x0 x1 _ rfl
noncomputable def nR (x0 : GDag) : Option ((List Int)) :=
  if ao.sm x0 then cond (bA x0)
   (if ao.sm x0.f5 then if co x0.f5 then some (cy x0.f5) else none else none)
   (some (([] : List Int))) else none
theorem Eg {q0 : Kd} (x0 : GDag) : Ans (nR x0) (fun r => Does E 15 [.agg (GDag.t .far q0 x0)] [(false, [.s .own () 1 (r.map etI)])]) := by
 unfold nR
 refine La (fun h0 => ?_)
 refine K8 (fun h1 => ?_) (fun h1 => ?_)
 ·refine La (fun h2 => ?_)
  refine La (fun h3 => ?_)
  exact K5 (K4 (fn := Tryz.f15) [rT, .ret [(false, [.s .own () 1 ((cy x0.f5).map etI)])]] _ rfl (fun _ => rfl) (fun k => by kernel_rfl) (AV (ψ := fun k => E.C k 32 [.agg (GDag.t .far q0 x0)] = some [(false, [tB true])]) (Lb (eI x0 h0) (by rw [h1])) <| AV (ψ := fun k => E.C k 37 [.one (.s .far () 5 (x0.f5.map (GTask.t q0)))] = some [(false, [.s .own () 1 ((cy x0.f5).map etI)])]) (pp x0.f5 h2 h3) <| AN))
 ·exact K5 (K4 (fn := Tryz.f15) [rF] _ rfl (fun _ => rfl) (fun k => by kernel_rfl) (AV (ψ := fun k => E.C k 32 [.agg (GDag.t .far q0 x0)] = some [(false, [tB false])]) (Lb (eI x0 h0) (by rw [h1])) <| AN))
noncomputable def nJ (x0 : GDag) : Option ((List Int)) :=
  if ao.sm x0 then cond (bA x0)
   (if co x0.f5 then some (dk x0) else none)
   (some (([] : List Int))) else none
theorem DL {q0 : Kd} (x0 : GDag) : Ans (nJ x0) (fun r => Does E 16 [.agg (GDag.t .far q0 x0)] [(false, [.s .own () 1 (r.map etI)])]) := by
 unfold nJ
 refine La (fun h0 => ?_)
 refine K8 (fun h1 => ?_) (fun h1 => ?_)
 ·refine La (fun h2 => ?_)
  exact K5 (K4 (fn := Tryz.f16) [rT, .ret [(false, [.s .own () 1 ((dk x0).map etI)])]] _ rfl (fun _ => rfl) (fun k => by kernel_rfl) (AV (ψ := fun k => E.C k 28 [.agg (GDag.t .far q0 x0)] = some [(false, [tB true])]) (Lb (fK x0 h0) (by rw [h1])) <| AV (ψ := fun k => E.C k 29 [.agg (GDag.t .far q0 x0)] = some [(false, [.s .own () 1 ((dk x0).map etI)])]) (qC x0 h0 h2) <| AN))
 ·exact K5 (K4 (fn := Tryz.f16) [rF] _ rfl (fun _ => rfl) (fun k => by kernel_rfl) (AV (ψ := fun k => E.C k 28 [.agg (GDag.t .far q0 x0)] = some [(false, [tB false])]) (Lb (fK x0 h0) (by rw [h1])) <| AN))
noncomputable def ai (d : GDag) : List Int := cond (bA d) (cy d.f5) []
theorem Cj (d : GDag) (h : ao.sm d) : nR d = some (ai d) ∧ nJ d = some (ai d) := by
 unfold nR nJ ai
 cases q : bA d with
 | false => refine ⟨?_, ?_⟩ <;> simp only [if_pos h] <;> rfl
 | true =>
  have hg := (lH q).2.2.2.1
  have hs : ao.sm d.f5 := h.2.2
  refine ⟨?_, ?_⟩ <;> simp only [if_pos h, if_pos hs, if_pos hg, cond_true] <;> rfl
theorem zu {ts : List GTask} (hg : co ts) : ∀ (k : Nat) (o : List Int), o.Nodup → (∀ x ∈ o, 0 ≤ x ∧ x < (ts.length : Int)) → (ir ts k o).Nodup ∧ ∀ x ∈ ir ts k o, 0 ≤ x ∧ x < (ts.length : Int)
 | 0, o, h1, h2 => ⟨h1, h2⟩
 | k + 1, o, h1, h2 => by
  unfold ir
  cases q : eA o ts ts 0 with
  | none => exact ⟨h1, h2⟩
  | some i =>
   obtain ⟨t, j, e1, e2, e3, e4⟩ := oC q
   have hij : i = j := by omega
   subst hij
   rw [hg.2 i t e2] at e3
   have hi : i < ts.length := by
    rcases Nat.lt_or_ge i ts.length with g | g
    ·exact g
    ·rw [List.getElem?_eq_none g] at e2; cases e2
   have hni : (i : Int) ∉ o := fun q => by rw [nb.2 q] at e3; cases e3
   refine zu hg k _ ?_ fun x hx => ?_
   ·rw [List.nodup_append]
    exact ⟨h1, by simp, fun a ha b hb e => by rw [List.mem_singleton] at hb; subst hb; subst e; exact hni ha⟩
   ·rcases List.mem_append.1 hx with hx | hx
    ·exact h2 x hx
    ·rw [List.mem_singleton] at hx; subst hx; omega
theorem Hm {ts : List GTask} (hg : co ts) : (cy ts).Nodup ∧ ∀ x ∈ cy ts, 0 ≤ x ∧ x < (ts.length : Int) := zu hg _ _ (by simp) (fun x hx => by cases hx)
theorem mb {l : List Int} (h : l.length ≤ 1050000) : ao.sm l := ⟨h, fun y _ => trivial⟩
theorem HG (d : GDag) : ao.sm (ai d) := by
 unfold ai
 cases q : bA d with
 | false => exact mb (by simp)
 | true =>
  obtain ⟨h4, -, -, -, h5⟩ := lH q
  exact mb (by rw [cond_true]; omega)
theorem jk {q0 : Kd} (x0 : GDag) (h : ao.sm x0) : Does E 15 [.agg (GDag.t .far q0 x0)] [(false, [.s .own () 1 ((ai x0).map etI)])] := by
 exact Eg x0 _ (Cj x0 h).1
theorem gU {q0 : Kd} (x0 : GDag) (h : ao.sm x0) : Does E 16 [.agg (GDag.t .far q0 x0)] [(false, [.s .own () 1 ((ai x0).map etI)])] := by
 exact DL x0 _ (Cj x0 h).2
end Go.Proofs.YtjfbofdmjihglaaGreatDoor.Am
namespace Go.Proofs.YtjfbofdmjihglaaGreatDoor.Am
open Go Go.Proofs Classical
set_option maxRecDepth 100000
set_option linter.unusedVariables false
set_option linter.unusedSimpArgs false
inductive rx where
 | ret (v4 : Int)
 | x0 (v1 : Int)
def fW (v0 : List ByteArray) (v1 v5 : Int) : US := stL 28 [(0, .one (.s .far () 1 (v0.map etS))), (1, .one (tI v1)), (5, .one (tI v5))]
def kY (zv4 : Int) : US := stL 28 [(4, .one (tI zv4))]
def lN (zv1 : Int) : US := stL 28 [(1, .one (tI zv1))]
abbrev ni : US → Exit → US → Prop := Round E 66 (ax Tryz.f66 0)
def yA (v0 : List ByteArray) (v1 v5 : Int) : rx → Prop
 | .ret zv4 => Loops E 66 (ax Tryz.f66 0) (fW v0 v1 v5) .ret (kY zv4)
 | .x0 zv1 => Loops E 66 (ax Tryz.f66 0) (fW v0 v1 v5) (.exit 0) (lN zv1)
noncomputable def dj  : List ByteArray → Nat → Int → Option rx
 | [], i, v1 => some (.x0 v1)
 | hd :: rest, i, v1 => cond (decide ((IntKind.wrap .i64 (v1 - (hd.size : Int))) < (0 : Int)))
  (some (.ret (-1 : Int)))
  (dj rest (i + 1) (IntKind.wrap .i64 (v1 - (hd.size : Int))))
theorem yz (v0 : List ByteArray) (rest : List ByteArray) : ∀ (i : Nat) (v1 : Int), (v0).drop i = rest → v0.length ≤ 9223372036854775807 → Ans (dj rest i v1) (yA v0 v1 (i : Int)) := by
 induction rest with
 | nil =>
  intro i v1 hE hl
  have hb := bh hE
  unfold dj
  exact K5 (K7 (show ni (fW v0 v1 (i : Int)) (.exit 0) (lN v1) from K3 [.val (.int .i64 (v0.length : Int)), .b false] _ (fun k => by kernel_rfl) (ALn v0 etS <| AC hb <| AN)) (by intro h; cases h))
 | cons hd rest ih =>
  intro i v1 hE hl
  have hb := aS hE
  have hw := aT hE hl
  have hE2 := aG hE
  have hg := aX hE
  unfold dj
  refine K8 (fun h2 => ?_) (fun h2 => ?_)
  ·exact K5 (K7 (show ni (fW v0 v1 (i : Int)) .ret (kY (-1 : Int)) from K3 [.val (.int .i64 (v0.length : Int)), .b true, .row (etS hd), .no, .b true] _ (fun k => by kernel_rfl) (ALn v0 etS <| AC hb <| AR etS hg <| AC h2 <| AN)) (by intro h; cases h))
  ·exact (ih (i + 1) (IntKind.wrap .i64 (v1 - (hd.size : Int))) hE2 hl).mono fun y hy => by have r : ni (fW v0 v1 (i : Int)) .normal (fW v0 (IntKind.wrap .i64 (v1 - (hd.size : Int))) (inc (i : Int))) := K3 [.val (.int .i64 (v0.length : Int)), .b true, .row (etS hd), .no, .b false] _ (fun k => by kernel_rfl) (ALn v0 etS <| AC hb <| AR etS hg <| AC h2 <| AN); rw [hw] at r; cases y <;> exact K6 r hy
noncomputable def gz (x0 : List ByteArray) (x1 : Int) : Option (Int) :=
  cond (decide ((IntKind.wrap .i64 (x1 - (x0.length : Int))) < (0 : Int)))
   (some ((-1 : Int)))
   (if x0.length ≤ 9223372036854775807 then (dj x0 0 (IntKind.wrap .i64 (x1 - (x0.length : Int)))).bind fun y => match y with
    | .ret w0_4 => (some (w0_4))
    | .x0 w0_1 => (some (w0_1)) else none)
theorem Ai (x0 : List ByteArray) (x1 : Int) : Ans (gz x0 x1) (fun r => Does E 66 [.one (.s .far () 1 (x0.map etS)), .one (tI x1)] [(false, [tI r])]) := by
 unfold gz
 refine K8 (fun h0 => ?_) (fun h0 => ?_)
 ·exact K5 (K4 (fn := Tryz.f66) [.val (.int .i64 (x0.length : Int)), .no, .b true] _ rfl (fun _ => rfl) (fun k => by kernel_rfl) (ALn x0 etS <| AC h0 <| AN))
 ·refine La (fun hl2 => ?_)
  refine K9 (fun y hy => ?_)
  replace hy := yz x0 x0 0 (IntKind.wrap .i64 (x1 - (x0.length : Int))) rfl hl2 y hy
  cases y with
  | ret w0_4 =>
   have h1 := hy
   exact K5 (K4 (fn := Tryz.f66) [.val (.int .i64 (x0.length : Int)), .no, .b false, .lp .ret (kY w0_4)] _ rfl (fun _ => rfl) (fun k => by kernel_rfl) (ALn x0 etS <| AC h0 <| AL h1 <| AN))
  | x0 w0_1 =>
   have h1 := hy
   exact K5 (K4 (fn := Tryz.f66) [.val (.int .i64 (x0.length : Int)), .no, .b false, .lp (.exit 0) (lN w0_1)] _ rfl (fun _ => rfl) (fun k => by kernel_rfl) (ALn x0 etS <| AC h0 <| AL h1 <| AN))
noncomputable def df (x : List ByteArray) (n : Int) : Int := (gz x n).getD (-1)
theorem rL : ∀ (rest : List ByteArray) (i : Nat) (n : Int), (∀ y ∈ rest, Wf.wf y) → Tot (dj rest i n)
 | [], i, n, _ => Tot.some _
 | x :: rest, i, n, h => by
  have hx := h x (by simp)
  have ih := fun i n => rL rest i n fun y hy => h y (by simp [hy])
  unfold dj
  repeat' (first | exact Tot.some _ | exact ih _ _ | apply Tot.cond | refine Tot.ite (by assumption) ?_)
theorem qA (x : List ByteArray) (n : Int) (h : Wf.wf x) : gz x n = some (df x n) := by
 refine Tot.getD ?_ _
 unfold gz
 refine Tot.cond (Tot.some _) ?_
 refine Tot.ite h.1 (Tot.bind (rL x 0 _ h.2) fun y hy => ?_)
 cases y <;> exact Tot.some _
theorem sU (x0 : List ByteArray) (x1 : Int) (h : Wf.wf x0) : Does E 66 [.one (.s .far () 1 (x0.map etS)), .one (tI x1)] [(false, [tI (df x0 x1)])] := by
 exact Ai x0 x1 _ (qA x0 x1 h)
theorem qr : ∀ (rest : List ByteArray) (i : Nat) (n : Int), (∀ y ∈ rest, Wf.wf y) → 0 ≤ n → n ≤ 1048576 → ∀ y, dj rest i n = some y →
  (∃ m, y = .x0 m ∧ 0 ≤ m ∧ m ≤ n ∧ ∀ z ∈ rest, ao.sm z) ∨ ∃ m, y = .ret m ∧ m < 0
 | [], i, n, _, h0, h1, y, e => by cases e; exact .inl ⟨n, rfl, h0, Int.le_refl _, fun z hz => by cases hz⟩
 | x :: rest, i, n, h, h0, h1, y, e => by
  have hx := h x (by simp)
  unfold dj at e
  try rw [if_pos hx] at e
  by_cases q : IntKind.wrap .i64 (n - (x.size : Int)) < 0
  ·rw [decide_eq_true q, cond_true] at e
   cases e
   exact .inr ⟨_, rfl, by omega⟩
  ·rw [decide_eq_false q, cond_false] at e
   try rw [if_pos hx] at e
   obtain ⟨b, c⟩ := sO h0 h1 hx (by omega)
   rcases qr rest _ _ (fun y hy => h y (by simp [hy])) (by omega) (by omega) y e with ⟨m, g1, g2, g3, g4⟩ | g
   ·refine .inl ⟨m, g1, g2, by omega, fun z hz => ?_⟩
    rcases List.mem_cons.1 hz with rfl | hz
    ·exact lR c
    ·exact g4 z hz
   ·exact .inr g
theorem yD (x : List ByteArray) (n : Int) (hw : Wf.wf x) (h0 : 0 ≤ n) (h1 : n ≤ 1048576) (h : 0 ≤ df x n) : df x n ≤ n ∧ ao.sm x := by
 have e := qA x n hw
 generalize df x n = r at *
 unfold gz at e
 obtain ⟨a1, e⟩ := oh e h
 obtain ⟨b1, c1⟩ := sO (n := n) (k := x.length) h0 h1 hw.1 a1
 rw [if_pos hw.1, Option.bind_eq_some_iff] at e
 obtain ⟨y, e1, e2⟩ := e
 rcases qr x 0 _ hw.2 a1 (by omega) y e1 with ⟨m, rfl, g2, g3, g4⟩ | ⟨m, rfl, g⟩
 ·cases e2; exact ⟨by omega, lR c1, g4⟩
 ·cases e2; omega
noncomputable def kB (x0 : GTask) (x1 : Int) : Option (Int) :=
  cond (decide ((IntKind.wrap .i64 (x1 - (x0.f0.size : Int))) < (0 : Int)))
   (some ((-1 : Int)))
   (cond (decide ((IntKind.wrap .i64 ((IntKind.wrap .i64 (x1 - (x0.f0.size : Int))) - (x0.f1.size : Int))) < (0 : Int)))
    (some ((-1 : Int)))
    (if Wf.wf x0.f4 then cond (decide ((df x0.f4 (IntKind.wrap .i64 ((IntKind.wrap .i64 (x1 - (x0.f0.size : Int))) - (x0.f1.size : Int)))) < (0 : Int)))
     (some ((-1 : Int)))
     (some (df x0.f4 (IntKind.wrap .i64 ((IntKind.wrap .i64 (x1 - (x0.f0.size : Int))) - (x0.f1.size : Int))))) else none))
theorem FW (x0 : GTask) (x1 : Int) : Ans (kB x0 x1) (fun r => Does E 42 [.agg (GTask.t .far x0), .one (tI x1)] [(false, [tI r])]) := by
 unfold kB
 refine K8 (fun h0 => ?_) (fun h0 => ?_)
 ·exact K5 (K4 (fn := Tryz.f42) [.no, .b true] _ rfl (fun _ => rfl) (fun k => by kernel_rfl) (AC h0 <| AN))
 ·refine K8 (fun h1 => ?_) (fun h1 => ?_)
  ·exact K5 (K4 (fn := Tryz.f42) [.no, .b false, .no, .b true] _ rfl (fun _ => rfl) (fun k => by kernel_rfl) (AC h0 <| AC h1 <| AN))
  ·refine La (fun h2 => ?_)
   refine K8 (fun h3 => ?_) (fun h3 => ?_)
   ·exact K5 (K4 (fn := Tryz.f42) [.no, .b false, .no, .b false, .ret [(false, [tI (df x0.f4 (IntKind.wrap .i64 ((IntKind.wrap .i64 (x1 - (x0.f0.size : Int))) - (x0.f1.size : Int))))])], .b true] _ rfl (fun _ => rfl) (fun k => by kernel_rfl) (AC h0 <| AC h1 <| AD (sU x0.f4 (IntKind.wrap .i64 ((IntKind.wrap .i64 (x1 - (x0.f0.size : Int))) - (x0.f1.size : Int))) h2) <| AC h3 <| AN))
   ·exact K5 (K4 (fn := Tryz.f42) [.no, .b false, .no, .b false, .ret [(false, [tI (df x0.f4 (IntKind.wrap .i64 ((IntKind.wrap .i64 (x1 - (x0.f0.size : Int))) - (x0.f1.size : Int))))])], .b false] _ rfl (fun _ => rfl) (fun k => by kernel_rfl) (AC h0 <| AC h1 <| AD (sU x0.f4 (IntKind.wrap .i64 ((IntKind.wrap .i64 (x1 - (x0.f0.size : Int))) - (x0.f1.size : Int))) h2) <| AC h3 <| AN))
noncomputable def dQ (x : GTask) (n : Int) : Int := (kB x n).getD (-1)
theorem u6 (x : GTask) (n : Int) (h : Wf.wf x) : kB x n = some (dQ x n) := by
 obtain ⟨w0, w1, w4⟩ := h
 refine Tot.getD ?_ _
 unfold kB
 repeat' (first | exact Tot.some _ | apply Tot.cond | refine Tot.ite (by assumption) ?_)
theorem wQ (x0 : GTask) (x1 : Int) (h : Wf.wf x0) : Does E 42 [.agg (GTask.t .far x0), .one (tI x1)] [(false, [tI (dQ x0 x1)])] := by
 exact FW x0 x1 _ (u6 x0 x1 h)
theorem D5 (x : GTask) (n : Int) (hw : Wf.wf x) (h0 : 0 ≤ n) (h1 : n ≤ 1048576) (h : 0 ≤ dQ x n) : dQ x n ≤ n ∧ ao.sm x := by
 have e := u6 x n hw
 obtain ⟨w0, w1, w4⟩ := hw
 generalize dQ x n = r at *
 unfold kB at e
 obtain ⟨a1, e⟩ := oh e h
 obtain ⟨b1, c1⟩ := sO (n := n) (k := x.f0.size) h0 (by omega) w0 a1
 generalize IntKind.wrap .i64 (n - (x.f0.size : Int)) = m1 at *
 obtain ⟨a2, e⟩ := oh e h
 obtain ⟨b2, c2⟩ := sO (n := m1) (k := x.f1.size) a1 (by omega) w1 a2
 generalize IntKind.wrap .i64 (m1 - (x.f1.size : Int)) = m2 at *
 try rw [if_pos w4] at e
 obtain ⟨a3, e⟩ := oh e h
 try rw [if_pos w4] at e
 obtain ⟨b3, c3⟩ := yD x.f4 m2 w4 a2 (by omega) a3
 generalize df x.f4 m2 = m3 at *
 cases e
 exact ⟨by omega, ⟨lR c1, lR c2, c3⟩⟩
inductive uA where
 | ret (v4 : Int)
 | x0 (v1 : Int)
def iq (q0 : Kd) (v0 : List GTask) (v1 v5 : Int) : US := stL 27 [(0, .one (.s .far () 5 (v0.map (GTask.t q0)))), (1, .one (tI v1)), (5, .one (tI v5))]
def mH (q0 : Kd) (zv4 : Int) : US := stL 27 [(4, .one (tI zv4))]
def nj (q0 : Kd) (zv1 : Int) : US := stL 27 [(1, .one (tI zv1))]
abbrev pK : US → Exit → US → Prop := Round E 25 (ax Tryz.f25 0)
def B5 {q0 : Kd} (v0 : List GTask) (v1 v5 : Int) : uA → Prop
 | .ret zv4 => Loops E 25 (ax Tryz.f25 0) (iq q0 v0 v1 v5) .ret (mH q0 zv4)
 | .x0 zv1 => Loops E 25 (ax Tryz.f25 0) (iq q0 v0 v1 v5) (.exit 0) (nj q0 zv1)
noncomputable def ez  : List GTask → Nat → Int → Option uA
 | [], i, v1 => some (.x0 v1)
 | hd :: rest, i, v1 => if Wf.wf hd then cond (decide ((dQ hd v1) < (0 : Int)))
  (some (.ret (-1 : Int)))
  (ez rest (i + 1) (dQ hd v1)) else none
theorem B4 {q0 : Kd} (v0 : List GTask) (rest : List GTask) : ∀ (i : Nat) (v1 : Int), (v0).drop i = rest → v0.length ≤ 9223372036854775807 → Ans (ez rest i v1) (B5 (q0 := q0) v0 v1 (i : Int)) := by
 induction rest with
 | nil =>
  intro i v1 hE hl
  have hb := bh hE
  unfold ez
  exact K5 (K7 (show pK (iq q0 v0 v1 (i : Int)) (.exit 0) (nj q0 v1) from K3 [.val (.int .i64 (v0.length : Int)), .b false] _ (fun k => by kernel_rfl) (ALn v0 (GTask.t q0) <| AC hb <| AN)) (by intro h; cases h))
 | cons hd rest ih =>
  intro i v1 hE hl
  have hb := aS hE
  have hw := aT hE hl
  have hE2 := aG hE
  have hg := aX hE
  unfold ez
  refine La (fun h2 => ?_)
  refine K8 (fun h3 => ?_) (fun h3 => ?_)
  ·exact K5 (K7 (show pK (iq q0 v0 v1 (i : Int)) .ret (mH q0 (-1 : Int)) from K3 [.val (.int .i64 (v0.length : Int)), .b true, .row ((GTask.t q0) hd), .ret [(false, [tI (dQ hd v1)])], .b true] _ (fun k => by kernel_rfl) (ALn v0 (GTask.t q0) <| AC hb <| AR (GTask.t q0) hg <| AD (wQ hd v1 h2) <| AC h3 <| AN)) (by intro h; cases h))
  ·exact (ih (i + 1) (dQ hd v1) hE2 hl).mono fun y hy => by have r : pK (iq q0 v0 v1 (i : Int)) .normal (iq q0 v0 (dQ hd v1) (inc (i : Int))) := K3 [.val (.int .i64 (v0.length : Int)), .b true, .row ((GTask.t q0) hd), .ret [(false, [tI (dQ hd v1)])], .b false] _ (fun k => by kernel_rfl) (ALn v0 (GTask.t q0) <| AC hb <| AR (GTask.t q0) hg <| AD (wQ hd v1 h2) <| AC h3 <| AN); rw [hw] at r; cases y <;> exact K6 r hy
noncomputable def jp (x0 : List GTask) (x1 : Int) : Option (Int) :=
  cond (decide ((IntKind.wrap .i64 (x1 - (x0.length : Int))) < (0 : Int)))
   (some ((-1 : Int)))
   (if x0.length ≤ 9223372036854775807 then (ez x0 0 (IntKind.wrap .i64 (x1 - (x0.length : Int)))).bind fun y => match y with
    | .ret w0_4 => (some (w0_4))
    | .x0 w0_1 => (some (w0_1)) else none)
theorem DY {q0 : Kd} (x0 : List GTask) (x1 : Int) : Ans (jp x0 x1) (fun r => Does E 25 [.one (.s .far () 5 (x0.map (GTask.t q0))), .one (tI x1)] [(false, [tI r])]) := by
 unfold jp
 refine K8 (fun h0 => ?_) (fun h0 => ?_)
 ·exact K5 (K4 (fn := Tryz.f25) [.val (.int .i64 (x0.length : Int)), .no, .b true] _ rfl (fun _ => rfl) (fun k => by kernel_rfl) (ALn x0 (GTask.t q0) <| AC h0 <| AN))
 ·refine La (fun hl2 => ?_)
  refine K9 (fun y hy => ?_)
  replace hy := B4 (q0 := q0) x0 x0 0 (IntKind.wrap .i64 (x1 - (x0.length : Int))) rfl hl2 y hy
  cases y with
  | ret w0_4 =>
   have h1 := hy
   exact K5 (K4 (fn := Tryz.f25) [.val (.int .i64 (x0.length : Int)), .no, .b false, .lp .ret (mH q0 w0_4)] _ rfl (fun _ => rfl) (fun k => by kernel_rfl) (ALn x0 (GTask.t q0) <| AC h0 <| AL h1 <| AN))
  | x0 w0_1 =>
   have h1 := hy
   exact K5 (K4 (fn := Tryz.f25) [.val (.int .i64 (x0.length : Int)), .no, .b false, .lp (.exit 0) (nj q0 w0_1)] _ rfl (fun _ => rfl) (fun k => by kernel_rfl) (ALn x0 (GTask.t q0) <| AC h0 <| AL h1 <| AN))
noncomputable def dg (x : List GTask) (n : Int) : Int := (jp x n).getD (-1)
theorem u5 : ∀ (rest : List GTask) (i : Nat) (n : Int), (∀ y ∈ rest, Wf.wf y) → Tot (ez rest i n)
 | [], i, n, _ => Tot.some _
 | x :: rest, i, n, h => by
  have hx := h x (by simp)
  have ih := fun i n => u5 rest i n fun y hy => h y (by simp [hy])
  unfold ez
  repeat' (first | exact Tot.some _ | exact ih _ _ | apply Tot.cond | refine Tot.ite (by assumption) ?_)
theorem tz (x : List GTask) (n : Int) (h : Wf.wf x) : jp x n = some (dg x n) := by
 refine Tot.getD ?_ _
 unfold jp
 refine Tot.cond (Tot.some _) ?_
 refine Tot.ite h.1 (Tot.bind (u5 x 0 _ h.2) fun y hy => ?_)
 cases y <;> exact Tot.some _
theorem vl {q0 : Kd} (x0 : List GTask) (x1 : Int) (h : Wf.wf x0) : Does E 25 [.one (.s .far () 5 (x0.map (GTask.t q0))), .one (tI x1)] [(false, [tI (dg x0 x1)])] := by
 exact DY x0 x1 _ (tz x0 x1 h)
theorem tc : ∀ (rest : List GTask) (i : Nat) (n : Int), (∀ y ∈ rest, Wf.wf y) → 0 ≤ n → n ≤ 1048576 → ∀ y, ez rest i n = some y →
  (∃ m, y = .x0 m ∧ 0 ≤ m ∧ m ≤ n ∧ ∀ z ∈ rest, ao.sm z) ∨ ∃ m, y = .ret m ∧ m < 0
 | [], i, n, _, h0, h1, y, e => by cases e; exact .inl ⟨n, rfl, h0, Int.le_refl _, fun z hz => by cases hz⟩
 | x :: rest, i, n, h, h0, h1, y, e => by
  have hx := h x (by simp)
  unfold ez at e
  try rw [if_pos hx] at e
  by_cases q : dQ x n < 0
  ·rw [decide_eq_true q, cond_true] at e
   cases e
   exact .inr ⟨_, rfl, by omega⟩
  ·rw [decide_eq_false q, cond_false] at e
   try rw [if_pos hx] at e
   obtain ⟨b, c⟩ := D5 x n hx h0 h1 (by omega)
   rcases tc rest _ _ (fun y hy => h y (by simp [hy])) (by omega) (by omega) y e with ⟨m, g1, g2, g3, g4⟩ | g
   ·refine .inl ⟨m, g1, g2, by omega, fun z hz => ?_⟩
    rcases List.mem_cons.1 hz with rfl | hz
    ·exact c
    ·exact g4 z hz
   ·exact .inr g
theorem B8 (x : List GTask) (n : Int) (hw : Wf.wf x) (h0 : 0 ≤ n) (h1 : n ≤ 1048576) (h : 0 ≤ dg x n) : dg x n ≤ n ∧ ao.sm x := by
 have e := tz x n hw
 generalize dg x n = r at *
 unfold jp at e
 obtain ⟨a1, e⟩ := oh e h
 obtain ⟨b1, c1⟩ := sO (n := n) (k := x.length) h0 h1 hw.1 a1
 rw [if_pos hw.1, Option.bind_eq_some_iff] at e
 obtain ⟨y, e1, e2⟩ := e
 rcases tc x 0 _ hw.2 a1 (by omega) y e1 with ⟨m, rfl, g2, g3, g4⟩ | ⟨m, rfl, g⟩
 ·cases e2; exact ⟨by omega, lR c1, g4⟩
 ·cases e2; omega
noncomputable def l7 (x0 : LDag) (x1 : Int) : Option (Int) :=
  cond (decide ((IntKind.wrap .i64 (x1 - (x0.f0.size : Int))) < (0 : Int)))
   (some ((-1 : Int)))
   (cond (decide ((IntKind.wrap .i64 ((IntKind.wrap .i64 (x1 - (x0.f0.size : Int))) - (x0.f1.size : Int))) < (0 : Int)))
    (some ((-1 : Int)))
    (if Wf.wf x0.f5 then cond (decide ((dg x0.f5 (IntKind.wrap .i64 ((IntKind.wrap .i64 (x1 - (x0.f0.size : Int))) - (x0.f1.size : Int)))) < (0 : Int)))
     (some ((-1 : Int)))
     (some (dg x0.f5 (IntKind.wrap .i64 ((IntKind.wrap .i64 (x1 - (x0.f0.size : Int))) - (x0.f1.size : Int))))) else none))
theorem Hc {q0 : Kd} (x0 : LDag) (x1 : Int) : Ans (l7 x0 x1) (fun r => Does E 8 [.agg (LDag.t .far q0 x0), .one (tI x1)] [(false, [tI r])]) := by
 unfold l7
 refine K8 (fun h0 => ?_) (fun h0 => ?_)
 ·exact K5 (K4 (fn := Tryz.f8) [.no, .b true] _ rfl (fun _ => rfl) (fun k => by kernel_rfl) (AC h0 <| AN))
 ·refine K8 (fun h1 => ?_) (fun h1 => ?_)
  ·exact K5 (K4 (fn := Tryz.f8) [.no, .b false, .no, .b true] _ rfl (fun _ => rfl) (fun k => by kernel_rfl) (AC h0 <| AC h1 <| AN))
  ·refine La (fun h2 => ?_)
   refine K8 (fun h3 => ?_) (fun h3 => ?_)
   ·exact K5 (K4 (fn := Tryz.f8) [.no, .b false, .no, .b false, .ret [(false, [tI (dg x0.f5 (IntKind.wrap .i64 ((IntKind.wrap .i64 (x1 - (x0.f0.size : Int))) - (x0.f1.size : Int))))])], .b true] _ rfl (fun _ => rfl) (fun k => by kernel_rfl) (AC h0 <| AC h1 <| AV (ψ := fun k => E.C k 25 [.one (.s .far () 5 (x0.f5.map (GTask.t q0))), .one (tI (IntKind.wrap .i64 ((IntKind.wrap .i64 (x1 - (x0.f0.size : Int))) - (x0.f1.size : Int))))] = some [(false, [tI (dg x0.f5 (IntKind.wrap .i64 ((IntKind.wrap .i64 (x1 - (x0.f0.size : Int))) - (x0.f1.size : Int))))])]) (vl x0.f5 (IntKind.wrap .i64 ((IntKind.wrap .i64 (x1 - (x0.f0.size : Int))) - (x0.f1.size : Int))) h2) <| AC h3 <| AN))
   ·exact K5 (K4 (fn := Tryz.f8) [.no, .b false, .no, .b false, .ret [(false, [tI (dg x0.f5 (IntKind.wrap .i64 ((IntKind.wrap .i64 (x1 - (x0.f0.size : Int))) - (x0.f1.size : Int))))])], .b false] _ rfl (fun _ => rfl) (fun k => by kernel_rfl) (AC h0 <| AC h1 <| AV (ψ := fun k => E.C k 25 [.one (.s .far () 5 (x0.f5.map (GTask.t q0))), .one (tI (IntKind.wrap .i64 ((IntKind.wrap .i64 (x1 - (x0.f0.size : Int))) - (x0.f1.size : Int))))] = some [(false, [tI (dg x0.f5 (IntKind.wrap .i64 ((IntKind.wrap .i64 (x1 - (x0.f0.size : Int))) - (x0.f1.size : Int))))])]) (vl x0.f5 (IntKind.wrap .i64 ((IntKind.wrap .i64 (x1 - (x0.f0.size : Int))) - (x0.f1.size : Int))) h2) <| AC h3 <| AN))
noncomputable def aC (x : LDag) (n : Int) : Int := (l7 x n).getD (-1)
theorem vY (x : LDag) (n : Int) (h : Wf.wf x) : l7 x n = some (aC x n) := by
 obtain ⟨w0, w1, w5⟩ := h
 refine Tot.getD ?_ _
 unfold l7
 repeat' (first | exact Tot.some _ | apply Tot.cond | refine Tot.ite (by assumption) ?_)
theorem bz {q0 : Kd} (x0 : LDag) (x1 : Int) (h : Wf.wf x0) : Does E 8 [.agg (LDag.t .far q0 x0), .one (tI x1)] [(false, [tI (aC x0 x1)])] := by
 exact Hc x0 x1 _ (vY x0 x1 h)
theorem o7 (x : LDag) (n : Int) (hw : Wf.wf x) (h0 : 0 ≤ n) (h1 : n ≤ 1048576) (h : 0 ≤ aC x n) : aC x n ≤ n ∧ ao.sm x := by
 have e := vY x n hw
 obtain ⟨w0, w1, w5⟩ := hw
 generalize aC x n = r at *
 unfold l7 at e
 obtain ⟨a1, e⟩ := oh e h
 obtain ⟨b1, c1⟩ := sO (n := n) (k := x.f0.size) h0 (by omega) w0 a1
 generalize IntKind.wrap .i64 (n - (x.f0.size : Int)) = m1 at *
 obtain ⟨a2, e⟩ := oh e h
 obtain ⟨b2, c2⟩ := sO (n := m1) (k := x.f1.size) a1 (by omega) w1 a2
 generalize IntKind.wrap .i64 (m1 - (x.f1.size : Int)) = m2 at *
 try rw [if_pos w5] at e
 obtain ⟨a3, e⟩ := oh e h
 try rw [if_pos w5] at e
 obtain ⟨b3, c3⟩ := B8 x.f5 m2 w5 a2 (by omega) a3
 generalize dg x.f5 m2 = m3 at *
 cases e
 exact ⟨by omega, ⟨lR c1, lR c2, c3⟩⟩
inductive rz where
 | x0 (v3 : List ByteArray)
def kC (v0 v3 : List ByteArray) (v4 : Int) : US := stL 22 [(0, .one (.s .far () 1 (v0.map etS))), (3, .one (.s .own () 1 (v3.map etS))), (4, .one (tI v4))]
def lO (zv3 : List ByteArray) : US := stL 22 [(3, .one (.s .own () 1 (zv3.map etS)))]
abbrev ry : US → Exit → US → Prop := Round E 67 (ax Tryz.f67 0)
def yC (v0 v3 : List ByteArray) (v4 : Int) : rz → Prop
 | .x0 zv3 => Loops E 67 (ax Tryz.f67 0) (kC v0 v3 v4) (.exit 0) (lO zv3)
noncomputable def d9  : List ByteArray → Nat → (List ByteArray) → Option rz
 | [], i, v3 => some (.x0 v3)
 | hd :: rest, i, v3 => (aI v3 (i : Int)).bind fun g1 => d9 rest (i + 1) (v3.set (i : Int).toNat hd)
theorem yB (v0 : List ByteArray) (rest : List ByteArray) : ∀ (i : Nat) (v3 : List ByteArray), (v0).drop i = rest → v0.length ≤ 9223372036854775807 → Ans (d9 rest i v3) (yC v0 v3 (i : Int)) := by
 induction rest with
 | nil =>
  intro i v3 hE hl
  have hb := bh hE
  unfold d9
  exact K5 (K7 (show ry (kC v0 v3 (i : Int)) (.exit 0) (lO v3) from K3 [.val (.int .i64 (v0.length : Int)), .b false] _ (fun k => by kernel_rfl) (ALn v0 etS <| AC hb <| AN)) (by intro h; cases h))
 | cons hd rest ih =>
  intro i v3 hE hl
  have hb := aS hE
  have hw := aT hE hl
  have hE2 := aG hE
  have hg := aX hE
  unfold d9
  refine K9 (fun g1 h2 => ?_)
  exact (ih (i + 1) (v3.set (i : Int).toNat hd) hE2 hl).mono fun y hy => by have r : ry (kC v0 v3 (i : Int)) .normal (kC v0 (v3.set (i : Int).toNat hd) (inc (i : Int))) := K3 [.val (.int .i64 (v0.length : Int)), .b true, .row (etS hd), .row (etS g1), .rows ((v3.set (i : Int).toNat hd).map etS)] _ (fun k => by kernel_rfl) (ALn v0 etS <| AC hb <| AR etS hg <| AG etS h2 <| AC (p := (v3.map etS).set (0 + (i : Int).toNat) (ay (etS g1) 0 [tS hd]) = (v3.set (i : Int).toNat hd).map etS) (ea (by rfl)) <| AN); rw [hw] at r; cases y <;> exact K6 r hy
noncomputable def oB (x0 : List ByteArray) : Option ((List ByteArray)) :=
  if 0 ≤ (x0.length : Int) ∧ (x0.length : Int) ≤ (x0.length : Int) ∧ ((16 : Nat) : Int) * (x0.length : Int) ≤ 281474976710656 ∧ (x0.length : Int) ≤ 4611686018427387904 then if x0.length ≤ 9223372036854775807 then (d9 x0 0 (List.replicate (x0.length : Int).toNat ByteArray.empty)).bind fun y => match y with
   | .x0 w0_3 => (some (w0_3)) else none else none
theorem Aj (x0 : List ByteArray) : Ans (oB x0) (fun r => Does E 67 [.one (.s .far () 1 (x0.map etS))] [(false, [.s .own () 1 (r.map etS)])]) := by
 unfold oB
 refine La (fun h0 => ?_)
 refine La (fun hl1 => ?_)
 refine K9 (fun y hy => ?_)
 replace hy := yB x0 x0 0 (List.replicate (x0.length : Int).toNat ByteArray.empty) rfl hl1 y hy
 cases y with
 | x0 w0_3 =>
  have h1 := hy
  exact K5 (K4 (fn := Tryz.f67) [.val (.int .i64 (x0.length : Int)), .rows ((List.replicate (x0.length : Int).toNat ByteArray.empty).map etS), .lp (.exit 0) (lO w0_3)] _ rfl (fun _ => rfl) (fun k => by kernel_rfl) (ALn x0 etS <| AC h0 <| AC (p := List.replicate (x0.length : Int).toNat [tS ByteArray.empty] = (List.replicate (x0.length : Int).toNat ByteArray.empty).map etS) (pQ rfl) <| AL h1 <| AN))
def ls (l : List ByteArray) : List ByteArray := l
theorem re : ∀ (rest : List ByteArray) (i : Nat) (v : List ByteArray), (∀ y ∈ rest, ao.sm y) → v.length = i + rest.length → d9 rest i v = some (.x0 (v.take i ++ rest))
 | [], i, v, _, hv => by unfold d9; rw [List.take_of_length_le (by simp at hv; omega)]; simp
 | x :: rest, i, v, h, hv => by
  have hx := h x (by simp)
  have hi : i < v.length := by simp at hv; omega
  unfold d9
  rw [eR, List.getElem?_eq_getElem hi, Option.bind_some]
  try rw [if_pos hx]
  rw [Int.toNat_natCast, re rest (i + 1) _ (fun y hy => h y (by simp [hy])) (by simp at hv ⊢; omega), E1 hi]
  simp
theorem zP (x0 : List ByteArray) (h : ao.sm x0) : Does E 67 [.one (.s .far () 1 (x0.map etS))] [(false, [.s .own () 1 ((ls x0).map etS)])] := by
 exact Aj x0 _ (by
  unfold oB
  rw [if_pos (Hg 16 (by decide) h.1 rfl), if_pos (iK h), re x0 0 _ h.2 (by simp)]
  simp [ls])
noncomputable def sr (x0 : GTask) : Option (GTask) :=
  if ao.sm x0.f4 then some ((GTask.mk x0.f0 x0.f1 x0.f2 x0.f3 (ls x0.f4))) else none
theorem FX (x0 : GTask) : Ans (sr x0) (fun r => Does E 43 [.agg (GTask.t .far x0)] [(true, GTask.t .own r)]) := by
 unfold sr
 refine La (fun h0 => ?_)
 exact K5 (K4 (fn := Tryz.f43) [.ret [(false, [.s .own () 1 ((ls x0.f4).map etS)])]] _ rfl (fun _ => rfl) (fun k => by kernel_rfl) (AD (zP x0.f4 h0) <| AN))
def dm (x : GTask) : GTask := x
theorem E7 (x0 : GTask) (h : ao.sm x0) : Does E 43 [.agg (GTask.t .far x0)] [(true, GTask.t .own (dm x0))] := by
 obtain ⟨w0, w1, w4⟩ := h
 exact FX x0 _ (by
  unfold sr
  repeat rw [if_pos (by assumption)]
  rfl)
inductive uD where
 | x0 (v3 : List GTask)
def mI (q0 : Kd) (v0 v3 : List GTask) (v4 : Int) : US := stL 23 [(0, .one (.s .far () 5 (v0.map (GTask.t q0)))), (3, .one (.s .own () 5 (v3.map (GTask.t .own)))), (4, .one (tI v4))]
def nk (q0 : Kd) (zv3 : List GTask) : US := stL 23 [(3, .one (.s .own () 5 (zv3.map (GTask.t .own))))]
abbrev uC : US → Exit → US → Prop := Round E 27 (ax Tryz.f27 0)
def B7 {q0 : Kd} (v0 v3 : List GTask) (v4 : Int) : uD → Prop
 | .x0 zv3 => Loops E 27 (ax Tryz.f27 0) (mI q0 v0 v3 v4) (.exit 0) (nk q0 zv3)
noncomputable def fb  : List GTask → Nat → (List GTask) → Option uD
 | [], i, v3 => some (.x0 v3)
 | hd :: rest, i, v3 => if ao.sm hd then (aI v3 (i : Int)).bind fun g1 => fb rest (i + 1) (v3.set (i : Int).toNat (dm hd)) else none
theorem B6 {q0 : Kd} (v0 : List GTask) (rest : List GTask) : ∀ (i : Nat) (v3 : List GTask), (v0).drop i = rest → v0.length ≤ 9223372036854775807 → Ans (fb rest i v3) (B7 (q0 := q0) v0 v3 (i : Int)) := by
 induction rest with
 | nil =>
  intro i v3 hE hl
  have hb := bh hE
  unfold fb
  exact K5 (K7 (show uC (mI q0 v0 v3 (i : Int)) (.exit 0) (nk q0 v3) from K3 [.val (.int .i64 (v0.length : Int)), .b false] _ (fun k => by kernel_rfl) (ALn v0 (GTask.t q0) <| AC hb <| AN)) (by intro h; cases h))
 | cons hd rest ih =>
  intro i v3 hE hl
  have hb := aS hE
  have hw := aT hE hl
  have hE2 := aG hE
  have hg := aX hE
  unfold fb
  refine La (fun h2 => ?_)
  refine K9 (fun g1 h3 => ?_)
  exact (ih (i + 1) (v3.set (i : Int).toNat (dm hd)) hE2 hl).mono fun y hy => by have r : uC (mI q0 v0 v3 (i : Int)) .normal (mI q0 v0 (v3.set (i : Int).toNat (dm hd)) (inc (i : Int))) := K3 [.val (.int .i64 (v0.length : Int)), .b true, .row ((GTask.t q0) hd), .ret [(true, GTask.t .own (dm hd))], .row ((GTask.t .own) g1), .rows ((v3.set (i : Int).toNat (dm hd)).map (GTask.t .own))] _ (fun k => by kernel_rfl) (ALn v0 (GTask.t q0) <| AC hb <| AR (GTask.t q0) hg <| AD (E7 hd h2) <| AG (GTask.t .own) h3 <| AC (p := (v3.map (GTask.t .own)).set (0 + (i : Int).toNat) (ay ((GTask.t .own) g1) 0 [tS ((dm hd).f0), tS ((dm hd).f1), tI ((dm hd).f2), tB ((dm hd).f3), .s .own () 1 (((dm hd).f4).map etS)]) = (v3.set (i : Int).toNat (dm hd)).map (GTask.t .own)) (ea (by rfl)) <| AN); rw [hw] at r; cases y <;> exact K6 r hy
noncomputable def qP (x0 : List GTask) : Option ((List GTask)) :=
  if 0 ≤ (x0.length : Int) ∧ (x0.length : Int) ≤ (x0.length : Int) ∧ ((72 : Nat) : Int) * (x0.length : Int) ≤ 281474976710656 ∧ (x0.length : Int) ≤ 4611686018427387904 then if x0.length ≤ 9223372036854775807 then (fb x0 0 (List.replicate (x0.length : Int).toNat (GTask.mk ByteArray.empty ByteArray.empty (0 : Int) false ([] : List ByteArray)))).bind fun y => match y with
   | .x0 w0_3 => (some (w0_3)) else none else none
theorem DZ {q0 : Kd} (x0 : List GTask) : Ans (qP x0) (fun r => Does E 27 [.one (.s .far () 5 (x0.map (GTask.t q0)))] [(false, [.s .own () 5 (r.map (GTask.t .own))])]) := by
 unfold qP
 refine La (fun h0 => ?_)
 refine La (fun hl1 => ?_)
 refine K9 (fun y hy => ?_)
 replace hy := B6 (q0 := q0) x0 x0 0 (List.replicate (x0.length : Int).toNat (GTask.mk ByteArray.empty ByteArray.empty (0 : Int) false ([] : List ByteArray))) rfl hl1 y hy
 cases y with
 | x0 w0_3 =>
  have h1 := hy
  exact K5 (K4 (fn := Tryz.f27) [.val (.int .i64 (x0.length : Int)), .rows ((List.replicate (x0.length : Int).toNat (GTask.mk ByteArray.empty ByteArray.empty (0 : Int) false ([] : List ByteArray))).map (GTask.t .own)), .lp (.exit 0) (nk q0 w0_3)] _ rfl (fun _ => rfl) (fun k => by kernel_rfl) (ALn x0 (GTask.t q0) <| AC h0 <| AC (p := List.replicate (x0.length : Int).toNat [tS ByteArray.empty, tS ByteArray.empty, tI (0 : Int), tB false, .s .own () 1 (([] : List ByteArray).map etS)] = (List.replicate (x0.length : Int).toNat (GTask.mk ByteArray.empty ByteArray.empty (0 : Int) false ([] : List ByteArray))).map (GTask.t .own)) (pQ rfl) <| AL h1 <| AN))
def jr (l : List GTask) : List GTask := l
theorem tM : ∀ (rest : List GTask) (i : Nat) (v : List GTask), (∀ y ∈ rest, ao.sm y) → v.length = i + rest.length → fb rest i v = some (.x0 (v.take i ++ rest))
 | [], i, v, _, hv => by unfold fb; rw [List.take_of_length_le (by simp at hv; omega)]; simp
 | x :: rest, i, v, h, hv => by
  have hx := h x (by simp)
  have hi : i < v.length := by simp at hv; omega
  unfold fb
  rw [eR, List.getElem?_eq_getElem hi, Option.bind_some]
  try rw [if_pos hx]
  rw [Int.toNat_natCast, tM rest (i + 1) _ (fun y hy => h y (by simp [hy])) (by simp at hv ⊢; omega), E1 hi]
  simp [dm]
theorem Di {q0 : Kd} (x0 : List GTask) (h : ao.sm x0) : Does E 27 [.one (.s .far () 5 (x0.map (GTask.t q0)))] [(false, [.s .own () 5 ((jr x0).map (GTask.t .own))])] := by
 exact DZ x0 _ (by
  unfold qP
  rw [if_pos (Hg 72 (by decide) h.1 rfl), if_pos (iK h), tM x0 0 _ h.2 (by simp)]
  simp [jr])
noncomputable def uB (x0 : LDag) : Option (GDag) :=
  if ao.sm x0.f5 then some ((GDag.mk x0.f0 x0.f1 x0.f2 x0.f3 x0.f4 (jr x0.f5))) else none
theorem Hd {q0 : Kd} (x0 : LDag) : Ans (uB x0) (fun r => Does E 10 [.agg (LDag.t .far q0 x0)] [(true, GDag.t .own .own r)]) := by
 unfold uB
 refine La (fun h0 => ?_)
 exact K5 (K4 (fn := Tryz.f10) [.ret [(false, [.s .own () 5 ((jr x0.f5).map (GTask.t .own))])]] _ rfl (fun _ => rfl) (fun k => by kernel_rfl) (AV (ψ := fun k => E.C k 27 [.one (.s .far () 5 (x0.f5.map (GTask.t q0)))] = some [(false, [.s .own () 5 ((jr x0.f5).map (GTask.t .own))])]) (Di x0.f5 h0) <| AN))
def aa (x : LDag) : GDag := ⟨x.f0, x.f1, x.f2, x.f3, x.f4, jr x.f5⟩
theorem pd {x : LDag} (h : ao.sm x) : ao.sm (aa x) := by
 obtain ⟨w0, w1, w5⟩ := h
 exact ⟨w0, w1, w5⟩
theorem aA {q0 : Kd} (x0 : LDag) (h : ao.sm x0) : Does E 10 [.agg (LDag.t .far q0 x0)] [(true, GDag.t .own .own (aa x0))] := by
 obtain ⟨w0, w1, w5⟩ := h
 exact Hd x0 _ (by
  unfold uB
  repeat rw [if_pos (by assumption)]
  rfl)
inductive rt where
 | ret (v4 : Bool)
 | x0 
def fV (v0 v1 : List ByteArray) (v5 : Int) : US := stL 26 [(0, .one (.s .far () 1 (v0.map etS))), (1, .one (.s .far () 1 (v1.map etS))), (5, .one (tI v5))]
def kX (zv4 : Bool) : US := stL 26 [(4, .one (tB zv4))]
def lK  : US := stL 26 []
abbrev nf : US → Exit → US → Prop := Round E 75 (ax Tryz.f75 0)
def yv (v0 v1 : List ByteArray) (v5 : Int) : rt → Prop
 | .ret zv4 => Loops E 75 (ax Tryz.f75 0) (fV v0 v1 v5) .ret (kX zv4)
 | .x0 => Loops E 75 (ax Tryz.f75 0) (fV v0 v1 v5) (.exit 0) (lK)
noncomputable def eS (v1 : List ByteArray) : List ByteArray → Nat → Option rt
 | [], i => some (.x0)
 | hd :: rest, i => (aI v1 (i : Int)).bind fun g1 => cond (!(hd.toList == g1.toList))
  (some (.ret false))
  (eS v1 rest (i + 1))
theorem yu (v0 v1 : List ByteArray) (rest : List ByteArray) : ∀ (i : Nat) , (v0).drop i = rest → v0.length ≤ 9223372036854775807 → Ans (eS v1 rest i) (yv v0 v1 (i : Int)) := by
 induction rest with
 | nil =>
  intro i hE hl
  have hb := bh hE
  unfold eS
  exact K5 (K7 (show nf (fV v0 v1 (i : Int)) (.exit 0) (lK) from K3 [.val (.int .i64 (v0.length : Int)), .b false] _ (fun k => by kernel_rfl) (ALn v0 etS <| AC hb <| AN)) (by intro h; cases h))
 | cons hd rest ih =>
  intro i hE hl
  have hb := aS hE
  have hw := aT hE hl
  have hE2 := aG hE
  have hg := aX hE
  unfold eS
  refine K9 (fun g1 h2 => ?_)
  refine K8 (fun h3 => ?_) (fun h3 => ?_)
  ·exact K5 (K7 (show nf (fV v0 v1 (i : Int)) .ret (kX false) from K3 [.val (.int .i64 (v0.length : Int)), .b true, .row (etS hd), .row (etS g1), .b true] _ (fun k => by kernel_rfl) (ALn v0 etS <| AC hb <| AR etS hg <| AR etS h2 <| AC h3 <| AN)) (by intro h; cases h))
  ·exact (ih (i + 1) hE2 hl).mono fun y hy => by have r : nf (fV v0 v1 (i : Int)) .normal (fV v0 v1 (inc (i : Int))) := K3 [.val (.int .i64 (v0.length : Int)), .b true, .row (etS hd), .row (etS g1), .b false] _ (fun k => by kernel_rfl) (ALn v0 etS <| AC hb <| AR etS hg <| AR etS h2 <| AC h3 <| AN); rw [hw] at r; cases y <;> exact K6 r hy
noncomputable def oz (x0 x1 : List ByteArray) : Option (Bool) :=
  cond ((x0.length : Int) != (x1.length : Int))
   (some (false))
   (if x0.length ≤ 9223372036854775807 then (eS x1 x0 0).bind fun y => match y with
    | .ret w0_4 => (some (w0_4))
    | .x0 => (some (true)) else none)
theorem Aa (x0 x1 : List ByteArray) : Ans (oz x0 x1) (fun r => Does E 75 [.one (.s .far () 1 (x0.map etS)), .one (.s .far () 1 (x1.map etS))] [(false, [tB r])]) := by
 unfold oz
 refine K8 (fun h0 => ?_) (fun h0 => ?_)
 ·exact K5 (K4 (fn := Tryz.f75) [.val (.int .i64 (x0.length : Int)), .val (.int .i64 (x1.length : Int)), .b true] _ rfl (fun _ => rfl) (fun k => by kernel_rfl) (ALn x0 etS <| ALn x1 etS <| AC h0 <| AN))
 ·refine La (fun hl2 => ?_)
  refine K9 (fun y hy => ?_)
  replace hy := yu x0 x1 x0 0 rfl hl2 y hy
  cases y with
  | ret w0_4 =>
   have h1 := hy
   exact K5 (K4 (fn := Tryz.f75) [.val (.int .i64 (x0.length : Int)), .val (.int .i64 (x1.length : Int)), .b false, .lp .ret (kX w0_4)] _ rfl (fun _ => rfl) (fun k => by kernel_rfl) (ALn x0 etS <| ALn x1 etS <| AC h0 <| AL h1 <| AN))
  | x0 =>
   have h1 := hy
   exact K5 (K4 (fn := Tryz.f75) [.val (.int .i64 (x0.length : Int)), .val (.int .i64 (x1.length : Int)), .b false, .lp (.exit 0) (lK)] _ rfl (fun _ => rfl) (fun k => by kernel_rfl) (ALn x0 etS <| ALn x1 etS <| AC h0 <| AL h1 <| AN))
theorem rg (l : List ByteArray) : ∀ (rest : List ByteArray) (i : Nat), l.drop i = rest → (∀ y ∈ rest, ao.sm y) → eS l rest i = some .x0
 | [], i, _, _ => rfl
 | x :: rest, i, hE, h => by
  have hx := h x (by simp)
  unfold eS
  rw [aX hE, Option.bind_some]
  simp only [hx, if_true, yes, bne_self_eq_false, BEq.rfl, Bool.not_true, cond_false, cond_true]
  exact rg l rest (i + 1) (aG hE) (fun y hy => h y (by simp [hy]))
theorem sT (x0 : List ByteArray) (x1 : List ByteArray) (e : x0 = x1) (h : ao.sm x0) : Does E 75 [.one (.s .far () 1 (x0.map etS)), .one (.s .far () 1 (x1.map etS))] [(false, [tB (yes x0 x1)])] := by
 subst e
 exact Aa x0 x0 _ (by
  unfold oz
  rw [if_pos (iK h), rg x0 x0 0 rfl h.2]
  simp [yes])
noncomputable def sq (x0 x1 : GTask) : Option (Bool) :=
  cond (!(x0.f0.toList == x1.f0.toList))
   (some (false))
   (cond (!(x0.f1.toList == x1.f1.toList))
    (some (false))
    (cond (x0.f2 != x1.f2)
     (some (false))
     (cond (!(x0.f3 == x1.f3))
      (some (false))
      (if x0.f4 = x1.f4 then if ao.sm x0.f4 then cond (yes x0.f4 x1.f4)
       (some (true))
       (some (false)) else none else none))))
theorem FV (x0 x1 : GTask) : Ans (sq x0 x1) (fun r => Does E 54 [.agg (GTask.t .far x0), .agg (GTask.t .far x1)] [(false, [tB r])]) := by
 unfold sq
 refine K8 (fun h0 => ?_) (fun h0 => ?_)
 ·exact K5 (K4 (fn := Tryz.f54) [.b true] _ rfl (fun _ => rfl) (fun k => by kernel_rfl) (AC h0 <| AN))
 ·refine K8 (fun h1 => ?_) (fun h1 => ?_)
  ·exact K5 (K4 (fn := Tryz.f54) [.b false, .b true] _ rfl (fun _ => rfl) (fun k => by kernel_rfl) (AC h0 <| AC h1 <| AN))
  ·refine K8 (fun h2 => ?_) (fun h2 => ?_)
   ·exact K5 (K4 (fn := Tryz.f54) [.b false, .b false, .b true] _ rfl (fun _ => rfl) (fun k => by kernel_rfl) (AC h0 <| AC h1 <| AC h2 <| AN))
   ·refine K8 (fun h3 => ?_) (fun h3 => ?_)
    ·exact K5 (K4 (fn := Tryz.f54) [.b false, .b false, .b false, .b true] _ rfl (fun _ => rfl) (fun k => by kernel_rfl) (AC h0 <| AC h1 <| AC h2 <| AC h3 <| AN))
    ·refine La (fun h4 => ?_)
     refine La (fun h5 => ?_)
     refine K8 (fun h6 => ?_) (fun h6 => ?_)
     ·exact K5 (K4 (fn := Tryz.f54) [.b false, .b false, .b false, .b false, rT] _ rfl (fun _ => rfl) (fun k => by kernel_rfl) (AC h0 <| AC h1 <| AC h2 <| AC h3 <| AD (Ld (sT x0.f4 x1.f4 h4 h5) h6) <| AN))
     ·exact K5 (K4 (fn := Tryz.f54) [.b false, .b false, .b false, .b false, rF] _ rfl (fun _ => rfl) (fun k => by kernel_rfl) (AC h0 <| AC h1 <| AC h2 <| AC h3 <| AD (Ld (sT x0.f4 x1.f4 h4 h5) h6) <| AN))
theorem wO (x0 : GTask) (x1 : GTask) (e : x0 = x1) (h : ao.sm x0) : Does E 54 [.agg (GTask.t .far x0), .agg (GTask.t .far x1)] [(false, [tB (yes x0 x1)])] := by
 subst e
 obtain ⟨w0, w1, w4⟩ := h
 exact FV x0 x0 _ (by
  unfold sq
  simp only [w4, if_true, yes, bne_self_eq_false, BEq.rfl, Bool.not_true, cond_false, cond_true])
inductive uz where
 | ret (v4 : Bool)
 | x0 
def ip (q0 : Kd) (q1 : Kd) (v0 v1 : List GTask) (v5 : Int) : US := stL 27 [(0, .one (.s .far () 5 (v0.map (GTask.t q0)))), (1, .one (.s .far () 5 (v1.map (GTask.t q1)))), (5, .one (tI v5))]
def mD (q0 : Kd) (q1 : Kd) (zv4 : Bool) : US := stL 27 [(4, .one (tB zv4))]
def nh (q0 : Kd) (q1 : Kd)  : US := stL 27 []
abbrev pH : US → Exit → US → Prop := Round E 31 (ax Tryz.f31 0)
def BZ {q0 : Kd} {q1 : Kd} (v0 v1 : List GTask) (v5 : Int) : uz → Prop
 | .ret zv4 => Loops E 31 (ax Tryz.f31 0) (ip q0 q1 v0 v1 v5) .ret (mD q0 q1 zv4)
 | .x0 => Loops E 31 (ax Tryz.f31 0) (ip q0 q1 v0 v1 v5) (.exit 0) (nh q0 q1)
noncomputable def gj (v1 : List GTask) : List GTask → Nat → Option uz
 | [], i => some (.x0)
 | hd :: rest, i => (aI v1 (i : Int)).bind fun g1 => if hd = g1 then if ao.sm hd then cond (yes hd g1)
  (gj v1 rest (i + 1))
  (some (.ret false)) else none else none
theorem BY {q0 : Kd} {q1 : Kd} (v0 v1 : List GTask) (rest : List GTask) : ∀ (i : Nat) , (v0).drop i = rest → v0.length ≤ 9223372036854775807 → Ans (gj v1 rest i) (BZ (q0 := q0) (q1 := q1) v0 v1 (i : Int)) := by
 induction rest with
 | nil =>
  intro i hE hl
  have hb := bh hE
  unfold gj
  exact K5 (K7 (show pH (ip q0 q1 v0 v1 (i : Int)) (.exit 0) (nh q0 q1) from K3 [.val (.int .i64 (v0.length : Int)), .b false] _ (fun k => by kernel_rfl) (ALn v0 (GTask.t q0) <| AC hb <| AN)) (by intro h; cases h))
 | cons hd rest ih =>
  intro i hE hl
  have hb := aS hE
  have hw := aT hE hl
  have hE2 := aG hE
  have hg := aX hE
  unfold gj
  refine K9 (fun g1 h2 => ?_)
  refine La (fun h3 => ?_)
  refine La (fun h4 => ?_)
  refine K8 (fun h5 => ?_) (fun h5 => ?_)
  ·exact (ih (i + 1) hE2 hl).mono fun y hy => by have r : pH (ip q0 q1 v0 v1 (i : Int)) .normal (ip q0 q1 v0 v1 (inc (i : Int))) := K3 [.val (.int .i64 (v0.length : Int)), .b true, .row ((GTask.t q0) hd), .row ((GTask.t q1) g1), rT] _ (fun k => by kernel_rfl) (ALn v0 (GTask.t q0) <| AC hb <| AR (GTask.t q0) hg <| AR (GTask.t q1) h2 <| AD (Ld (wO hd g1 h3 h4) h5) <| AN); rw [hw] at r; cases y <;> exact K6 r hy
  ·exact K5 (K7 (show pH (ip q0 q1 v0 v1 (i : Int)) .ret (mD q0 q1 false) from K3 [.val (.int .i64 (v0.length : Int)), .b true, .row ((GTask.t q0) hd), .row ((GTask.t q1) g1), rF] _ (fun k => by kernel_rfl) (ALn v0 (GTask.t q0) <| AC hb <| AR (GTask.t q0) hg <| AR (GTask.t q1) h2 <| AD (Ld (wO hd g1 h3 h4) h5) <| AN)) (by intro h; cases h))
noncomputable def qO (x0 x1 : List GTask) : Option (Bool) :=
  cond ((x0.length : Int) != (x1.length : Int))
   (some (false))
   (if x0.length ≤ 9223372036854775807 then (gj x1 x0 0).bind fun y => match y with
    | .ret w0_4 => (some (w0_4))
    | .x0 => (some (true)) else none)
theorem DW {q0 : Kd} {q1 : Kd} (x0 x1 : List GTask) : Ans (qO x0 x1) (fun r => Does E 31 [.one (.s .far () 5 (x0.map (GTask.t q0))), .one (.s .far () 5 (x1.map (GTask.t q1)))] [(false, [tB r])]) := by
 unfold qO
 refine K8 (fun h0 => ?_) (fun h0 => ?_)
 ·exact K5 (K4 (fn := Tryz.f31) [.val (.int .i64 (x0.length : Int)), .val (.int .i64 (x1.length : Int)), .b true] _ rfl (fun _ => rfl) (fun k => by kernel_rfl) (ALn x0 (GTask.t q0) <| ALn x1 (GTask.t q1) <| AC h0 <| AN))
 ·refine La (fun hl2 => ?_)
  refine K9 (fun y hy => ?_)
  replace hy := BY (q0 := q0) (q1 := q1) x0 x1 x0 0 rfl hl2 y hy
  cases y with
  | ret w0_4 =>
   have h1 := hy
   exact K5 (K4 (fn := Tryz.f31) [.val (.int .i64 (x0.length : Int)), .val (.int .i64 (x1.length : Int)), .b false, .lp .ret (mD q0 q1 w0_4)] _ rfl (fun _ => rfl) (fun k => by kernel_rfl) (ALn x0 (GTask.t q0) <| ALn x1 (GTask.t q1) <| AC h0 <| AL h1 <| AN))
  | x0 =>
   have h1 := hy
   exact K5 (K4 (fn := Tryz.f31) [.val (.int .i64 (x0.length : Int)), .val (.int .i64 (x1.length : Int)), .b false, .lp (.exit 0) (nh q0 q1)] _ rfl (fun _ => rfl) (fun k => by kernel_rfl) (ALn x0 (GTask.t q0) <| ALn x1 (GTask.t q1) <| AC h0 <| AL h1 <| AN))
theorem tQ (l : List GTask) : ∀ (rest : List GTask) (i : Nat), l.drop i = rest → (∀ y ∈ rest, ao.sm y) → gj l rest i = some .x0
 | [], i, _, _ => rfl
 | x :: rest, i, hE, h => by
  have hx := h x (by simp)
  unfold gj
  rw [aX hE, Option.bind_some]
  simp only [hx, if_true, yes, bne_self_eq_false, BEq.rfl, Bool.not_true, cond_false, cond_true]
  exact tQ l rest (i + 1) (aG hE) (fun y hy => h y (by simp [hy]))
theorem vk {q0 : Kd} {q1 : Kd} (x0 : List GTask) (x1 : List GTask) (e : x0 = x1) (h : ao.sm x0) : Does E 31 [.one (.s .far () 5 (x0.map (GTask.t q0))), .one (.s .far () 5 (x1.map (GTask.t q1)))] [(false, [tB (yes x0 x1)])] := by
 subst e
 exact DW x0 x0 _ (by
  unfold qO
  rw [if_pos (iK h), tQ x0 x0 0 rfl h.2]
  simp [yes])
noncomputable def uy (x0 x1 : GDag) : Option (Bool) :=
  cond (!(x0.f0.toList == x1.f0.toList))
   (some (false))
   (cond (!(x0.f1.toList == x1.f1.toList))
    (some (false))
    (cond (x0.f2 != x1.f2)
     (some (false))
     (cond (x0.f3 != x1.f3)
      (some (false))
      (cond (!(x0.f4 == x1.f4))
       (some (false))
       (if x0.f5 = x1.f5 then if ao.sm x0.f5 then cond (yes x0.f5 x1.f5)
        (some (true))
        (some (false)) else none else none)))))
theorem Hb {q0 : Kd} {q1 : Kd} (x0 x1 : GDag) : Ans (uy x0 x1) (fun r => Does E 12 [.agg (GDag.t .far q0 x0), .agg (GDag.t .far q1 x1)] [(false, [tB r])]) := by
 unfold uy
 refine K8 (fun h0 => ?_) (fun h0 => ?_)
 ·exact K5 (K4 (fn := Tryz.f12) [.b true] _ rfl (fun _ => rfl) (fun k => by kernel_rfl) (AC h0 <| AN))
 ·refine K8 (fun h1 => ?_) (fun h1 => ?_)
  ·exact K5 (K4 (fn := Tryz.f12) [.b false, .b true] _ rfl (fun _ => rfl) (fun k => by kernel_rfl) (AC h0 <| AC h1 <| AN))
  ·refine K8 (fun h2 => ?_) (fun h2 => ?_)
   ·exact K5 (K4 (fn := Tryz.f12) [.b false, .b false, .b true] _ rfl (fun _ => rfl) (fun k => by kernel_rfl) (AC h0 <| AC h1 <| AC h2 <| AN))
   ·refine K8 (fun h3 => ?_) (fun h3 => ?_)
    ·exact K5 (K4 (fn := Tryz.f12) [.b false, .b false, .b false, .b true] _ rfl (fun _ => rfl) (fun k => by kernel_rfl) (AC h0 <| AC h1 <| AC h2 <| AC h3 <| AN))
    ·refine K8 (fun h4 => ?_) (fun h4 => ?_)
     ·exact K5 (K4 (fn := Tryz.f12) [.b false, .b false, .b false, .b false, .b true] _ rfl (fun _ => rfl) (fun k => by kernel_rfl) (AC h0 <| AC h1 <| AC h2 <| AC h3 <| AC h4 <| AN))
     ·refine La (fun h5 => ?_)
      refine La (fun h6 => ?_)
      refine K8 (fun h7 => ?_) (fun h7 => ?_)
      ·exact K5 (K4 (fn := Tryz.f12) [.b false, .b false, .b false, .b false, .b false, rT] _ rfl (fun _ => rfl) (fun k => by kernel_rfl) (AC h0 <| AC h1 <| AC h2 <| AC h3 <| AC h4 <| AV (ψ := fun k => E.C k 31 [.one (.s .far () 5 (x0.f5.map (GTask.t q0))), .one (.s .far () 5 (x1.f5.map (GTask.t q1)))] = some [(false, [tB true])]) (Lb (vk x0.f5 x1.f5 h5 h6) (by rw [h7])) <| AN))
      ·exact K5 (K4 (fn := Tryz.f12) [.b false, .b false, .b false, .b false, .b false, rF] _ rfl (fun _ => rfl) (fun k => by kernel_rfl) (AC h0 <| AC h1 <| AC h2 <| AC h3 <| AC h4 <| AV (ψ := fun k => E.C k 31 [.one (.s .far () 5 (x0.f5.map (GTask.t q0))), .one (.s .far () 5 (x1.f5.map (GTask.t q1)))] = some [(false, [tB false])]) (Lb (vk x0.f5 x1.f5 h5 h6) (by rw [h7])) <| AN))
theorem cw {q0 : Kd} {q1 : Kd} (x0 : GDag) (x1 : GDag) (e : x0 = x1) (h : ao.sm x0) : Does E 12 [.agg (GDag.t .far q0 x0), .agg (GDag.t .far q1 x1)] [(false, [tB (yes x0 x1)])] := by
 subst e
 obtain ⟨w0, w1, w5⟩ := h
 exact Hb x0 x0 _ (by
  unfold uy
  simp only [w5, if_true, yes, bne_self_eq_false, BEq.rfl, Bool.not_true, cond_false, cond_true])
end Go.Proofs.YtjfbofdmjihglaaGreatDoor.Am
