/- What stands above a task; orders; what the functions that measure, copy and compare plans do. -/
import Derived.Test.YtjfbofdmjihglaaGreatDoorPlans
namespace Go.Proofs.YtjfbofdmjihglaaGreatDoor.Am
open Go Go.Proofs Classical
set_option maxRecDepth 100000
set_option linter.unusedVariables false
set_option linter.unusedSimpArgs false
inductive BN where
 | x0 (v5 : List Int)
def rX (q0 : Kd) (v2_0 v2_1 : ByteArray) (v2_2 v2_3 : Int) (v2_4 : Bool) (v2_5 : List GTask) (v5 : List Int) (v13 : List ByteArray) (v14 v15 : Int) : US := stL 29 [(2, .box () [tS v2_0, tS v2_1, tI v2_2, tI v2_3, tB v2_4, .s .far () 5 (v2_5.map (GTask.t q0))]), (5, .one (.s .own () 1 (v5.map etI))), (13, .one (.s .far () 1 (v13.map etS))), (14, .one (tI v14)), (15, .one (tI v15))]
def rW (q0 : Kd) (zv5 : List Int) : US := stL 29 [(5, .one (.s .own () 1 (zv5.map etI)))]
abbrev BM : US → Exit → US → Prop := Round E 30 (aw Tryz.f30 0)
def Ic {q0 : Kd} (v2_0 v2_1 : ByteArray) (v2_2 v2_3 : Int) (v2_4 : Bool) (v2_5 : List GTask) (v5 : List Int) (v13 : List ByteArray) (v14 v15 : Int) : BN → Prop
 | .x0 zv5 => Loops E 30 (aw Tryz.f30 0) (rX q0 v2_0 v2_1 v2_2 v2_3 v2_4 v2_5 v5 v13 v14 v15) (.exit 0) (rW q0 zv5)
noncomputable def jS (v2_0 v2_1 : ByteArray) (v2_2 v2_3 : Int) (v2_5 : List GTask) : List ByteArray → Nat → Bool → (List Int) → Option BN
 | [], i, v2_4, v5 => some (.x0 v5)
 | hd :: rest, i, v2_4, v5 => if (GDag.mk v2_0 v2_1 v2_2 v2_3 v2_4 v2_5).f5.length ≤ 1050000 then if (v5.length + ([bC (GDag.mk v2_0 v2_1 v2_2 v2_3 v2_4 v2_5) hd]).length) * 8 ≤ 140737488355328 ∧ v5.length + ([bC (GDag.mk v2_0 v2_1 v2_2 v2_3 v2_4 v2_5) hd]).length ≤ 4611686018427387904 then jS v2_0 v2_1 v2_2 v2_3 v2_5 rest (i + 1) v2_4 (v5 ++ ([bC (GDag.mk v2_0 v2_1 v2_2 v2_3 v2_4 v2_5) hd])) else none else none
theorem Ib {q0 : Kd} (v2_0 v2_1 : ByteArray) (v2_2 v2_3 : Int) (v2_5 : List GTask) (v13 : List ByteArray) (rest : List ByteArray) : ∀ (i : Nat) (v2_4 : Bool) (v5 : List Int), (v13).drop i = rest → v13.length ≤ 9223372036854775807 → Ans (jS v2_0 v2_1 v2_2 v2_3 v2_5 rest i v2_4 v5) (Ic (q0 := q0) v2_0 v2_1 v2_2 v2_3 v2_4 v2_5 v5 v13 (v13.length : Int) (i : Int)) := by
 induction rest with
 | nil =>
  intro i v2_4 v5 hE hl
  have hb := bd hE
  unfold jS
  exact KL (KN (show BM (rX q0 v2_0 v2_1 v2_2 v2_3 v2_4 v2_5 v5 v13 (v13.length : Int) (i : Int)) (.exit 0) (rW q0 v5) from KJ [.b false] _ (fun k => by kernel_rfl) (AC hb <| AN)) (by intro h; cases h))
 | cons hd rest ih =>
  intro i v2_4 v5 hE hl
  have hb := aQ hE
  have hw := aR hE hl
  have hE2 := aF hE
  have hg := aS hE
  unfold jS
  refine KQ (fun h2 => ?_)
  refine KQ (fun h3 => ?_)
  exact (ih (i + 1) v2_4 (v5 ++ ([bC (GDag.mk v2_0 v2_1 v2_2 v2_3 v2_4 v2_5) hd])) hE2 hl).mono fun y hy => by have r : BM (rX q0 v2_0 v2_1 v2_2 v2_3 v2_4 v2_5 v5 v13 (v13.length : Int) (i : Int)) .normal (rX q0 v2_0 v2_1 v2_2 v2_3 v2_4 v2_5 (v5 ++ ([bC (GDag.mk v2_0 v2_1 v2_2 v2_3 v2_4 v2_5) hd])) v13 (v13.length : Int) (inc (i : Int))) := KJ [.b true, .row (etS hd), .ret [(false, [tI (bC (GDag.mk v2_0 v2_1 v2_2 v2_3 v2_4 v2_5) hd)])], .rows ((v5 ++ ([bC (GDag.mk v2_0 v2_1 v2_2 v2_3 v2_4 v2_5) hd])).map etI)] _ (fun k => by kernel_rfl) (AC hb <| AR etS hg <| AV (ψ := fun k => E.C k 48 [.agg (GDag.t .far q0 (GDag.mk v2_0 v2_1 v2_2 v2_3 v2_4 v2_5)), .one (tS hd)] = some [(false, [tI (bC (GDag.mk v2_0 v2_1 v2_2 v2_3 v2_4 v2_5) hd)])]) (eJ (GDag.mk v2_0 v2_1 v2_2 v2_3 v2_4 v2_5) hd h2) <| AAp etI (fun _ => rfl) h3 <| AN); rw [hw] at r; cases y <;> exact KM r hy
noncomputable def uT (x0 : GDag) (x1 : Int) : Option ((List Int)) :=
  (aD x0.f5 x1).bind fun g0 => if g0.f4.length ≤ 9223372036854775807 then (jS x0.f0 x0.f1 x0.f2 x0.f3 x0.f5 g0.f4 0 x0.f4 ([])).bind fun y => match y with
   | .x0 w0_5 => (if w0_5.length < 4611686018427387904 then some (cp w0_5) else none) else none
theorem IV {q0 : Kd} (x0 : GDag) (x1 : Int) : Ans (uT x0 x1) (fun r => Does E 30 [.agg (GDag.t .far q0 x0), .one (tI x1)] [(false, [.s .own () 1 (r.map etI)])]) := by
 unfold uT
 refine KP (fun g0 h0 => ?_)
 refine KQ (fun hl1 => ?_)
 refine KP (fun y hy => ?_)
 replace hy := Ib (q0 := q0) x0.f0 x0.f1 x0.f2 x0.f3 x0.f5 g0.f4 g0.f4 0 x0.f4 ([]) rfl hl1 y hy
 cases y with
 | x0 w0_5 =>
  have h1 := hy
  refine KQ (fun h2 => ?_)
  exact KL (KK (fn := Tryz.f30) [.row ((GTask.t q0) g0), .val (.int .i64 (g0.f4.length : Int)), .lp (.exit 0) (rW q0 w0_5), .ret [(false, [.s .own () 1 ((cp w0_5).map etI)])]] _ rfl (fun _ => rfl) (fun k => by kernel_rfl) (AR (GTask.t q0) h0 <| ALn g0.f4 etS <| AL h1 <| AC (p := (w0_5.map etI).length = (w0_5.map etI).length) rfl <| AV (ψ := fun k => E.C k 53 [.one (.s .own () 1 (w0_5.map etI))] = some [(false, [.s .own () 1 ((cp w0_5).map etI)])]) (kL w0_5 h2) <| AN))
inductive vG where
 | x2 (v5 : List Int)
def jo (q0 : Kd) (v1 : Int) (v2_0 v2_1 : ByteArray) (v2_2 v2_3 : Int) (v2_4 : Bool) (v2_5 : List GTask) (v5 : List Int) (v6 v7 : Int) : US := stL 48 [(1, .one (tI v1)), (2, .box () [tS v2_0, tS v2_1, tI v2_2, tI v2_3, tB v2_4, .s .far () 5 (v2_5.map (GTask.t q0))]), (5, .one (.s .own () 1 (v5.map etI))), (6, .one (tI v6)), (7, .one (tI v7))]
def oB (q0 : Kd) (v1 : Int) (v2_0 v2_1 : ByteArray) (v2_2 v2_3 : Int) (v2_4 : Bool) (v2_5 : List GTask) (v6 : Int) (zv5 : List Int) : US := stL 48 [(1, .one (tI v1)), (2, .box () [tS v2_0, tS v2_1, tI v2_2, tI v2_3, tB v2_4, .s .far () 5 (v2_5.map (GTask.t q0))]), (5, .one (.s .own () 1 (zv5.map etI))), (6, .one (tI v6))]
abbrev qK : US → Exit → US → Prop := Round E 26 (aw Tryz.f26 1)
def Ec {q0 : Kd} (v1 : Int) (v2_0 v2_1 : ByteArray) (v2_2 v2_3 : Int) (v2_4 : Bool) (v2_5 : List GTask) (v5 : List Int) (v6 v7 : Int) : vG → Prop
 | .x2 zv5 => Loops E 26 (aw Tryz.f26 1) (jo q0 v1 v2_0 v2_1 v2_2 v2_3 v2_4 v2_5 v5 v6 v7) (.exit 2) (oB q0 v1 v2_0 v2_1 v2_2 v2_3 v2_4 v2_5 v6 zv5)
noncomputable def eO (v2_5 : List GTask) (v6 : Int) : List ByteArray → Nat → Bool → (List Int) → Option vG
 | [], i, v2_4, v5 => some (.x2 v5)
 | hd :: rest, i, v2_4, v5 => (aD v2_5 v6).bind fun g2 => cond (hd.toList == g2.f0.toList)
  (if (v5.length + ([v6]).length) * 8 ≤ 140737488355328 ∧ v5.length + ([v6]).length ≤ 4611686018427387904 then eO v2_5 v6 rest (i + 1) v2_4 (v5 ++ ([v6])) else none)
  (eO v2_5 v6 rest (i + 1) v2_4 v5)
theorem Ea {q0 : Kd} (v1 : Int) (v2_0 v2_1 : ByteArray) (v2_2 v2_3 : Int) (v2_5 : List GTask) (v6 : Int) (g0 : GTask) (hq0 : aD v2_5 v1 = some g0) (rest : List ByteArray) : ∀ (i : Nat) (v2_4 : Bool) (v5 : List Int), (g0.f4).drop i = rest → g0.f4.length ≤ 9223372036854775807 → Ans (eO v2_5 v6 rest i v2_4 v5) (Ec (q0 := q0) v1 v2_0 v2_1 v2_2 v2_3 v2_4 v2_5 v5 v6 (i : Int)) := by
 induction rest with
 | nil =>
  intro i v2_4 v5 hE hl
  have hb := bd hE
  unfold eO
  exact KL (KN (show qK (jo q0 v1 v2_0 v2_1 v2_2 v2_3 v2_4 v2_5 v5 v6 (i : Int)) (.exit 2) (oB q0 v1 v2_0 v2_1 v2_2 v2_3 v2_4 v2_5 v6 v5) from KJ [.row ((GTask.t q0) g0), .val (.int .i64 (g0.f4.length : Int)), .b false] _ (fun k => by kernel_rfl) (AR (GTask.t q0) hq0 <| ALn g0.f4 etS <| AC hb <| AN)) (by intro h; cases h))
 | cons hd rest ih =>
  intro i v2_4 v5 hE hl
  have hb := aQ hE
  have hw := aR hE hl
  have hE2 := aF hE
  have hg := aS hE
  unfold eO
  refine KP (fun g2 h3 => ?_)
  refine KO (fun h4 => ?_) (fun h4 => ?_)
  ·refine KQ (fun h5 => ?_)
   exact (ih (i + 1) v2_4 (v5 ++ ([v6])) hE2 hl).mono fun y hy => by have r : qK (jo q0 v1 v2_0 v2_1 v2_2 v2_3 v2_4 v2_5 v5 v6 (i : Int)) .normal (jo q0 v1 v2_0 v2_1 v2_2 v2_3 v2_4 v2_5 (v5 ++ ([v6])) v6 (inc (i : Int))) := KJ [.row ((GTask.t q0) g0), .val (.int .i64 (g0.f4.length : Int)), .b true, .row ((GTask.t q0) g0), .row (etS hd), .row ((GTask.t q0) g2), .b true, .rows ((v5 ++ ([v6])).map etI)] _ (fun k => by kernel_rfl) (AR (GTask.t q0) hq0 <| ALn g0.f4 etS <| AC hb <| AR (GTask.t q0) hq0 <| AR etS hg <| AR (GTask.t q0) h3 <| AC h4 <| AAp etI (fun _ => rfl) h5 <| AN); rw [hw] at r; cases y <;> exact KM r hy
  ·exact (ih (i + 1) v2_4 v5 hE2 hl).mono fun y hy => by have r : qK (jo q0 v1 v2_0 v2_1 v2_2 v2_3 v2_4 v2_5 v5 v6 (i : Int)) .normal (jo q0 v1 v2_0 v2_1 v2_2 v2_3 v2_4 v2_5 v5 v6 (inc (i : Int))) := KJ [.row ((GTask.t q0) g0), .val (.int .i64 (g0.f4.length : Int)), .b true, .row ((GTask.t q0) g0), .row (etS hd), .row ((GTask.t q0) g2), .b false] _ (fun k => by kernel_rfl) (AR (GTask.t q0) hq0 <| ALn g0.f4 etS <| AC hb <| AR (GTask.t q0) hq0 <| AR etS hg <| AR (GTask.t q0) h3 <| AC h4 <| AN); rw [hw] at r; cases y <;> exact KM r hy
inductive vF where
 | x0 (v5 : List Int)
def nK (q0 : Kd) (v1 : Int) (v2_0 v2_1 : ByteArray) (v2_2 v2_3 : Int) (v2_4 : Bool) (v2_5 : List GTask) (v5 : List Int) (v6 : Int) : US := stL 48 [(1, .one (tI v1)), (2, .box () [tS v2_0, tS v2_1, tI v2_2, tI v2_3, tB v2_4, .s .far () 5 (v2_5.map (GTask.t q0))]), (5, .one (.s .own () 1 (v5.map etI))), (6, .one (tI v6))]
def oA (q0 : Kd) (zv5 : List Int) : US := stL 48 [(5, .one (.s .own () 1 (zv5.map etI)))]
abbrev vE : US → Exit → US → Prop := Round E 26 (aw Tryz.f26 0)
def Eb {q0 : Kd} (v1 : Int) (v2_0 v2_1 : ByteArray) (v2_2 v2_3 : Int) (v2_4 : Bool) (v2_5 : List GTask) (v5 : List Int) (v6 : Int) : vF → Prop
 | .x0 zv5 => Loops E 26 (aw Tryz.f26 0) (nK q0 v1 v2_0 v2_1 v2_2 v2_3 v2_4 v2_5 v5 v6) (.exit 0) (oA q0 zv5)
noncomputable def fH (v1 : Int) (v2_5 : List GTask) : List GTask → Nat → Bool → (List Int) → Option vF
 | [], i, v2_4, v5 => some (.x0 v5)
 | hd :: rest, i, v2_4, v5 => (aD v2_5 v1).bind fun e1 => if e1.f4.length ≤ 9223372036854775807 then (eO v2_5 (i : Int) e1.f4 0 v2_4 v5).bind fun y => match y with
  | .x2 w0_5 => (fH v1 v2_5 rest (i + 1) v2_4 w0_5) else none
theorem D9 {q0 : Kd} (v1 : Int) (v2_0 v2_1 : ByteArray) (v2_2 v2_3 : Int) (v2_5 : List GTask) (rest : List GTask) : ∀ (i : Nat) (v2_4 : Bool) (v5 : List Int), (v2_5).drop i = rest → v2_5.length ≤ 9223372036854775807 → Ans (fH v1 v2_5 rest i v2_4 v5) (Eb (q0 := q0) v1 v2_0 v2_1 v2_2 v2_3 v2_4 v2_5 v5 (i : Int)) := by
 induction rest with
 | nil =>
  intro i v2_4 v5 hE hl
  have hb := bd hE
  unfold fH
  exact KL (KN (show vE (nK q0 v1 v2_0 v2_1 v2_2 v2_3 v2_4 v2_5 v5 (i : Int)) (.exit 0) (oA q0 v5) from KJ [.val (.int .i64 (v2_5.length : Int)), .b false] _ (fun k => by kernel_rfl) (ALn v2_5 (GTask.t q0) <| AC hb <| AN)) (by intro h; cases h))
 | cons hd rest ih =>
  intro i v2_4 v5 hE hl
  have hb := aQ hE
  have hw := aR hE hl
  have hE2 := aF hE
  have hg := aS hE
  unfold fH
  refine KP (fun e1 k1 => ?_)
  refine KQ (fun hl2 => ?_)
  refine KP (fun y hy => ?_)
  replace hy := Ea (q0 := q0) v1 v2_0 v2_1 v2_2 v2_3 v2_5 (i : Int) e1 k1 e1.f4 0 v2_4 v5 rfl hl2 y hy
  cases y with
  | x2 w0_5 =>
   have h1 := hy
   exact (ih (i + 1) v2_4 w0_5 hE2 hl).mono fun y hy => by have r : vE (nK q0 v1 v2_0 v2_1 v2_2 v2_3 v2_4 v2_5 v5 (i : Int)) .normal (nK q0 v1 v2_0 v2_1 v2_2 v2_3 v2_4 v2_5 w0_5 (inc (i : Int))) := KJ [.val (.int .i64 (v2_5.length : Int)), .b true, .lp (.exit 2) (oB q0 v1 v2_0 v2_1 v2_2 v2_3 v2_4 v2_5 (i : Int) w0_5)] _ (fun k => by kernel_rfl) (ALn v2_5 (GTask.t q0) <| AC hb <| AL h1 <| AN); rw [hw] at r; cases y <;> exact KM r hy
noncomputable def oU (x0 : GDag) (x1 : Int) : Option ((List Int)) :=
  if x0.f5.length ≤ 9223372036854775807 then (fH x1 x0.f5 x0.f5 0 x0.f4 ([])).bind fun y => match y with
   | .x0 w0_5 => (some (w0_5)) else none
theorem F0 {q0 : Kd} (x0 : GDag) (x1 : Int) : Ans (oU x0 x1) (fun r => Does E 26 [.agg (GDag.t .far q0 x0), .one (tI x1)] [(false, [.s .own () 1 (r.map etI)])]) := by
 unfold oU
 refine KQ (fun hl1 => ?_)
 refine KP (fun y hy => ?_)
 replace hy := D9 (q0 := q0) x1 x0.f0 x0.f1 x0.f2 x0.f3 x0.f5 x0.f5 0 x0.f4 ([]) rfl hl1 y hy
 cases y with
 | x0 w0_5 =>
  have h0 := hy
  exact KL (KK (fn := Tryz.f26) [.lp (.exit 0) (oA q0 w0_5)] _ rfl (fun _ => rfl) (fun k => by kernel_rfl) (AL h0 <| AN))
noncomputable def Ir (ts : List GTask) (t : GTask) : List Int := cp (t.f4.map (ar ts))
noncomputable def ups (d : GDag) (i : Int) : List Int := match aD d.f5 i with | some t => Ir d.f5 t | none => []
theorem mX {d : GDag} (h : bE d = true) : d.f5.length ≤ 4 ∧ 1 ≤ d.f5.length ∧ dw d.f5 d.f5 0 = true ∧ b8 d.f5 ∧ (cl d.f5).length = d.f5.length := by
 unfold bE at h
 simp only [Bool.and_eq_true, beq_iff_eq] at h
 obtain ⟨_, _, _, _, h5, h6, h7⟩ := h
 have h4 : 1 ≤ d.f5.length ∧ d.f5.length ≤ 4 := by unfold aH at h5; simp at h5; omega
 exact ⟨h4.2, h4.1, h6, rS h4.2 h6, by omega⟩
theorem xq {ts : List GTask} (h : dw ts ts 0 = true) {k : Nat} {t : GTask} (hk : ts[k]? = some t) : asc t.f0 t.f4 none = true ∧ ∀ n ∈ t.f4, 0 ≤ ar ts n := by
 have := se ts ts 0 rfl h k t (Nat.zero_le _) hk
 unfold gZ at this
 simp only [Bool.and_eq_true] at this
 exact ⟨this.2.2.2.2.1, fun n hn => of_decide_eq_true (List.all_eq_true.1 this.2.2.2.2.2 n hn)⟩
theorem AA (ts : List GTask) {a b : ByteArray} (h : tx a = tx b) : ar ts a = ar ts b := by
 rw [xG h]
theorem sC {ts : List GTask} {n : ByteArray} (h : 0 ≤ ar ts n) : ∃ (k : Nat) (t : GTask), ar ts n = (k : Int) ∧ ts[k]? = some t ∧ tx t.f0 = tx n := by
 unfold ar at h ⊢
 rcases l7 n ts 0 with ⟨h', _⟩ | ⟨k, t, h1, h2, h3⟩
 ·rw [h'] at h; omega
 ·unfold iy at h3
  rw [iZ, decide_eq_true_eq] at h3
  exact ⟨k, t, by rw [h1]; omega, h2, h3⟩
theorem oC {l : List Int} (hn : l.Nodup) : (cp l).Pairwise (· < ·) ∧ ∀ x, x ∈ cp l ↔ x ∈ l := by
 have hs : (cp l).Pairwise (· ≤ ·) := by
  have := List.pairwise_mergeSort (le := fun x y : Int => decide (x ≤ y)) (fun a b c => by simp; omega) (fun a b => by simp; omega) l
  exact this.imp fun h => by simpa using h
 have hp : (cp l).Perm l := List.mergeSort_perm l _
 have hd : (cp l).Nodup := hp.nodup_iff.2 hn
 refine ⟨?_, fun x => hp.mem_iff⟩
 have := hs.and hd
 exact this.imp fun ⟨a, b⟩ => by omega
theorem zy {ts : List GTask} {t : GTask} (ha : asc t.f0 t.f4 none = true) (h0 : ∀ n ∈ t.f4, 0 ≤ ar ts n) : (t.f4.map (ar ts)).Nodup := by
 have hn := (pX t.f0 t.f4 none ha).1
 unfold List.Nodup at hn ⊢
 rw [List.pairwise_map] at hn ⊢
 refine hn.imp_of_mem fun {a b} hA hB hne e => ?_
 obtain ⟨k, u, e1, e2, e3⟩ := sC (h0 a hA)
 obtain ⟨j, v, g1, g2, g3⟩ := sC (h0 b hB)
 have : k = j := by omega
 subst this
 rw [e2] at g2
 cases g2
 exact hne (e3.symm.trans g3)
def gy (af : List ByteArray) : List GTask → Nat → List Int
 | [], _ => []
 | t :: r, k => (af.filter fun n => n.toList == t.f0.toList).map (fun _ => (k : Int)) ++ gy af r (k + 1)
theorem wR {x : ByteArray} : ∀ {l : List ByteArray}, (l.map tx).Nodup → (l.filter fun n => n.toList == x.toList).length ≤ 1
 | [], _ => by simp
 | y :: l, h => by
  rw [List.map_cons, List.nodup_cons] at h
  have ih := wR (x := x) h.2
  rw [List.filter_cons]
  split
  ·rename_i q
   rw [iZ, decide_eq_true_eq] at q
   have : l.filter (fun n => n.toList == x.toList) = [] := by
    rw [List.filter_eq_nil_iff]
    intro z hz e
    rw [iZ, decide_eq_true_eq] at e
    exact h.1 (List.mem_map.2 ⟨z, hz, e.trans q.symm⟩)
   rw [this]; simp
  ·exact ih
theorem xI {af : List ByteArray} (hn : (af.map tx).Nodup) : ∀ (l : List GTask) (k : Nat), (gy af l k).Pairwise (· < ·) ∧ (∀ x ∈ gy af l k, (k : Int) ≤ x) ∧ ∀ x, x ∈ gy af l k ↔ ∃ (j : Nat) (t : GTask), l[j]? = some t ∧ x = ((k + j : Nat) : Int) ∧ ∃ n ∈ af, tx n = tx t.f0
 | [], k => ⟨by simp [gy], fun x hx => by simp [gy] at hx, fun x => by simp [gy]⟩
 | t :: l, k => by
  obtain ⟨h1, h2, h3⟩ := xI hn l (k + 1)
  unfold gy
  have hf := wR (x := t.f0) hn
  have hmem : ∀ x, x ∈ (af.filter fun n => n.toList == t.f0.toList).map (fun _ => (k : Int)) ↔ x = (k : Int) ∧ ∃ n ∈ af, tx n = tx t.f0 := fun x => by
   rw [List.mem_map]
   constructor
   ·rintro ⟨n, hm, rfl⟩
    rw [List.mem_filter, iZ, decide_eq_true_eq] at hm
    exact ⟨rfl, n, hm⟩
   ·rintro ⟨rfl, n, hm⟩
    exact ⟨n, by rw [List.mem_filter, iZ, decide_eq_true_eq]; exact hm, rfl⟩
  refine ⟨?_, fun x hx => ?_, fun x => ?_⟩
  ·rw [List.pairwise_append]
   refine ⟨?_, h1, fun a ha b hb => ?_⟩
   ·generalize (af.filter fun n => n.toList == t.f0.toList) = L at hf
    match L, hf with
    | [], _ => simp
    | [y], _ => simp
    | y :: z :: w, hf => simp at hf
   ·have := ((hmem a).1 ha).1
    have := h2 b hb
    omega
  ·rcases List.mem_append.1 hx with hx | hx
   ·have := ((hmem x).1 hx).1; omega
   ·have := h2 x hx; omega
  ·rw [List.mem_append, hmem, h3]
   constructor
   ·rintro (⟨e, hn⟩ | ⟨j, u, e1, e2, hn⟩)
    ·exact ⟨0, t, rfl, by omega, hn⟩
    ·exact ⟨j + 1, u, e1, by omega, hn⟩
   ·rintro ⟨j, u, e1, e2, hn⟩
    cases j with
    | zero => cases e1; exact .inl ⟨by omega, hn⟩
    | succ j => exact .inr ⟨j, u, e1, by omega, hn⟩
theorem Is {ts : List GTask} (hg : b8 ts) {t : GTask} (ha : asc t.f0 t.f4 none = true) (h0 : ∀ n ∈ t.f4, 0 ≤ ar ts n) : gy t.f4 ts 0 = Ir ts t := by
 obtain ⟨a1, -, a3⟩ := xI (pX t.f0 t.f4 none ha).1 ts 0
 obtain ⟨b1, b2⟩ := oC (zy ha h0)
 refine qm a1 b1 fun x => ?_
 rw [a3]
 show _ ↔ x ∈ cp _
 rw [b2, List.mem_map]
 constructor
 ·rintro ⟨j, u, e1, e2, n, hn, e3⟩
  refine ⟨n, hn, ?_⟩
  rw [AA ts e3, hg.2 j u e1]
  omega
 ·rintro ⟨n, hn, rfl⟩
  obtain ⟨k, u, e1, e2, e3⟩ := sC (h0 n hn)
  exact ⟨k, u, e2, by rw [e1]; omega, n, hn, e3.symm⟩
theorem Hy (a b : ByteArray) (c e : Int) (ts : List GTask) (ht : ts.length ≤ 1050000) : ∀ (l : List ByteArray) (i : Nat) (z : Bool) (v : List Int), v.length + l.length ≤ 2000000 → jS a b c e ts l i z v = some (.x0 (v ++ l.map (ar ts)))
 | [], i, z, v, _ => by unfold jS; simp
 | n :: l, i, z, v, hl => by
  simp only [List.length_cons] at hl
  unfold jS
  rw [if_pos (show (GDag.mk a b c e z ts).f5.length ≤ 1050000 from ht), if_pos (by simp; omega), Hy a b c e ts ht l (i + 1) z _ (by simp; omega)]
  simp [bC]
theorem JP (d : GDag) (i : Int) (h : an.sm d) (hi : 0 ≤ i ∧ i < (d.f5.length : Int)) : uT d i = some (ups d i) := by
 have hs : an.sm d.f5 := h.2.2
 obtain ⟨t, hg, hm⟩ := gj hi
 have h4 : t.f4.length ≤ 1050000 := (hs.2 t hm).2.2.1
 unfold uT ups
 rw [hg, Option.bind_some, if_pos (by omega), Hy _ _ _ _ _ hs.1 _ _ _ _ (by simp; omega), Option.bind_some]
 simp only [List.nil_append]
 rw [if_pos (by rw [List.length_map]; omega)]
 rfl
theorem CZ (ts : List GTask) (k : Nat) (u : GTask) (hu : ts[k]? = some u) : ∀ (l : List ByteArray) (i : Nat) (z : Bool) (v : List Int), v.length + l.length ≤ 8000000 → eO ts (k : Int) l i z v = some (.x2 (v ++ (l.filter fun n => n.toList == u.f0.toList).map fun _ => (k : Int)))
 | [], i, z, v, _ => by unfold eO; simp
 | n :: l, i, z, v, hl => by
  simp only [List.length_cons] at hl
  have hg : aD ts (k : Int) = some u := by rw [eG]; exact hu
  unfold eO
  rw [hg, Option.bind_some, List.filter_cons]
  cases n.toList == u.f0.toList with
  | true => rw [cond_true, if_pos (by simp; omega), CZ ts k u hu l (i + 1) z _ (by simp; omega)]; simp
  | false => rw [cond_false, CZ ts k u hu l (i + 1) z v (by omega)]; simp
theorem Hx (ts : List GTask) (i : Int) (t : GTask) (hg : aD ts i = some t) (h4 : t.f4.length ≤ 1050000) (hl4 : ts.length ≤ 4) : ∀ (l : List GTask) (k : Nat) (z : Bool) (v : List Int), ts.drop k = l → v.length + l.length * 1050000 ≤ 6000000 → fH i ts l k z v = some (.x0 (v ++ gy t.f4 l k))
 | [], k, z, v, _, _ => by unfold fH gy; rw [List.append_nil]
 | u :: l, k, z, v, hd, hv => by
  have hu : ts[k]? = some u := by rw [← List.head?_drop, hd]; rfl
  simp only [List.length_cons] at hv
  have hf := List.length_filter_le (fun n : ByteArray => n.toList == u.f0.toList) t.f4
  unfold fH gy
  rw [hg, Option.bind_some, if_pos (by omega), CZ ts k u hu _ _ _ _ (by omega), Option.bind_some]
  simp only
  rw [Hx ts i t hg h4 hl4 l (k + 1) z _ (aF hd) (by simp; omega), List.append_assoc]
theorem JQ (d : GDag) (i : Int) (h : an.sm d) (hd : bE d = true) (hi : 0 ≤ i ∧ i < (d.f5.length : Int)) : oU d i = some (ups d i) := by
 obtain ⟨h4, -, hr, hgn, -⟩ := mX hd
 have hs : an.sm d.f5 := h.2.2
 obtain ⟨t, hg, hm⟩ := gj hi
 have hf : t.f4.length ≤ 1050000 := (hs.2 t hm).2.2.1
 obtain ⟨h0, hk⟩ := gC hg
 obtain ⟨ha, hn⟩ := xq hr hk
 unfold oU ups
 rw [if_pos (by omega), hg, Hx d.f5 i t hg hf h4 d.f5 0 d.f4 [] rfl (by simp; omega), Option.bind_some]
 simp only [List.nil_append]
 rw [Is hgn ha hn]
theorem CY {d : GDag} {i : Int} (hd : bE d = true) (hi : 0 ≤ i ∧ i < (d.f5.length : Int)) : (∀ x ∈ ups d i, 0 ≤ x ∧ x < (d.f5.length : Int)) ∧ (ups d i).length ≤ 4 := by
 obtain ⟨h4, -, hr, hgn, -⟩ := mX hd
 obtain ⟨t, hg, hm⟩ := gj hi
 obtain ⟨h0, hk⟩ := gC hg
 obtain ⟨ha, hn⟩ := xq hr hk
 have e : ups d i = Ir d.f5 t := by unfold ups; rw [hg]
 obtain ⟨b1, b2⟩ := oC (zy ha hn)
 have hx : ∀ x ∈ ups d i, 0 ≤ x ∧ x < (d.f5.length : Int) := fun x hx => by
  rw [e] at hx
  obtain ⟨n, hm, rfl⟩ := List.mem_map.1 ((b2 x).1 hx)
  exact ⟨hn n hm, (F3 d.f5 n).2⟩
 refine ⟨hx, ?_⟩
 have := sf 0 ((d.f5.length : Int) - 1) (ups d i) 0 (by rw [e]; exact b1) (fun x h => by have := hx x h; omega) (by omega)
 omega
theorem xN {q0 : Kd} (x0 : GDag) (x1 : Int) (h : an.sm x0) (hd : bE x0 = true) (hi : 0 ≤ x1 ∧ x1 < (x0.f5.length : Int)) : Does E 30 [.agg (GDag.t .far q0 x0), .one (tI x1)] [(false, [.s .own () 1 ((ups x0 x1).map etI)])] := by
 exact IV x0 x1 _ (JP x0 x1 h hi)
theorem oF {q0 : Kd} (x0 : GDag) (x1 : Int) (h : an.sm x0) (hd : bE x0 = true) (hi : 0 ≤ x1 ∧ x1 < (x0.f5.length : Int)) : Does E 26 [.agg (GDag.t .far q0 x0), .one (tI x1)] [(false, [.s .own () 1 ((ups x0 x1).map etI)])] := by
 exact F0 x0 x1 _ (JQ x0 x1 h hd hi)
noncomputable def xa (x0 : GDag) (x1 : Int) : Option (Bool) :=
  some (aH x1 (0 : Int) (IntKind.wrap .i64 ((x0.f5.length : Int) - (1 : Int))))
theorem FB {q0 : Kd} (x0 : GDag) (x1 : Int) : Ans (xa x0 x1) (fun r => Does E 40 [.agg (GDag.t .far q0 x0), .one (tI x1)] [(false, [tB r])]) := by
 unfold xa
 exact KL (KK (fn := Tryz.f40) [.val (.int .i64 (x0.f5.length : Int)), .ret [(false, [tB (aH x1 (0 : Int) (IntKind.wrap .i64 ((x0.f5.length : Int) - (1 : Int))))])]] _ rfl (fun _ => rfl) (fun k => by kernel_rfl) (ALn x0.f5 (GTask.t q0) <| AD (cL x1 (0 : Int) (IntKind.wrap .i64 ((x0.f5.length : Int) - (1 : Int)))) <| AN))
def gG (d : GDag) (i : Int) : Bool := aH i 0 (IntKind.wrap .i64 ((d.f5.length : Int) - 1))
theorem nT {d : GDag} {i : Int} (h : gG d i = true) (hs : an.sm d) : 0 ≤ i ∧ i < (d.f5.length : Int) := DH h hs.2.2.1
theorem kg {q0 : Kd} (x0 : GDag) (x1 : Int) : Does E 40 [.agg (GDag.t .far q0 x0), .one (tI x1)] [(false, [tB (gG x0 x1)])] := by
 exact FB x0 x1 _ rfl
noncomputable def nG (x0 : GDag) : Option ((List Int)) :=
  if an.sm x0 then cond (bE x0)
   (if an.sm x0.f5 then if b8 x0.f5 then some (cl x0.f5) else none else none)
   (some (([] : List Int))) else none
theorem DZ {q0 : Kd} (x0 : GDag) : Ans (nG x0) (fun r => Does E 15 [.agg (GDag.t .far q0 x0)] [(false, [.s .own () 1 (r.map etI)])]) := by
 unfold nG
 refine KQ (fun h0 => ?_)
 refine KO (fun h1 => ?_) (fun h1 => ?_)
 ·refine KQ (fun h2 => ?_)
  refine KQ (fun h3 => ?_)
  exact KL (KK (fn := Tryz.f15) [rT, .ret [(false, [.s .own () 1 ((cl x0.f5).map etI)])]] _ rfl (fun _ => rfl) (fun k => by kernel_rfl) (AV (ψ := fun k => E.C k 32 [.agg (GDag.t .far q0 x0)] = some [(false, [tB true])]) (KR (iA x0 h0) (by rw [h1])) <| AV (ψ := fun k => E.C k 37 [.one (.s .far () 5 (x0.f5.map (GTask.t q0)))] = some [(false, [.s .own () 1 ((cl x0.f5).map etI)])]) (pc x0.f5 h2 h3) <| AN))
 ·exact KL (KK (fn := Tryz.f15) [rF] _ rfl (fun _ => rfl) (fun k => by kernel_rfl) (AV (ψ := fun k => E.C k 32 [.agg (GDag.t .far q0 x0)] = some [(false, [tB false])]) (KR (iA x0 h0) (by rw [h1])) <| AN))
noncomputable def nz (x0 : GDag) : Option ((List Int)) :=
  if an.sm x0 then cond (bE x0)
   (if b8 x0.f5 then some (bK x0) else none)
   (some (([] : List Int))) else none
theorem DA {q0 : Kd} (x0 : GDag) : Ans (nz x0) (fun r => Does E 16 [.agg (GDag.t .far q0 x0)] [(false, [.s .own () 1 (r.map etI)])]) := by
 unfold nz
 refine KQ (fun h0 => ?_)
 refine KO (fun h1 => ?_) (fun h1 => ?_)
 ·refine KQ (fun h2 => ?_)
  exact KL (KK (fn := Tryz.f16) [rT, .ret [(false, [.s .own () 1 ((bK x0).map etI)])]] _ rfl (fun _ => rfl) (fun k => by kernel_rfl) (AV (ψ := fun k => E.C k 28 [.agg (GDag.t .far q0 x0)] = some [(false, [tB true])]) (KR (iz x0 h0) (by rw [h1])) <| AV (ψ := fun k => E.C k 29 [.agg (GDag.t .far q0 x0)] = some [(false, [.s .own () 1 ((bK x0).map etI)])]) (nu x0 h0 h2) <| AN))
 ·exact KL (KK (fn := Tryz.f16) [rF] _ rfl (fun _ => rfl) (fun k => by kernel_rfl) (AV (ψ := fun k => E.C k 28 [.agg (GDag.t .far q0 x0)] = some [(false, [tB false])]) (KR (iz x0 h0) (by rw [h1])) <| AN))
noncomputable def ah (d : GDag) : List Int := cond (bE d) (cl d.f5) []
theorem Cb (d : GDag) (h : an.sm d) : nG d = some (ah d) ∧ nz d = some (ah d) := by
 unfold nG nz ah
 cases q : bE d with
 | false => refine ⟨?_, ?_⟩ <;> simp only [if_pos h] <;> rfl
 | true =>
  have hg := (mX q).2.2.2.1
  have hs : an.sm d.f5 := h.2.2
  refine ⟨?_, ?_⟩ <;> simp only [if_pos h, if_pos hs, if_pos hg, cond_true] <;> rfl
theorem zi {ts : List GTask} (hg : b8 ts) : ∀ (k : Nat) (o : List Int), o.Nodup → (∀ x ∈ o, 0 ≤ x ∧ x < (ts.length : Int)) → (ij ts k o).Nodup ∧ ∀ x ∈ ij ts k o, 0 ≤ x ∧ x < (ts.length : Int)
 | 0, o, h1, h2 => ⟨h1, h2⟩
 | k + 1, o, h1, h2 => by
  unfold ij
  cases q : em o ts ts 0 with
  | none => exact ⟨h1, h2⟩
  | some i =>
   obtain ⟨t, j, e1, e2, e3, e4⟩ := ol q
   have hij : i = j := by omega
   subst hij
   rw [hg.2 i t e2] at e3
   have hi : i < ts.length := by
    rcases Nat.lt_or_ge i ts.length with g | g
    ·exact g
    ·rw [List.getElem?_eq_none g] at e2; cases e2
   have hni : (i : Int) ∉ o := fun q => by rw [m4.2 q] at e3; cases e3
   refine zi hg k _ ?_ fun x hx => ?_
   ·rw [List.nodup_append]
    exact ⟨h1, by simp, fun a ha b hb e => by rw [List.mem_singleton] at hb; subst hb; subst e; exact hni ha⟩
   ·rcases List.mem_append.1 hx with hx | hx
    ·exact h2 x hx
    ·rw [List.mem_singleton] at hx; subst hx; omega
theorem zh {ts : List GTask} (hg : b8 ts) : (cl ts).Nodup ∧ ∀ x ∈ cl ts, 0 ≤ x ∧ x < (ts.length : Int) := zi hg _ _ (by simp) (fun x hx => by cases hx)
theorem lX {l : List Int} (h : l.length ≤ 1050000) : an.sm l := ⟨h, fun y _ => trivial⟩
theorem Hq (d : GDag) : an.sm (ah d) := by
 unfold ah
 cases q : bE d with
 | false => exact lX (by simp)
 | true =>
  obtain ⟨h4, -, -, -, h5⟩ := mX q
  exact lX (by rw [cond_true]; omega)
theorem gP {q0 : Kd} (x0 : GDag) (h : an.sm x0) : Does E 15 [.agg (GDag.t .far q0 x0)] [(false, [.s .own () 1 ((ah x0).map etI)])] := by
 exact DZ x0 _ (Cb x0 h).1
theorem gO {q0 : Kd} (x0 : GDag) (h : an.sm x0) : Does E 16 [.agg (GDag.t .far q0 x0)] [(false, [.s .own () 1 ((ah x0).map etI)])] := by
 exact DA x0 _ (Cb x0 h).2
end Go.Proofs.YtjfbofdmjihglaaGreatDoor.Am
namespace Go.Proofs.YtjfbofdmjihglaaGreatDoor.Am
open Go Go.Proofs Classical
set_option maxRecDepth 100000
set_option linter.unusedVariables false
set_option linter.unusedSimpArgs false
inductive ri where
 | ret (v4 : Int)
 | x0 (v1 : Int)
def fN (v0 : List ByteArray) (v1 v5 : Int) : US := stL 28 [(0, .one (.s .far () 1 (v0.map etS))), (1, .one (tI v1)), (5, .one (tI v5))]
def kQ (zv4 : Int) : US := stL 28 [(4, .one (tI zv4))]
def lF (zv1 : Int) : US := stL 28 [(1, .one (tI zv1))]
abbrev m9 : US → Exit → US → Prop := Round E 66 (aw Tryz.f66 0)
def yj (v0 : List ByteArray) (v1 v5 : Int) : ri → Prop
 | .ret zv4 => Loops E 66 (aw Tryz.f66 0) (fN v0 v1 v5) .ret (kQ zv4)
 | .x0 zv1 => Loops E 66 (aw Tryz.f66 0) (fN v0 v1 v5) (.exit 0) (lF zv1)
noncomputable def dh  : List ByteArray → Nat → Int → Option ri
 | [], i, v1 => some (.x0 v1)
 | hd :: rest, i, v1 => cond (decide ((IntKind.wrap .i64 (v1 - (hd.size : Int))) < (0 : Int)))
  (some (.ret (-1 : Int)))
  (dh rest (i + 1) (IntKind.wrap .i64 (v1 - (hd.size : Int))))
theorem yi (v0 : List ByteArray) (rest : List ByteArray) : ∀ (i : Nat) (v1 : Int), (v0).drop i = rest → v0.length ≤ 9223372036854775807 → Ans (dh rest i v1) (yj v0 v1 (i : Int)) := by
 induction rest with
 | nil =>
  intro i v1 hE hl
  have hb := bd hE
  unfold dh
  exact KL (KN (show m9 (fN v0 v1 (i : Int)) (.exit 0) (lF v1) from KJ [.val (.int .i64 (v0.length : Int)), .b false] _ (fun k => by kernel_rfl) (ALn v0 etS <| AC hb <| AN)) (by intro h; cases h))
 | cons hd rest ih =>
  intro i v1 hE hl
  have hb := aQ hE
  have hw := aR hE hl
  have hE2 := aF hE
  have hg := aS hE
  unfold dh
  refine KO (fun h2 => ?_) (fun h2 => ?_)
  ·exact KL (KN (show m9 (fN v0 v1 (i : Int)) .ret (kQ (-1 : Int)) from KJ [.val (.int .i64 (v0.length : Int)), .b true, .row (etS hd), .no, .b true] _ (fun k => by kernel_rfl) (ALn v0 etS <| AC hb <| AR etS hg <| AC h2 <| AN)) (by intro h; cases h))
  ·exact (ih (i + 1) (IntKind.wrap .i64 (v1 - (hd.size : Int))) hE2 hl).mono fun y hy => by have r : m9 (fN v0 v1 (i : Int)) .normal (fN v0 (IntKind.wrap .i64 (v1 - (hd.size : Int))) (inc (i : Int))) := KJ [.val (.int .i64 (v0.length : Int)), .b true, .row (etS hd), .no, .b false] _ (fun k => by kernel_rfl) (ALn v0 etS <| AC hb <| AR etS hg <| AC h2 <| AN); rw [hw] at r; cases y <;> exact KM r hy
noncomputable def gm (x0 : List ByteArray) (x1 : Int) : Option (Int) :=
  cond (decide ((IntKind.wrap .i64 (x1 - (x0.length : Int))) < (0 : Int)))
   (some ((-1 : Int)))
   (if x0.length ≤ 9223372036854775807 then (dh x0 0 (IntKind.wrap .i64 (x1 - (x0.length : Int)))).bind fun y => match y with
    | .ret w0_4 => (some (w0_4))
    | .x0 w0_1 => (some (w0_1)) else none)
theorem z8 (x0 : List ByteArray) (x1 : Int) : Ans (gm x0 x1) (fun r => Does E 66 [.one (.s .far () 1 (x0.map etS)), .one (tI x1)] [(false, [tI r])]) := by
 unfold gm
 refine KO (fun h0 => ?_) (fun h0 => ?_)
 ·exact KL (KK (fn := Tryz.f66) [.val (.int .i64 (x0.length : Int)), .no, .b true] _ rfl (fun _ => rfl) (fun k => by kernel_rfl) (ALn x0 etS <| AC h0 <| AN))
 ·refine KQ (fun hl2 => ?_)
  refine KP (fun y hy => ?_)
  replace hy := yi x0 x0 0 (IntKind.wrap .i64 (x1 - (x0.length : Int))) rfl hl2 y hy
  cases y with
  | ret w0_4 =>
   have h1 := hy
   exact KL (KK (fn := Tryz.f66) [.val (.int .i64 (x0.length : Int)), .no, .b false, .lp .ret (kQ w0_4)] _ rfl (fun _ => rfl) (fun k => by kernel_rfl) (ALn x0 etS <| AC h0 <| AL h1 <| AN))
  | x0 w0_1 =>
   have h1 := hy
   exact KL (KK (fn := Tryz.f66) [.val (.int .i64 (x0.length : Int)), .no, .b false, .lp (.exit 0) (lF w0_1)] _ rfl (fun _ => rfl) (fun k => by kernel_rfl) (ALn x0 etS <| AC h0 <| AL h1 <| AN))
noncomputable def db (x : List ByteArray) (n : Int) : Int := (gm x n).getD (-1)
theorem ry : ∀ (rest : List ByteArray) (i : Nat) (n : Int), (∀ y ∈ rest, Wf.wf y) → Tot (dh rest i n)
 | [], i, n, _ => Tot.some _
 | x :: rest, i, n, h => by
  have hx := h x (by simp)
  have ih := fun i n => ry rest i n fun y hy => h y (by simp [hy])
  unfold dh
  repeat' (first | exact Tot.some _ | exact ih _ _ | apply Tot.cond | refine Tot.ite (by assumption) ?_)
theorem qo (x : List ByteArray) (n : Int) (h : Wf.wf x) : gm x n = some (db x n) := by
 refine Tot.getD ?_ _
 unfold gm
 refine Tot.cond (Tot.some _) ?_
 refine Tot.ite h.1 (Tot.bind (ry x 0 _ h.2) fun y hy => ?_)
 cases y <;> exact Tot.some _
theorem sH (x0 : List ByteArray) (x1 : Int) (h : Wf.wf x0) : Does E 66 [.one (.s .far () 1 (x0.map etS)), .one (tI x1)] [(false, [tI (db x0 x1)])] := by
 exact z8 x0 x1 _ (qo x0 x1 h)
theorem qg : ∀ (rest : List ByteArray) (i : Nat) (n : Int), (∀ y ∈ rest, Wf.wf y) → 0 ≤ n → n ≤ 1048576 → ∀ y, dh rest i n = some y →
  (∃ m, y = .x0 m ∧ 0 ≤ m ∧ m ≤ n ∧ ∀ z ∈ rest, an.sm z) ∨ ∃ m, y = .ret m ∧ m < 0
 | [], i, n, _, h0, h1, y, e => by cases e; exact .inl ⟨n, rfl, h0, Int.le_refl _, fun z hz => by cases hz⟩
 | x :: rest, i, n, h, h0, h1, y, e => by
  have hx := h x (by simp)
  unfold dh at e
  try rw [if_pos hx] at e
  by_cases q : IntKind.wrap .i64 (n - (x.size : Int)) < 0
  ·rw [decide_eq_true q, cond_true] at e
   cases e
   exact .inr ⟨_, rfl, by omega⟩
  ·rw [decide_eq_false q, cond_false] at e
   try rw [if_pos hx] at e
   obtain ⟨b, c⟩ := sB h0 h1 hx (by omega)
   rcases qg rest _ _ (fun y hy => h y (by simp [hy])) (by omega) (by omega) y e with ⟨m, g1, g2, g3, g4⟩ | g
   ·refine .inl ⟨m, g1, g2, by omega, fun z hz => ?_⟩
    rcases List.mem_cons.1 hz with rfl | hz
    ·exact lJ c
    ·exact g4 z hz
   ·exact .inr g
theorem ym (x : List ByteArray) (n : Int) (hw : Wf.wf x) (h0 : 0 ≤ n) (h1 : n ≤ 1048576) (h : 0 ≤ db x n) : db x n ≤ n ∧ an.sm x := by
 have e := qo x n hw
 generalize db x n = r at *
 unfold gm at e
 obtain ⟨a1, e⟩ := nV e h
 obtain ⟨b1, c1⟩ := sB (n := n) (k := x.length) h0 h1 hw.1 a1
 rw [if_pos hw.1, Option.bind_eq_some_iff] at e
 obtain ⟨y, e1, e2⟩ := e
 rcases qg x 0 _ hw.2 a1 (by omega) y e1 with ⟨m, rfl, g2, g3, g4⟩ | ⟨m, rfl, g⟩
 ·cases e2; exact ⟨by omega, lJ c1, g4⟩
 ·cases e2; omega
noncomputable def ku (x0 : GTask) (x1 : Int) : Option (Int) :=
  cond (decide ((IntKind.wrap .i64 (x1 - (x0.f0.size : Int))) < (0 : Int)))
   (some ((-1 : Int)))
   (cond (decide ((IntKind.wrap .i64 ((IntKind.wrap .i64 (x1 - (x0.f0.size : Int))) - (x0.f1.size : Int))) < (0 : Int)))
    (some ((-1 : Int)))
    (if Wf.wf x0.f4 then cond (decide ((db x0.f4 (IntKind.wrap .i64 ((IntKind.wrap .i64 (x1 - (x0.f0.size : Int))) - (x0.f1.size : Int)))) < (0 : Int)))
     (some ((-1 : Int)))
     (some (db x0.f4 (IntKind.wrap .i64 ((IntKind.wrap .i64 (x1 - (x0.f0.size : Int))) - (x0.f1.size : Int))))) else none))
theorem FH (x0 : GTask) (x1 : Int) : Ans (ku x0 x1) (fun r => Does E 42 [.agg (GTask.t .far x0), .one (tI x1)] [(false, [tI r])]) := by
 unfold ku
 refine KO (fun h0 => ?_) (fun h0 => ?_)
 ·exact KL (KK (fn := Tryz.f42) [.no, .b true] _ rfl (fun _ => rfl) (fun k => by kernel_rfl) (AC h0 <| AN))
 ·refine KO (fun h1 => ?_) (fun h1 => ?_)
  ·exact KL (KK (fn := Tryz.f42) [.no, .b false, .no, .b true] _ rfl (fun _ => rfl) (fun k => by kernel_rfl) (AC h0 <| AC h1 <| AN))
  ·refine KQ (fun h2 => ?_)
   refine KO (fun h3 => ?_) (fun h3 => ?_)
   ·exact KL (KK (fn := Tryz.f42) [.no, .b false, .no, .b false, .ret [(false, [tI (db x0.f4 (IntKind.wrap .i64 ((IntKind.wrap .i64 (x1 - (x0.f0.size : Int))) - (x0.f1.size : Int))))])], .b true] _ rfl (fun _ => rfl) (fun k => by kernel_rfl) (AC h0 <| AC h1 <| AD (sH x0.f4 (IntKind.wrap .i64 ((IntKind.wrap .i64 (x1 - (x0.f0.size : Int))) - (x0.f1.size : Int))) h2) <| AC h3 <| AN))
   ·exact KL (KK (fn := Tryz.f42) [.no, .b false, .no, .b false, .ret [(false, [tI (db x0.f4 (IntKind.wrap .i64 ((IntKind.wrap .i64 (x1 - (x0.f0.size : Int))) - (x0.f1.size : Int))))])], .b false] _ rfl (fun _ => rfl) (fun k => by kernel_rfl) (AC h0 <| AC h1 <| AD (sH x0.f4 (IntKind.wrap .i64 ((IntKind.wrap .i64 (x1 - (x0.f0.size : Int))) - (x0.f1.size : Int))) h2) <| AC h3 <| AN))
noncomputable def dK (x : GTask) (n : Int) : Int := (ku x n).getD (-1)
theorem uO (x : GTask) (n : Int) (h : Wf.wf x) : ku x n = some (dK x n) := by
 obtain ⟨w0, w1, w4⟩ := h
 refine Tot.getD ?_ _
 unfold ku
 repeat' (first | exact Tot.some _ | apply Tot.cond | refine Tot.ite (by assumption) ?_)
theorem wC (x0 : GTask) (x1 : Int) (h : Wf.wf x0) : Does E 42 [.agg (GTask.t .far x0), .one (tI x1)] [(false, [tI (dK x0 x1)])] := by
 exact FH x0 x1 _ (uO x0 x1 h)
theorem DO (x : GTask) (n : Int) (hw : Wf.wf x) (h0 : 0 ≤ n) (h1 : n ≤ 1048576) (h : 0 ≤ dK x n) : dK x n ≤ n ∧ an.sm x := by
 have e := uO x n hw
 obtain ⟨w0, w1, w4⟩ := hw
 generalize dK x n = r at *
 unfold ku at e
 obtain ⟨a1, e⟩ := nV e h
 obtain ⟨b1, c1⟩ := sB (n := n) (k := x.f0.size) h0 (by omega) w0 a1
 generalize IntKind.wrap .i64 (n - (x.f0.size : Int)) = m1 at *
 obtain ⟨a2, e⟩ := nV e h
 obtain ⟨b2, c2⟩ := sB (n := m1) (k := x.f1.size) a1 (by omega) w1 a2
 generalize IntKind.wrap .i64 (m1 - (x.f1.size : Int)) = m2 at *
 try rw [if_pos w4] at e
 obtain ⟨a3, e⟩ := nV e h
 try rw [if_pos w4] at e
 obtain ⟨b3, c3⟩ := ym x.f4 m2 w4 a2 (by omega) a3
 generalize db x.f4 m2 = m3 at *
 cases e
 exact ⟨by omega, ⟨lJ c1, lJ c2, c3⟩⟩
inductive un where
 | ret (v4 : Int)
 | x0 (v1 : Int)
def ii (q0 : Kd) (v0 : List GTask) (v1 v5 : Int) : US := stL 27 [(0, .one (.s .far () 5 (v0.map (GTask.t q0)))), (1, .one (tI v1)), (5, .one (tI v5))]
def mw (q0 : Kd) (zv4 : Int) : US := stL 27 [(4, .one (tI zv4))]
def na (q0 : Kd) (zv1 : Int) : US := stL 27 [(1, .one (tI zv1))]
abbrev pA : US → Exit → US → Prop := Round E 25 (aw Tryz.f25 0)
def BX {q0 : Kd} (v0 : List GTask) (v1 v5 : Int) : un → Prop
 | .ret zv4 => Loops E 25 (aw Tryz.f25 0) (ii q0 v0 v1 v5) .ret (mw q0 zv4)
 | .x0 zv1 => Loops E 25 (aw Tryz.f25 0) (ii q0 v0 v1 v5) (.exit 0) (na q0 zv1)
noncomputable def ek  : List GTask → Nat → Int → Option un
 | [], i, v1 => some (.x0 v1)
 | hd :: rest, i, v1 => if Wf.wf hd then cond (decide ((dK hd v1) < (0 : Int)))
  (some (.ret (-1 : Int)))
  (ek rest (i + 1) (dK hd v1)) else none
theorem BW {q0 : Kd} (v0 : List GTask) (rest : List GTask) : ∀ (i : Nat) (v1 : Int), (v0).drop i = rest → v0.length ≤ 9223372036854775807 → Ans (ek rest i v1) (BX (q0 := q0) v0 v1 (i : Int)) := by
 induction rest with
 | nil =>
  intro i v1 hE hl
  have hb := bd hE
  unfold ek
  exact KL (KN (show pA (ii q0 v0 v1 (i : Int)) (.exit 0) (na q0 v1) from KJ [.val (.int .i64 (v0.length : Int)), .b false] _ (fun k => by kernel_rfl) (ALn v0 (GTask.t q0) <| AC hb <| AN)) (by intro h; cases h))
 | cons hd rest ih =>
  intro i v1 hE hl
  have hb := aQ hE
  have hw := aR hE hl
  have hE2 := aF hE
  have hg := aS hE
  unfold ek
  refine KQ (fun h2 => ?_)
  refine KO (fun h3 => ?_) (fun h3 => ?_)
  ·exact KL (KN (show pA (ii q0 v0 v1 (i : Int)) .ret (mw q0 (-1 : Int)) from KJ [.val (.int .i64 (v0.length : Int)), .b true, .row ((GTask.t q0) hd), .ret [(false, [tI (dK hd v1)])], .b true] _ (fun k => by kernel_rfl) (ALn v0 (GTask.t q0) <| AC hb <| AR (GTask.t q0) hg <| AD (wC hd v1 h2) <| AC h3 <| AN)) (by intro h; cases h))
  ·exact (ih (i + 1) (dK hd v1) hE2 hl).mono fun y hy => by have r : pA (ii q0 v0 v1 (i : Int)) .normal (ii q0 v0 (dK hd v1) (inc (i : Int))) := KJ [.val (.int .i64 (v0.length : Int)), .b true, .row ((GTask.t q0) hd), .ret [(false, [tI (dK hd v1)])], .b false] _ (fun k => by kernel_rfl) (ALn v0 (GTask.t q0) <| AC hb <| AR (GTask.t q0) hg <| AD (wC hd v1 h2) <| AC h3 <| AN); rw [hw] at r; cases y <;> exact KM r hy
noncomputable def jk (x0 : List GTask) (x1 : Int) : Option (Int) :=
  cond (decide ((IntKind.wrap .i64 (x1 - (x0.length : Int))) < (0 : Int)))
   (some ((-1 : Int)))
   (if x0.length ≤ 9223372036854775807 then (ek x0 0 (IntKind.wrap .i64 (x1 - (x0.length : Int)))).bind fun y => match y with
    | .ret w0_4 => (some (w0_4))
    | .x0 w0_1 => (some (w0_1)) else none)
theorem DM {q0 : Kd} (x0 : List GTask) (x1 : Int) : Ans (jk x0 x1) (fun r => Does E 25 [.one (.s .far () 5 (x0.map (GTask.t q0))), .one (tI x1)] [(false, [tI r])]) := by
 unfold jk
 refine KO (fun h0 => ?_) (fun h0 => ?_)
 ·exact KL (KK (fn := Tryz.f25) [.val (.int .i64 (x0.length : Int)), .no, .b true] _ rfl (fun _ => rfl) (fun k => by kernel_rfl) (ALn x0 (GTask.t q0) <| AC h0 <| AN))
 ·refine KQ (fun hl2 => ?_)
  refine KP (fun y hy => ?_)
  replace hy := BW (q0 := q0) x0 x0 0 (IntKind.wrap .i64 (x1 - (x0.length : Int))) rfl hl2 y hy
  cases y with
  | ret w0_4 =>
   have h1 := hy
   exact KL (KK (fn := Tryz.f25) [.val (.int .i64 (x0.length : Int)), .no, .b false, .lp .ret (mw q0 w0_4)] _ rfl (fun _ => rfl) (fun k => by kernel_rfl) (ALn x0 (GTask.t q0) <| AC h0 <| AL h1 <| AN))
  | x0 w0_1 =>
   have h1 := hy
   exact KL (KK (fn := Tryz.f25) [.val (.int .i64 (x0.length : Int)), .no, .b false, .lp (.exit 0) (na q0 w0_1)] _ rfl (fun _ => rfl) (fun k => by kernel_rfl) (ALn x0 (GTask.t q0) <| AC h0 <| AL h1 <| AN))
noncomputable def de (x : List GTask) (n : Int) : Int := (jk x n).getD (-1)
theorem uN : ∀ (rest : List GTask) (i : Nat) (n : Int), (∀ y ∈ rest, Wf.wf y) → Tot (ek rest i n)
 | [], i, n, _ => Tot.some _
 | x :: rest, i, n, h => by
  have hx := h x (by simp)
  have ih := fun i n => uN rest i n fun y hy => h y (by simp [hy])
  unfold ek
  repeat' (first | exact Tot.some _ | exact ih _ _ | apply Tot.cond | refine Tot.ite (by assumption) ?_)
theorem tp (x : List GTask) (n : Int) (h : Wf.wf x) : jk x n = some (de x n) := by
 refine Tot.getD ?_ _
 unfold jk
 refine Tot.cond (Tot.some _) ?_
 refine Tot.ite h.1 (Tot.bind (uN x 0 _ h.2) fun y hy => ?_)
 cases y <;> exact Tot.some _
theorem u3 {q0 : Kd} (x0 : List GTask) (x1 : Int) (h : Wf.wf x0) : Does E 25 [.one (.s .far () 5 (x0.map (GTask.t q0))), .one (tI x1)] [(false, [tI (de x0 x1)])] := by
 exact DM x0 x1 _ (tp x0 x1 h)
theorem sY : ∀ (rest : List GTask) (i : Nat) (n : Int), (∀ y ∈ rest, Wf.wf y) → 0 ≤ n → n ≤ 1048576 → ∀ y, ek rest i n = some y →
  (∃ m, y = .x0 m ∧ 0 ≤ m ∧ m ≤ n ∧ ∀ z ∈ rest, an.sm z) ∨ ∃ m, y = .ret m ∧ m < 0
 | [], i, n, _, h0, h1, y, e => by cases e; exact .inl ⟨n, rfl, h0, Int.le_refl _, fun z hz => by cases hz⟩
 | x :: rest, i, n, h, h0, h1, y, e => by
  have hx := h x (by simp)
  unfold ek at e
  try rw [if_pos hx] at e
  by_cases q : dK x n < 0
  ·rw [decide_eq_true q, cond_true] at e
   cases e
   exact .inr ⟨_, rfl, by omega⟩
  ·rw [decide_eq_false q, cond_false] at e
   try rw [if_pos hx] at e
   obtain ⟨b, c⟩ := DO x n hx h0 h1 (by omega)
   rcases sY rest _ _ (fun y hy => h y (by simp [hy])) (by omega) (by omega) y e with ⟨m, g1, g2, g3, g4⟩ | g
   ·refine .inl ⟨m, g1, g2, by omega, fun z hz => ?_⟩
    rcases List.mem_cons.1 hz with rfl | hz
    ·exact c
    ·exact g4 z hz
   ·exact .inr g
theorem B1 (x : List GTask) (n : Int) (hw : Wf.wf x) (h0 : 0 ≤ n) (h1 : n ≤ 1048576) (h : 0 ≤ de x n) : de x n ≤ n ∧ an.sm x := by
 have e := tp x n hw
 generalize de x n = r at *
 unfold jk at e
 obtain ⟨a1, e⟩ := nV e h
 obtain ⟨b1, c1⟩ := sB (n := n) (k := x.length) h0 h1 hw.1 a1
 rw [if_pos hw.1, Option.bind_eq_some_iff] at e
 obtain ⟨y, e1, e2⟩ := e
 rcases sY x 0 _ hw.2 a1 (by omega) y e1 with ⟨m, rfl, g2, g3, g4⟩ | ⟨m, rfl, g⟩
 ·cases e2; exact ⟨by omega, lJ c1, g4⟩
 ·cases e2; omega
noncomputable def lV (x0 : LDag) (x1 : Int) : Option (Int) :=
  cond (decide ((IntKind.wrap .i64 (x1 - (x0.f0.size : Int))) < (0 : Int)))
   (some ((-1 : Int)))
   (cond (decide ((IntKind.wrap .i64 ((IntKind.wrap .i64 (x1 - (x0.f0.size : Int))) - (x0.f1.size : Int))) < (0 : Int)))
    (some ((-1 : Int)))
    (if Wf.wf x0.f5 then cond (decide ((de x0.f5 (IntKind.wrap .i64 ((IntKind.wrap .i64 (x1 - (x0.f0.size : Int))) - (x0.f1.size : Int)))) < (0 : Int)))
     (some ((-1 : Int)))
     (some (de x0.f5 (IntKind.wrap .i64 ((IntKind.wrap .i64 (x1 - (x0.f0.size : Int))) - (x0.f1.size : Int))))) else none))
theorem GT {q0 : Kd} (x0 : LDag) (x1 : Int) : Ans (lV x0 x1) (fun r => Does E 8 [.agg (LDag.t .far q0 x0), .one (tI x1)] [(false, [tI r])]) := by
 unfold lV
 refine KO (fun h0 => ?_) (fun h0 => ?_)
 ·exact KL (KK (fn := Tryz.f8) [.no, .b true] _ rfl (fun _ => rfl) (fun k => by kernel_rfl) (AC h0 <| AN))
 ·refine KO (fun h1 => ?_) (fun h1 => ?_)
  ·exact KL (KK (fn := Tryz.f8) [.no, .b false, .no, .b true] _ rfl (fun _ => rfl) (fun k => by kernel_rfl) (AC h0 <| AC h1 <| AN))
  ·refine KQ (fun h2 => ?_)
   refine KO (fun h3 => ?_) (fun h3 => ?_)
   ·exact KL (KK (fn := Tryz.f8) [.no, .b false, .no, .b false, .ret [(false, [tI (de x0.f5 (IntKind.wrap .i64 ((IntKind.wrap .i64 (x1 - (x0.f0.size : Int))) - (x0.f1.size : Int))))])], .b true] _ rfl (fun _ => rfl) (fun k => by kernel_rfl) (AC h0 <| AC h1 <| AV (ψ := fun k => E.C k 25 [.one (.s .far () 5 (x0.f5.map (GTask.t q0))), .one (tI (IntKind.wrap .i64 ((IntKind.wrap .i64 (x1 - (x0.f0.size : Int))) - (x0.f1.size : Int))))] = some [(false, [tI (de x0.f5 (IntKind.wrap .i64 ((IntKind.wrap .i64 (x1 - (x0.f0.size : Int))) - (x0.f1.size : Int))))])]) (u3 x0.f5 (IntKind.wrap .i64 ((IntKind.wrap .i64 (x1 - (x0.f0.size : Int))) - (x0.f1.size : Int))) h2) <| AC h3 <| AN))
   ·exact KL (KK (fn := Tryz.f8) [.no, .b false, .no, .b false, .ret [(false, [tI (de x0.f5 (IntKind.wrap .i64 ((IntKind.wrap .i64 (x1 - (x0.f0.size : Int))) - (x0.f1.size : Int))))])], .b false] _ rfl (fun _ => rfl) (fun k => by kernel_rfl) (AC h0 <| AC h1 <| AV (ψ := fun k => E.C k 25 [.one (.s .far () 5 (x0.f5.map (GTask.t q0))), .one (tI (IntKind.wrap .i64 ((IntKind.wrap .i64 (x1 - (x0.f0.size : Int))) - (x0.f1.size : Int))))] = some [(false, [tI (de x0.f5 (IntKind.wrap .i64 ((IntKind.wrap .i64 (x1 - (x0.f0.size : Int))) - (x0.f1.size : Int))))])]) (u3 x0.f5 (IntKind.wrap .i64 ((IntKind.wrap .i64 (x1 - (x0.f0.size : Int))) - (x0.f1.size : Int))) h2) <| AC h3 <| AN))
noncomputable def aA (x : LDag) (n : Int) : Int := (lV x n).getD (-1)
theorem vJ (x : LDag) (n : Int) (h : Wf.wf x) : lV x n = some (aA x n) := by
 obtain ⟨w0, w1, w5⟩ := h
 refine Tot.getD ?_ _
 unfold lV
 repeat' (first | exact Tot.some _ | apply Tot.cond | refine Tot.ite (by assumption) ?_)
theorem bv {q0 : Kd} (x0 : LDag) (x1 : Int) (h : Wf.wf x0) : Does E 8 [.agg (LDag.t .far q0 x0), .one (tI x1)] [(false, [tI (aA x0 x1)])] := by
 exact GT x0 x1 _ (vJ x0 x1 h)
theorem oR (x : LDag) (n : Int) (hw : Wf.wf x) (h0 : 0 ≤ n) (h1 : n ≤ 1048576) (h : 0 ≤ aA x n) : aA x n ≤ n ∧ an.sm x := by
 have e := vJ x n hw
 obtain ⟨w0, w1, w5⟩ := hw
 generalize aA x n = r at *
 unfold lV at e
 obtain ⟨a1, e⟩ := nV e h
 obtain ⟨b1, c1⟩ := sB (n := n) (k := x.f0.size) h0 (by omega) w0 a1
 generalize IntKind.wrap .i64 (n - (x.f0.size : Int)) = m1 at *
 obtain ⟨a2, e⟩ := nV e h
 obtain ⟨b2, c2⟩ := sB (n := m1) (k := x.f1.size) a1 (by omega) w1 a2
 generalize IntKind.wrap .i64 (m1 - (x.f1.size : Int)) = m2 at *
 try rw [if_pos w5] at e
 obtain ⟨a3, e⟩ := nV e h
 try rw [if_pos w5] at e
 obtain ⟨b3, c3⟩ := B1 x.f5 m2 w5 a2 (by omega) a3
 generalize de x.f5 m2 = m3 at *
 cases e
 exact ⟨by omega, ⟨lJ c1, lJ c2, c3⟩⟩
inductive rk where
 | x0 (v3 : List ByteArray)
def kv (v0 v3 : List ByteArray) (v4 : Int) : US := stL 22 [(0, .one (.s .far () 1 (v0.map etS))), (3, .one (.s .own () 1 (v3.map etS))), (4, .one (tI v4))]
def lG (zv3 : List ByteArray) : US := stL 22 [(3, .one (.s .own () 1 (zv3.map etS)))]
abbrev rj : US → Exit → US → Prop := Round E 67 (aw Tryz.f67 0)
def yl (v0 v3 : List ByteArray) (v4 : Int) : rk → Prop
 | .x0 zv3 => Loops E 67 (aw Tryz.f67 0) (kv v0 v3 v4) (.exit 0) (lG zv3)
noncomputable def dX  : List ByteArray → Nat → (List ByteArray) → Option rk
 | [], i, v3 => some (.x0 v3)
 | hd :: rest, i, v3 => (aD v3 (i : Int)).bind fun g1 => dX rest (i + 1) (v3.set (i : Int).toNat hd)
theorem yk (v0 : List ByteArray) (rest : List ByteArray) : ∀ (i : Nat) (v3 : List ByteArray), (v0).drop i = rest → v0.length ≤ 9223372036854775807 → Ans (dX rest i v3) (yl v0 v3 (i : Int)) := by
 induction rest with
 | nil =>
  intro i v3 hE hl
  have hb := bd hE
  unfold dX
  exact KL (KN (show rj (kv v0 v3 (i : Int)) (.exit 0) (lG v3) from KJ [.val (.int .i64 (v0.length : Int)), .b false] _ (fun k => by kernel_rfl) (ALn v0 etS <| AC hb <| AN)) (by intro h; cases h))
 | cons hd rest ih =>
  intro i v3 hE hl
  have hb := aQ hE
  have hw := aR hE hl
  have hE2 := aF hE
  have hg := aS hE
  unfold dX
  refine KP (fun g1 h2 => ?_)
  exact (ih (i + 1) (v3.set (i : Int).toNat hd) hE2 hl).mono fun y hy => by have r : rj (kv v0 v3 (i : Int)) .normal (kv v0 (v3.set (i : Int).toNat hd) (inc (i : Int))) := KJ [.val (.int .i64 (v0.length : Int)), .b true, .row (etS hd), .row (etS g1), .rows ((v3.set (i : Int).toNat hd).map etS)] _ (fun k => by kernel_rfl) (ALn v0 etS <| AC hb <| AR etS hg <| AG etS h2 <| AC (p := (v3.map etS).set (0 + (i : Int).toNat) (av (etS g1) 0 [tS hd]) = (v3.set (i : Int).toNat hd).map etS) (cI (by rfl)) <| AN); rw [hw] at r; cases y <;> exact KM r hy
noncomputable def oj (x0 : List ByteArray) : Option ((List ByteArray)) :=
  if 0 ≤ (x0.length : Int) ∧ (x0.length : Int) ≤ (x0.length : Int) ∧ ((16 : Nat) : Int) * (x0.length : Int) ≤ 281474976710656 ∧ (x0.length : Int) ≤ 4611686018427387904 then if x0.length ≤ 9223372036854775807 then (dX x0 0 (List.replicate (x0.length : Int).toNat ByteArray.empty)).bind fun y => match y with
   | .x0 w0_3 => (some (w0_3)) else none else none
theorem Aa (x0 : List ByteArray) : Ans (oj x0) (fun r => Does E 67 [.one (.s .far () 1 (x0.map etS))] [(false, [.s .own () 1 (r.map etS)])]) := by
 unfold oj
 refine KQ (fun h0 => ?_)
 refine KQ (fun hl1 => ?_)
 refine KP (fun y hy => ?_)
 replace hy := yk x0 x0 0 (List.replicate (x0.length : Int).toNat ByteArray.empty) rfl hl1 y hy
 cases y with
 | x0 w0_3 =>
  have h1 := hy
  exact KL (KK (fn := Tryz.f67) [.val (.int .i64 (x0.length : Int)), .rows ((List.replicate (x0.length : Int).toNat ByteArray.empty).map etS), .lp (.exit 0) (lG w0_3)] _ rfl (fun _ => rfl) (fun k => by kernel_rfl) (ALn x0 etS <| AC h0 <| AC (p := List.replicate (x0.length : Int).toNat [tS ByteArray.empty] = (List.replicate (x0.length : Int).toNat ByteArray.empty).map etS) (mG rfl) <| AL h1 <| AN))
def lj (l : List ByteArray) : List ByteArray := l
theorem qS : ∀ (rest : List ByteArray) (i : Nat) (v : List ByteArray), (∀ y ∈ rest, an.sm y) → v.length = i + rest.length → dX rest i v = some (.x0 (v.take i ++ rest))
 | [], i, v, _, hv => by unfold dX; rw [List.take_of_length_le (by simp at hv; omega)]; simp
 | x :: rest, i, v, h, hv => by
  have hx := h x (by simp)
  have hi : i < v.length := by simp at hv; omega
  unfold dX
  rw [eG, List.getElem?_eq_getElem hi, Option.bind_some]
  try rw [if_pos hx]
  rw [Int.toNat_natCast, qS rest (i + 1) _ (fun y hy => h y (by simp [hy])) (by simp at hv ⊢; omega), EM hi]
  simp
theorem zD (x0 : List ByteArray) (h : an.sm x0) : Does E 67 [.one (.s .far () 1 (x0.map etS))] [(false, [.s .own () 1 ((lj x0).map etS)])] := by
 exact Aa x0 _ (by
  unfold oj
  rw [if_pos (GX 16 (by decide) h.1 rfl), if_pos (iG h), qS x0 0 _ h.2 (by simp)]
  simp [lj])
noncomputable def r7 (x0 : GTask) : Option (GTask) :=
  if an.sm x0.f4 then some ((GTask.mk x0.f0 x0.f1 x0.f2 x0.f3 (lj x0.f4))) else none
theorem FI (x0 : GTask) : Ans (r7 x0) (fun r => Does E 43 [.agg (GTask.t .far x0)] [(true, GTask.t .own r)]) := by
 unfold r7
 refine KQ (fun h0 => ?_)
 exact KL (KK (fn := Tryz.f43) [.ret [(false, [.s .own () 1 ((lj x0.f4).map etS)])]] _ rfl (fun _ => rfl) (fun k => by kernel_rfl) (AD (zD x0.f4 h0) <| AN))
def di (x : GTask) : GTask := x
theorem ES (x0 : GTask) (h : an.sm x0) : Does E 43 [.agg (GTask.t .far x0)] [(true, GTask.t .own (di x0))] := by
 obtain ⟨w0, w1, w4⟩ := h
 exact FI x0 _ (by
  unfold r7
  repeat rw [if_pos (by assumption)]
  rfl)
inductive uq where
 | x0 (v3 : List GTask)
def my (q0 : Kd) (v0 v3 : List GTask) (v4 : Int) : US := stL 23 [(0, .one (.s .far () 5 (v0.map (GTask.t q0)))), (3, .one (.s .own () 5 (v3.map (GTask.t .own)))), (4, .one (tI v4))]
def nb (q0 : Kd) (zv3 : List GTask) : US := stL 23 [(3, .one (.s .own () 5 (zv3.map (GTask.t .own))))]
abbrev up : US → Exit → US → Prop := Round E 27 (aw Tryz.f27 0)
def BZ {q0 : Kd} (v0 v3 : List GTask) (v4 : Int) : uq → Prop
 | .x0 zv3 => Loops E 27 (aw Tryz.f27 0) (my q0 v0 v3 v4) (.exit 0) (nb q0 zv3)
noncomputable def eS  : List GTask → Nat → (List GTask) → Option uq
 | [], i, v3 => some (.x0 v3)
 | hd :: rest, i, v3 => if an.sm hd then (aD v3 (i : Int)).bind fun g1 => eS rest (i + 1) (v3.set (i : Int).toNat (di hd)) else none
theorem BY {q0 : Kd} (v0 : List GTask) (rest : List GTask) : ∀ (i : Nat) (v3 : List GTask), (v0).drop i = rest → v0.length ≤ 9223372036854775807 → Ans (eS rest i v3) (BZ (q0 := q0) v0 v3 (i : Int)) := by
 induction rest with
 | nil =>
  intro i v3 hE hl
  have hb := bd hE
  unfold eS
  exact KL (KN (show up (my q0 v0 v3 (i : Int)) (.exit 0) (nb q0 v3) from KJ [.val (.int .i64 (v0.length : Int)), .b false] _ (fun k => by kernel_rfl) (ALn v0 (GTask.t q0) <| AC hb <| AN)) (by intro h; cases h))
 | cons hd rest ih =>
  intro i v3 hE hl
  have hb := aQ hE
  have hw := aR hE hl
  have hE2 := aF hE
  have hg := aS hE
  unfold eS
  refine KQ (fun h2 => ?_)
  refine KP (fun g1 h3 => ?_)
  exact (ih (i + 1) (v3.set (i : Int).toNat (di hd)) hE2 hl).mono fun y hy => by have r : up (my q0 v0 v3 (i : Int)) .normal (my q0 v0 (v3.set (i : Int).toNat (di hd)) (inc (i : Int))) := KJ [.val (.int .i64 (v0.length : Int)), .b true, .row ((GTask.t q0) hd), .ret [(true, GTask.t .own (di hd))], .row ((GTask.t .own) g1), .rows ((v3.set (i : Int).toNat (di hd)).map (GTask.t .own))] _ (fun k => by kernel_rfl) (ALn v0 (GTask.t q0) <| AC hb <| AR (GTask.t q0) hg <| AD (ES hd h2) <| AG (GTask.t .own) h3 <| AC (p := (v3.map (GTask.t .own)).set (0 + (i : Int).toNat) (av ((GTask.t .own) g1) 0 [tS ((di hd).f0), tS ((di hd).f1), tI ((di hd).f2), tB ((di hd).f3), .s .own () 1 (((di hd).f4).map etS)]) = (v3.set (i : Int).toNat (di hd)).map (GTask.t .own)) (cI (by rfl)) <| AN); rw [hw] at r; cases y <;> exact KM r hy
noncomputable def qC (x0 : List GTask) : Option ((List GTask)) :=
  if 0 ≤ (x0.length : Int) ∧ (x0.length : Int) ≤ (x0.length : Int) ∧ ((72 : Nat) : Int) * (x0.length : Int) ≤ 281474976710656 ∧ (x0.length : Int) ≤ 4611686018427387904 then if x0.length ≤ 9223372036854775807 then (eS x0 0 (List.replicate (x0.length : Int).toNat (GTask.mk ByteArray.empty ByteArray.empty (0 : Int) false ([] : List ByteArray)))).bind fun y => match y with
   | .x0 w0_3 => (some (w0_3)) else none else none
theorem DN {q0 : Kd} (x0 : List GTask) : Ans (qC x0) (fun r => Does E 27 [.one (.s .far () 5 (x0.map (GTask.t q0)))] [(false, [.s .own () 5 (r.map (GTask.t .own))])]) := by
 unfold qC
 refine KQ (fun h0 => ?_)
 refine KQ (fun hl1 => ?_)
 refine KP (fun y hy => ?_)
 replace hy := BY (q0 := q0) x0 x0 0 (List.replicate (x0.length : Int).toNat (GTask.mk ByteArray.empty ByteArray.empty (0 : Int) false ([] : List ByteArray))) rfl hl1 y hy
 cases y with
 | x0 w0_3 =>
  have h1 := hy
  exact KL (KK (fn := Tryz.f27) [.val (.int .i64 (x0.length : Int)), .rows ((List.replicate (x0.length : Int).toNat (GTask.mk ByteArray.empty ByteArray.empty (0 : Int) false ([] : List ByteArray))).map (GTask.t .own)), .lp (.exit 0) (nb q0 w0_3)] _ rfl (fun _ => rfl) (fun k => by kernel_rfl) (ALn x0 (GTask.t q0) <| AC h0 <| AC (p := List.replicate (x0.length : Int).toNat [tS ByteArray.empty, tS ByteArray.empty, tI (0 : Int), tB false, .s .own () 1 (([] : List ByteArray).map etS)] = (List.replicate (x0.length : Int).toNat (GTask.mk ByteArray.empty ByteArray.empty (0 : Int) false ([] : List ByteArray))).map (GTask.t .own)) (mG rfl) <| AL h1 <| AN))
def jm (l : List GTask) : List GTask := l
theorem tF : ∀ (rest : List GTask) (i : Nat) (v : List GTask), (∀ y ∈ rest, an.sm y) → v.length = i + rest.length → eS rest i v = some (.x0 (v.take i ++ rest))
 | [], i, v, _, hv => by unfold eS; rw [List.take_of_length_le (by simp at hv; omega)]; simp
 | x :: rest, i, v, h, hv => by
  have hx := h x (by simp)
  have hi : i < v.length := by simp at hv; omega
  unfold eS
  rw [eG, List.getElem?_eq_getElem hi, Option.bind_some]
  try rw [if_pos hx]
  rw [Int.toNat_natCast, tF rest (i + 1) _ (fun y hy => h y (by simp [hy])) (by simp at hv ⊢; omega), EM hi]
  simp [di]
theorem C7 {q0 : Kd} (x0 : List GTask) (h : an.sm x0) : Does E 27 [.one (.s .far () 5 (x0.map (GTask.t q0)))] [(false, [.s .own () 5 ((jm x0).map (GTask.t .own))])] := by
 exact DN x0 _ (by
  unfold qC
  rw [if_pos (GX 72 (by decide) h.1 rfl), if_pos (iG h), tF x0 0 _ h.2 (by simp)]
  simp [jm])
noncomputable def uo (x0 : LDag) : Option (GDag) :=
  if an.sm x0.f5 then some ((GDag.mk x0.f0 x0.f1 x0.f2 x0.f3 x0.f4 (jm x0.f5))) else none
theorem GU {q0 : Kd} (x0 : LDag) : Ans (uo x0) (fun r => Does E 10 [.agg (LDag.t .far q0 x0)] [(true, GDag.t .own .own r)]) := by
 unfold uo
 refine KQ (fun h0 => ?_)
 exact KL (KK (fn := Tryz.f10) [.ret [(false, [.s .own () 5 ((jm x0.f5).map (GTask.t .own))])]] _ rfl (fun _ => rfl) (fun k => by kernel_rfl) (AV (ψ := fun k => E.C k 27 [.one (.s .far () 5 (x0.f5.map (GTask.t q0)))] = some [(false, [.s .own () 5 ((jm x0.f5).map (GTask.t .own))])]) (C7 x0.f5 h0) <| AN))
def aa (x : LDag) : GDag := ⟨x.f0, x.f1, x.f2, x.f3, x.f4, jm x.f5⟩
theorem oV {x : LDag} (h : an.sm x) : an.sm (aa x) := by
 obtain ⟨w0, w1, w5⟩ := h
 exact ⟨w0, w1, w5⟩
theorem ay {q0 : Kd} (x0 : LDag) (h : an.sm x0) : Does E 10 [.agg (LDag.t .far q0 x0)] [(true, GDag.t .own .own (aa x0))] := by
 obtain ⟨w0, w1, w5⟩ := h
 exact GU x0 _ (by
  unfold uo
  repeat rw [if_pos (by assumption)]
  rfl)
inductive rf where
 | ret (v4 : Bool)
 | x0 
def fM (v0 v1 : List ByteArray) (v5 : Int) : US := stL 26 [(0, .one (.s .far () 1 (v0.map etS))), (1, .one (.s .far () 1 (v1.map etS))), (5, .one (tI v5))]
def kP (zv4 : Bool) : US := stL 26 [(4, .one (tB zv4))]
def lC  : US := stL 26 []
abbrev m7 : US → Exit → US → Prop := Round E 75 (aw Tryz.f75 0)
def yf (v0 v1 : List ByteArray) (v5 : Int) : rf → Prop
 | .ret zv4 => Loops E 75 (aw Tryz.f75 0) (fM v0 v1 v5) .ret (kP zv4)
 | .x0 => Loops E 75 (aw Tryz.f75 0) (fM v0 v1 v5) (.exit 0) (lC)
noncomputable def eH (v1 : List ByteArray) : List ByteArray → Nat → Option rf
 | [], i => some (.x0)
 | hd :: rest, i => (aD v1 (i : Int)).bind fun g1 => cond (!(hd.toList == g1.toList))
  (some (.ret false))
  (eH v1 rest (i + 1))
theorem ye (v0 v1 : List ByteArray) (rest : List ByteArray) : ∀ (i : Nat) , (v0).drop i = rest → v0.length ≤ 9223372036854775807 → Ans (eH v1 rest i) (yf v0 v1 (i : Int)) := by
 induction rest with
 | nil =>
  intro i hE hl
  have hb := bd hE
  unfold eH
  exact KL (KN (show m7 (fM v0 v1 (i : Int)) (.exit 0) (lC) from KJ [.val (.int .i64 (v0.length : Int)), .b false] _ (fun k => by kernel_rfl) (ALn v0 etS <| AC hb <| AN)) (by intro h; cases h))
 | cons hd rest ih =>
  intro i hE hl
  have hb := aQ hE
  have hw := aR hE hl
  have hE2 := aF hE
  have hg := aS hE
  unfold eH
  refine KP (fun g1 h2 => ?_)
  refine KO (fun h3 => ?_) (fun h3 => ?_)
  ·exact KL (KN (show m7 (fM v0 v1 (i : Int)) .ret (kP false) from KJ [.val (.int .i64 (v0.length : Int)), .b true, .row (etS hd), .row (etS g1), .b true] _ (fun k => by kernel_rfl) (ALn v0 etS <| AC hb <| AR etS hg <| AR etS h2 <| AC h3 <| AN)) (by intro h; cases h))
  ·exact (ih (i + 1) hE2 hl).mono fun y hy => by have r : m7 (fM v0 v1 (i : Int)) .normal (fM v0 v1 (inc (i : Int))) := KJ [.val (.int .i64 (v0.length : Int)), .b true, .row (etS hd), .row (etS g1), .b false] _ (fun k => by kernel_rfl) (ALn v0 etS <| AC hb <| AR etS hg <| AR etS h2 <| AC h3 <| AN); rw [hw] at r; cases y <;> exact KM r hy
noncomputable def oh (x0 x1 : List ByteArray) : Option (Bool) :=
  cond ((x0.length : Int) != (x1.length : Int))
   (some (false))
   (if x0.length ≤ 9223372036854775807 then (eH x1 x0 0).bind fun y => match y with
    | .ret w0_4 => (some (w0_4))
    | .x0 => (some (true)) else none)
theorem zU (x0 x1 : List ByteArray) : Ans (oh x0 x1) (fun r => Does E 75 [.one (.s .far () 1 (x0.map etS)), .one (.s .far () 1 (x1.map etS))] [(false, [tB r])]) := by
 unfold oh
 refine KO (fun h0 => ?_) (fun h0 => ?_)
 ·exact KL (KK (fn := Tryz.f75) [.val (.int .i64 (x0.length : Int)), .val (.int .i64 (x1.length : Int)), .b true] _ rfl (fun _ => rfl) (fun k => by kernel_rfl) (ALn x0 etS <| ALn x1 etS <| AC h0 <| AN))
 ·refine KQ (fun hl2 => ?_)
  refine KP (fun y hy => ?_)
  replace hy := ye x0 x1 x0 0 rfl hl2 y hy
  cases y with
  | ret w0_4 =>
   have h1 := hy
   exact KL (KK (fn := Tryz.f75) [.val (.int .i64 (x0.length : Int)), .val (.int .i64 (x1.length : Int)), .b false, .lp .ret (kP w0_4)] _ rfl (fun _ => rfl) (fun k => by kernel_rfl) (ALn x0 etS <| ALn x1 etS <| AC h0 <| AL h1 <| AN))
  | x0 =>
   have h1 := hy
   exact KL (KK (fn := Tryz.f75) [.val (.int .i64 (x0.length : Int)), .val (.int .i64 (x1.length : Int)), .b false, .lp (.exit 0) (lC)] _ rfl (fun _ => rfl) (fun k => by kernel_rfl) (ALn x0 etS <| ALn x1 etS <| AC h0 <| AL h1 <| AN))
theorem qU (l : List ByteArray) : ∀ (rest : List ByteArray) (i : Nat), l.drop i = rest → (∀ y ∈ rest, an.sm y) → eH l rest i = some .x0
 | [], i, _, _ => rfl
 | x :: rest, i, hE, h => by
  have hx := h x (by simp)
  unfold eH
  rw [aS hE, Option.bind_some]
  simp only [hx, if_true, yes, bne_self_eq_false, BEq.rfl, Bool.not_true, cond_false, cond_true]
  exact qU l rest (i + 1) (aF hE) (fun y hy => h y (by simp [hy]))
theorem sG (x0 : List ByteArray) (x1 : List ByteArray) (e : x0 = x1) (h : an.sm x0) : Does E 75 [.one (.s .far () 1 (x0.map etS)), .one (.s .far () 1 (x1.map etS))] [(false, [tB (yes x0 x1)])] := by
 subst e
 exact zU x0 x0 _ (by
  unfold oh
  rw [if_pos (iG h), qU x0 x0 0 rfl h.2]
  simp [yes])
noncomputable def r6 (x0 x1 : GTask) : Option (Bool) :=
  cond (!(x0.f0.toList == x1.f0.toList))
   (some (false))
   (cond (!(x0.f1.toList == x1.f1.toList))
    (some (false))
    (cond (x0.f2 != x1.f2)
     (some (false))
     (cond (!(x0.f3 == x1.f3))
      (some (false))
      (if x0.f4 = x1.f4 then if an.sm x0.f4 then cond (yes x0.f4 x1.f4)
       (some (true))
       (some (false)) else none else none))))
theorem FG (x0 x1 : GTask) : Ans (r6 x0 x1) (fun r => Does E 54 [.agg (GTask.t .far x0), .agg (GTask.t .far x1)] [(false, [tB r])]) := by
 unfold r6
 refine KO (fun h0 => ?_) (fun h0 => ?_)
 ·exact KL (KK (fn := Tryz.f54) [.b true] _ rfl (fun _ => rfl) (fun k => by kernel_rfl) (AC h0 <| AN))
 ·refine KO (fun h1 => ?_) (fun h1 => ?_)
  ·exact KL (KK (fn := Tryz.f54) [.b false, .b true] _ rfl (fun _ => rfl) (fun k => by kernel_rfl) (AC h0 <| AC h1 <| AN))
  ·refine KO (fun h2 => ?_) (fun h2 => ?_)
   ·exact KL (KK (fn := Tryz.f54) [.b false, .b false, .b true] _ rfl (fun _ => rfl) (fun k => by kernel_rfl) (AC h0 <| AC h1 <| AC h2 <| AN))
   ·refine KO (fun h3 => ?_) (fun h3 => ?_)
    ·exact KL (KK (fn := Tryz.f54) [.b false, .b false, .b false, .b true] _ rfl (fun _ => rfl) (fun k => by kernel_rfl) (AC h0 <| AC h1 <| AC h2 <| AC h3 <| AN))
    ·refine KQ (fun h4 => ?_)
     refine KQ (fun h5 => ?_)
     refine KO (fun h6 => ?_) (fun h6 => ?_)
     ·exact KL (KK (fn := Tryz.f54) [.b false, .b false, .b false, .b false, rT] _ rfl (fun _ => rfl) (fun k => by kernel_rfl) (AC h0 <| AC h1 <| AC h2 <| AC h3 <| AD (KT (sG x0.f4 x1.f4 h4 h5) h6) <| AN))
     ·exact KL (KK (fn := Tryz.f54) [.b false, .b false, .b false, .b false, rF] _ rfl (fun _ => rfl) (fun k => by kernel_rfl) (AC h0 <| AC h1 <| AC h2 <| AC h3 <| AD (KT (sG x0.f4 x1.f4 h4 h5) h6) <| AN))
theorem wA (x0 : GTask) (x1 : GTask) (e : x0 = x1) (h : an.sm x0) : Does E 54 [.agg (GTask.t .far x0), .agg (GTask.t .far x1)] [(false, [tB (yes x0 x1)])] := by
 subst e
 obtain ⟨w0, w1, w4⟩ := h
 exact FG x0 x0 _ (by
  unfold r6
  simp only [w4, if_true, yes, bne_self_eq_false, BEq.rfl, Bool.not_true, cond_false, cond_true])
inductive um where
 | ret (v4 : Bool)
 | x0 
def ig (q0 : Kd) (q1 : Kd) (v0 v1 : List GTask) (v5 : Int) : US := stL 27 [(0, .one (.s .far () 5 (v0.map (GTask.t q0)))), (1, .one (.s .far () 5 (v1.map (GTask.t q1)))), (5, .one (tI v5))]
def ms (q0 : Kd) (q1 : Kd) (zv4 : Bool) : US := stL 27 [(4, .one (tB zv4))]
def m8 (q0 : Kd) (q1 : Kd)  : US := stL 27 []
abbrev px : US → Exit → US → Prop := Round E 31 (aw Tryz.f31 0)
def BS {q0 : Kd} {q1 : Kd} (v0 v1 : List GTask) (v5 : Int) : um → Prop
 | .ret zv4 => Loops E 31 (aw Tryz.f31 0) (ig q0 q1 v0 v1 v5) .ret (ms q0 q1 zv4)
 | .x0 => Loops E 31 (aw Tryz.f31 0) (ig q0 q1 v0 v1 v5) (.exit 0) (m8 q0 q1)
noncomputable def fW (v1 : List GTask) : List GTask → Nat → Option um
 | [], i => some (.x0)
 | hd :: rest, i => (aD v1 (i : Int)).bind fun g1 => if hd = g1 then if an.sm hd then cond (yes hd g1)
  (fW v1 rest (i + 1))
  (some (.ret false)) else none else none
theorem BR {q0 : Kd} {q1 : Kd} (v0 v1 : List GTask) (rest : List GTask) : ∀ (i : Nat) , (v0).drop i = rest → v0.length ≤ 9223372036854775807 → Ans (fW v1 rest i) (BS (q0 := q0) (q1 := q1) v0 v1 (i : Int)) := by
 induction rest with
 | nil =>
  intro i hE hl
  have hb := bd hE
  unfold fW
  exact KL (KN (show px (ig q0 q1 v0 v1 (i : Int)) (.exit 0) (m8 q0 q1) from KJ [.val (.int .i64 (v0.length : Int)), .b false] _ (fun k => by kernel_rfl) (ALn v0 (GTask.t q0) <| AC hb <| AN)) (by intro h; cases h))
 | cons hd rest ih =>
  intro i hE hl
  have hb := aQ hE
  have hw := aR hE hl
  have hE2 := aF hE
  have hg := aS hE
  unfold fW
  refine KP (fun g1 h2 => ?_)
  refine KQ (fun h3 => ?_)
  refine KQ (fun h4 => ?_)
  refine KO (fun h5 => ?_) (fun h5 => ?_)
  ·exact (ih (i + 1) hE2 hl).mono fun y hy => by have r : px (ig q0 q1 v0 v1 (i : Int)) .normal (ig q0 q1 v0 v1 (inc (i : Int))) := KJ [.val (.int .i64 (v0.length : Int)), .b true, .row ((GTask.t q0) hd), .row ((GTask.t q1) g1), rT] _ (fun k => by kernel_rfl) (ALn v0 (GTask.t q0) <| AC hb <| AR (GTask.t q0) hg <| AR (GTask.t q1) h2 <| AD (KT (wA hd g1 h3 h4) h5) <| AN); rw [hw] at r; cases y <;> exact KM r hy
  ·exact KL (KN (show px (ig q0 q1 v0 v1 (i : Int)) .ret (ms q0 q1 false) from KJ [.val (.int .i64 (v0.length : Int)), .b true, .row ((GTask.t q0) hd), .row ((GTask.t q1) g1), rF] _ (fun k => by kernel_rfl) (ALn v0 (GTask.t q0) <| AC hb <| AR (GTask.t q0) hg <| AR (GTask.t q1) h2 <| AD (KT (wA hd g1 h3 h4) h5) <| AN)) (by intro h; cases h))
noncomputable def qB (x0 x1 : List GTask) : Option (Bool) :=
  cond ((x0.length : Int) != (x1.length : Int))
   (some (false))
   (if x0.length ≤ 9223372036854775807 then (fW x1 x0 0).bind fun y => match y with
    | .ret w0_4 => (some (w0_4))
    | .x0 => (some (true)) else none)
theorem DK {q0 : Kd} {q1 : Kd} (x0 x1 : List GTask) : Ans (qB x0 x1) (fun r => Does E 31 [.one (.s .far () 5 (x0.map (GTask.t q0))), .one (.s .far () 5 (x1.map (GTask.t q1)))] [(false, [tB r])]) := by
 unfold qB
 refine KO (fun h0 => ?_) (fun h0 => ?_)
 ·exact KL (KK (fn := Tryz.f31) [.val (.int .i64 (x0.length : Int)), .val (.int .i64 (x1.length : Int)), .b true] _ rfl (fun _ => rfl) (fun k => by kernel_rfl) (ALn x0 (GTask.t q0) <| ALn x1 (GTask.t q1) <| AC h0 <| AN))
 ·refine KQ (fun hl2 => ?_)
  refine KP (fun y hy => ?_)
  replace hy := BR (q0 := q0) (q1 := q1) x0 x1 x0 0 rfl hl2 y hy
  cases y with
  | ret w0_4 =>
   have h1 := hy
   exact KL (KK (fn := Tryz.f31) [.val (.int .i64 (x0.length : Int)), .val (.int .i64 (x1.length : Int)), .b false, .lp .ret (ms q0 q1 w0_4)] _ rfl (fun _ => rfl) (fun k => by kernel_rfl) (ALn x0 (GTask.t q0) <| ALn x1 (GTask.t q1) <| AC h0 <| AL h1 <| AN))
  | x0 =>
   have h1 := hy
   exact KL (KK (fn := Tryz.f31) [.val (.int .i64 (x0.length : Int)), .val (.int .i64 (x1.length : Int)), .b false, .lp (.exit 0) (m8 q0 q1)] _ rfl (fun _ => rfl) (fun k => by kernel_rfl) (ALn x0 (GTask.t q0) <| ALn x1 (GTask.t q1) <| AC h0 <| AL h1 <| AN))
theorem tK (l : List GTask) : ∀ (rest : List GTask) (i : Nat), l.drop i = rest → (∀ y ∈ rest, an.sm y) → fW l rest i = some .x0
 | [], i, _, _ => rfl
 | x :: rest, i, hE, h => by
  have hx := h x (by simp)
  unfold fW
  rw [aS hE, Option.bind_some]
  simp only [hx, if_true, yes, bne_self_eq_false, BEq.rfl, Bool.not_true, cond_false, cond_true]
  exact tK l rest (i + 1) (aF hE) (fun y hy => h y (by simp [hy]))
theorem uZ {q0 : Kd} {q1 : Kd} (x0 : List GTask) (x1 : List GTask) (e : x0 = x1) (h : an.sm x0) : Does E 31 [.one (.s .far () 5 (x0.map (GTask.t q0))), .one (.s .far () 5 (x1.map (GTask.t q1)))] [(false, [tB (yes x0 x1)])] := by
 subst e
 exact DK x0 x0 _ (by
  unfold qB
  rw [if_pos (iG h), tK x0 x0 0 rfl h.2]
  simp [yes])
noncomputable def ul (x0 x1 : GDag) : Option (Bool) :=
  cond (!(x0.f0.toList == x1.f0.toList))
   (some (false))
   (cond (!(x0.f1.toList == x1.f1.toList))
    (some (false))
    (cond (x0.f2 != x1.f2)
     (some (false))
     (cond (x0.f3 != x1.f3)
      (some (false))
      (cond (!(x0.f4 == x1.f4))
       (some (false))
       (if x0.f5 = x1.f5 then if an.sm x0.f5 then cond (yes x0.f5 x1.f5)
        (some (true))
        (some (false)) else none else none)))))
theorem GS {q0 : Kd} {q1 : Kd} (x0 x1 : GDag) : Ans (ul x0 x1) (fun r => Does E 12 [.agg (GDag.t .far q0 x0), .agg (GDag.t .far q1 x1)] [(false, [tB r])]) := by
 unfold ul
 refine KO (fun h0 => ?_) (fun h0 => ?_)
 ·exact KL (KK (fn := Tryz.f12) [.b true] _ rfl (fun _ => rfl) (fun k => by kernel_rfl) (AC h0 <| AN))
 ·refine KO (fun h1 => ?_) (fun h1 => ?_)
  ·exact KL (KK (fn := Tryz.f12) [.b false, .b true] _ rfl (fun _ => rfl) (fun k => by kernel_rfl) (AC h0 <| AC h1 <| AN))
  ·refine KO (fun h2 => ?_) (fun h2 => ?_)
   ·exact KL (KK (fn := Tryz.f12) [.b false, .b false, .b true] _ rfl (fun _ => rfl) (fun k => by kernel_rfl) (AC h0 <| AC h1 <| AC h2 <| AN))
   ·refine KO (fun h3 => ?_) (fun h3 => ?_)
    ·exact KL (KK (fn := Tryz.f12) [.b false, .b false, .b false, .b true] _ rfl (fun _ => rfl) (fun k => by kernel_rfl) (AC h0 <| AC h1 <| AC h2 <| AC h3 <| AN))
    ·refine KO (fun h4 => ?_) (fun h4 => ?_)
     ·exact KL (KK (fn := Tryz.f12) [.b false, .b false, .b false, .b false, .b true] _ rfl (fun _ => rfl) (fun k => by kernel_rfl) (AC h0 <| AC h1 <| AC h2 <| AC h3 <| AC h4 <| AN))
     ·refine KQ (fun h5 => ?_)
      refine KQ (fun h6 => ?_)
      refine KO (fun h7 => ?_) (fun h7 => ?_)
      ·exact KL (KK (fn := Tryz.f12) [.b false, .b false, .b false, .b false, .b false, rT] _ rfl (fun _ => rfl) (fun k => by kernel_rfl) (AC h0 <| AC h1 <| AC h2 <| AC h3 <| AC h4 <| AV (ψ := fun k => E.C k 31 [.one (.s .far () 5 (x0.f5.map (GTask.t q0))), .one (.s .far () 5 (x1.f5.map (GTask.t q1)))] = some [(false, [tB true])]) (KR (uZ x0.f5 x1.f5 h5 h6) (by rw [h7])) <| AN))
      ·exact KL (KK (fn := Tryz.f12) [.b false, .b false, .b false, .b false, .b false, rF] _ rfl (fun _ => rfl) (fun k => by kernel_rfl) (AC h0 <| AC h1 <| AC h2 <| AC h3 <| AC h4 <| AV (ψ := fun k => E.C k 31 [.one (.s .far () 5 (x0.f5.map (GTask.t q0))), .one (.s .far () 5 (x1.f5.map (GTask.t q1)))] = some [(false, [tB false])]) (KR (uZ x0.f5 x1.f5 h5 h6) (by rw [h7])) <| AN))
theorem cv {q0 : Kd} {q1 : Kd} (x0 : GDag) (x1 : GDag) (e : x0 = x1) (h : an.sm x0) : Does E 12 [.agg (GDag.t .far q0 x0), .agg (GDag.t .far q1 x1)] [(false, [tB (yes x0 x1)])] := by
 subst e
 obtain ⟨w0, w1, w5⟩ := h
 exact GS x0 x0 _ (by
  unfold ul
  simp only [w5, if_true, yes, bne_self_eq_false, BEq.rfl, Bool.not_true, cond_false, cond_true])
end Go.Proofs.YtjfbofdmjihglaaGreatDoor.Am
