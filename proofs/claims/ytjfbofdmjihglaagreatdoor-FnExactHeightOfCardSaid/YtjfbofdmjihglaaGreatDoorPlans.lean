/- Plans. -/
import Derived.Test.YtjfbofdmjihglaaGreatDoorRules
namespace Go.Proofs.YtjfbofdmjihglaaGreatDoor.Am
open Go Go.Proofs Classical
set_option maxRecDepth 100000
set_option linter.unusedVariables false
set_option linter.unusedSimpArgs false
inductive vD where
 | ret (v2 : Bool)
 | x0 
def cN (v0 : ByteArray) (v3 : Int) : US := stL 46 [(0, .one (tS v0)), (3, .one (tI v3))]
def fO (zv2 : Bool) : US := stL 46 [(2, .one (tB zv2))]
def ov  : US := stL 46 []
abbrev fG : US → Exit → US → Prop := Round E 57 (aw Tryz.f57 0)
def DY (v0 : ByteArray) (v3 : Int) : vD → Prop
 | .ret zv2 => Loops E 57 (aw Tryz.f57 0) (cN v0 v3) .ret (fO zv2)
 | .x0 => Loops E 57 (aw Tryz.f57 0) (cN v0 v3) (.exit 0) (ov)
noncomputable def eN  : List Int → Nat → Option vD
 | [], i => some (.x0)
 | hd :: rest, i => cond (decide (hd < (97 : Int)))
  (cond (decide (hd < (48 : Int)))
   (some (.ret false))
   (cond (decide (hd > (57 : Int)))
    (some (.ret false))
    (eN rest (i + 1))))
  (cond (decide (hd > (122 : Int)))
   (cond (decide (hd < (48 : Int)))
    (some (.ret false))
    (cond (decide (hd > (57 : Int)))
     (some (.ret false))
     (eN rest (i + 1))))
   (eN rest (i + 1)))
theorem DX (v0 : ByteArray) (rest : List Int) : ∀ (i : Nat) , (bL v0).drop i = rest → v0.size ≤ 9223372036854775807 → Ans (eN rest i) (DY v0 (i : Int)) := by
 induction rest with
 | nil =>
  intro i hE hl
  have hb := po hE
  unfold eN
  exact KL (KN (show fG (cN v0 (i : Int)) (.exit 0) (ov) from KJ [.b false] _ (fun k => by kernel_rfl) (AC hb <| AN)) (by intro h; cases h))
 | cons hd rest ih =>
  intro i hE hl
  have hb := nR hE
  have hw := nS hE hl
  have hE2 := aF hE
  have hp := qZ hE
  obtain rfl := qY hE
  unfold eN
  refine KO (fun h2 => ?_) (fun h2 => ?_)
  ·refine KO (fun h3 => ?_) (fun h3 => ?_)
   ·exact KL (KN (show fG (cN v0 (i : Int)) .ret (fO false) from KJ [.b true, .b true, .b true] _ (fun k => by kernel_rfl) (AC hb <| AC hp <| AC h2 <| AC hp <| AC h3 <| AN)) (by intro h; cases h))
   ·refine KO (fun h4 => ?_) (fun h4 => ?_)
    ·exact KL (KN (show fG (cN v0 (i : Int)) .ret (fO false) from KJ [.b true, .b true, .b false, .b true] _ (fun k => by kernel_rfl) (AC hb <| AC hp <| AC h2 <| AC hp <| AC h3 <| AC hp <| AC h4 <| AN)) (by intro h; cases h))
    ·exact (ih (i + 1) hE2 hl).mono fun y hy => by have r : fG (cN v0 (i : Int)) .normal (cN v0 (inc (i : Int))) := KJ [.b true, .b true, .b false, .b false] _ (fun k => by kernel_rfl) (AC hb <| AC hp <| AC h2 <| AC hp <| AC h3 <| AC hp <| AC h4 <| AN); rw [hw] at r; cases y <;> exact KM r hy
  ·refine KO (fun h3 => ?_) (fun h3 => ?_)
   ·refine KO (fun h4 => ?_) (fun h4 => ?_)
    ·exact KL (KN (show fG (cN v0 (i : Int)) .ret (fO false) from KJ [.b true, .b false, .b true, .b true] _ (fun k => by kernel_rfl) (AC hb <| AC hp <| AC h2 <| AC hp <| AC h3 <| AC hp <| AC h4 <| AN)) (by intro h; cases h))
    ·refine KO (fun h5 => ?_) (fun h5 => ?_)
     ·exact KL (KN (show fG (cN v0 (i : Int)) .ret (fO false) from KJ [.b true, .b false, .b true, .b false, .b true] _ (fun k => by kernel_rfl) (AC hb <| AC hp <| AC h2 <| AC hp <| AC h3 <| AC hp <| AC h4 <| AC hp <| AC h5 <| AN)) (by intro h; cases h))
     ·exact (ih (i + 1) hE2 hl).mono fun y hy => by have r : fG (cN v0 (i : Int)) .normal (cN v0 (inc (i : Int))) := KJ [.b true, .b false, .b true, .b false, .b false] _ (fun k => by kernel_rfl) (AC hb <| AC hp <| AC h2 <| AC hp <| AC h3 <| AC hp <| AC h4 <| AC hp <| AC h5 <| AN); rw [hw] at r; cases y <;> exact KM r hy
   ·exact (ih (i + 1) hE2 hl).mono fun y hy => by have r : fG (cN v0 (i : Int)) .normal (cN v0 (inc (i : Int))) := KJ [.b true, .b false, .b false] _ (fun k => by kernel_rfl) (AC hb <| AC hp <| AC h2 <| AC hp <| AC h3 <| AN); rw [hw] at r; cases y <;> exact KM r hy
noncomputable def oT (x0 : ByteArray) : Option (Bool) :=
  cond (aH (x0.size : Int) (1 : Int) (8 : Int))
   (if 0 ≤ (0 : Int) ∧ (0 : Int) < (x0.size : Int) then cond (decide ((fy x0 (0 : Int)) < (97 : Int)))
    (some (false))
    (cond (decide ((fy x0 (0 : Int)) > (122 : Int)))
     (some (false))
     (if x0.size ≤ 9223372036854775807 then (eN (bL x0) 0).bind fun y => match y with
      | .ret w0_2 => (some (w0_2))
      | .x0 => (some (true)) else none)) else none)
   (some (false))
theorem FV (x0 : ByteArray) : Ans (oT x0) (fun r => Does E 57 [.one (tS x0)] [(false, [tB r])]) := by
 unfold oT
 refine KO (fun h0 => ?_) (fun h0 => ?_)
 ·refine KQ (fun h1 => ?_)
  refine KO (fun h2 => ?_) (fun h2 => ?_)
  ·exact KL (KK (fn := Tryz.f57) [rT, .b true] _ rfl (fun _ => rfl) (fun k => by kernel_rfl) (AD (KT (bo (x0.size : Int) (1 : Int) (8 : Int)) h0) <| AC h1 <| AC h2 <| AN))
  ·refine KO (fun h3 => ?_) (fun h3 => ?_)
   ·exact KL (KK (fn := Tryz.f57) [rT, .b false, .b true] _ rfl (fun _ => rfl) (fun k => by kernel_rfl) (AD (KT (bo (x0.size : Int) (1 : Int) (8 : Int)) h0) <| AC h1 <| AC h2 <| AC h1 <| AC h3 <| AN))
   ·refine KQ (fun hl4 => ?_)
    refine KP (fun y hy => ?_)
    replace hy := DX x0 (bL x0) 0 rfl hl4 y hy
    cases y with
    | ret w0_2 =>
     have h4 := hy
     exact KL (KK (fn := Tryz.f57) [rT, .b false, .b false, .lp .ret (fO w0_2)] _ rfl (fun _ => rfl) (fun k => by kernel_rfl) (AD (KT (bo (x0.size : Int) (1 : Int) (8 : Int)) h0) <| AC h1 <| AC h2 <| AC h1 <| AC h3 <| AL h4 <| AN))
    | x0 =>
     have h4 := hy
     exact KL (KK (fn := Tryz.f57) [rT, .b false, .b false, .lp (.exit 0) (ov)] _ rfl (fun _ => rfl) (fun k => by kernel_rfl) (AD (KT (bo (x0.size : Int) (1 : Int) (8 : Int)) h0) <| AC h1 <| AC h2 <| AC h1 <| AC h3 <| AL h4 <| AN))
 ·exact KL (KK (fn := Tryz.f57) [rF] _ rfl (fun _ => rfl) (fun k => by kernel_rfl) (AD (KT (bo (x0.size : Int) (1 : Int) (8 : Int)) h0) <| AN))
inductive vm where
 | ret (v2 : Bool)
 | x0 
def cd (v0 : ByteArray) (v3 : Int) : US := stL 42 [(0, .one (tS v0)), (3, .one (tI v3))]
def dV (zv2 : Bool) : US := stL 42 [(2, .one (tB zv2))]
def ob (v0 : ByteArray) : US := stL 42 [(0, .one (tS v0))]
abbrev d3 : US → Exit → US → Prop := Round E 44 (aw Tryz.f44 0)
def Dz (v0 : ByteArray) (v3 : Int) : vm → Prop
 | .ret zv2 => Loops E 44 (aw Tryz.f44 0) (cd v0 v3) .ret (dV zv2)
 | .x0 => Loops E 44 (aw Tryz.f44 0) (cd v0 v3) (.exit 0) (ob v0)
noncomputable def d6  : List Int → Nat → Option vm
 | [], i => some (.x0)
 | hd :: rest, i => cond (decide (hd ≥ (97 : Int)))
  (cond (decide (hd ≤ (122 : Int)))
   (d6 rest (i + 1))
   (cond ((i : Int) == (0 : Int))
    (some (.ret false))
    (cond (decide (hd < (48 : Int)))
     (some (.ret false))
     (cond (decide (hd > (57 : Int)))
      (some (.ret false))
      (d6 rest (i + 1))))))
  (cond ((i : Int) == (0 : Int))
   (some (.ret false))
   (cond (decide (hd < (48 : Int)))
    (some (.ret false))
    (cond (decide (hd > (57 : Int)))
     (some (.ret false))
     (d6 rest (i + 1)))))
theorem Dy (v0 : ByteArray) (rest : List Int) : ∀ (i : Nat) , (bL v0).drop i = rest → v0.size ≤ 9223372036854775807 → Ans (d6 rest i) (Dz v0 (i : Int)) := by
 induction rest with
 | nil =>
  intro i hE hl
  have hb := po hE
  unfold d6
  exact KL (KN (show d3 (cd v0 (i : Int)) (.exit 0) (ob v0) from KJ [.b false] _ (fun k => by kernel_rfl) (AC hb <| AN)) (by intro h; cases h))
 | cons hd rest ih =>
  intro i hE hl
  have hb := nR hE
  have hw := nS hE hl
  have hE2 := aF hE
  have hp := qZ hE
  obtain rfl := qY hE
  unfold d6
  refine KO (fun h2 => ?_) (fun h2 => ?_)
  ·refine KO (fun h3 => ?_) (fun h3 => ?_)
   ·exact (ih (i + 1) hE2 hl).mono fun y hy => by have r : d3 (cd v0 (i : Int)) .normal (cd v0 (inc (i : Int))) := KJ [.b true, .b true, .b true] _ (fun k => by kernel_rfl) (AC hb <| AC hp <| AC h2 <| AC hp <| AC h3 <| AN); rw [hw] at r; cases y <;> exact KM r hy
   ·refine KO (fun h4 => ?_) (fun h4 => ?_)
    ·exact KL (KN (show d3 (cd v0 (i : Int)) .ret (dV false) from KJ [.b true, .b true, .b false, .b true] _ (fun k => by kernel_rfl) (AC hb <| AC hp <| AC h2 <| AC hp <| AC h3 <| AC h4 <| AN)) (by intro h; cases h))
    ·refine KO (fun h5 => ?_) (fun h5 => ?_)
     ·exact KL (KN (show d3 (cd v0 (i : Int)) .ret (dV false) from KJ [.b true, .b true, .b false, .b false, .b true] _ (fun k => by kernel_rfl) (AC hb <| AC hp <| AC h2 <| AC hp <| AC h3 <| AC h4 <| AC hp <| AC h5 <| AN)) (by intro h; cases h))
     ·refine KO (fun h6 => ?_) (fun h6 => ?_)
      ·exact KL (KN (show d3 (cd v0 (i : Int)) .ret (dV false) from KJ [.b true, .b true, .b false, .b false, .b false, .b true] _ (fun k => by kernel_rfl) (AC hb <| AC hp <| AC h2 <| AC hp <| AC h3 <| AC h4 <| AC hp <| AC h5 <| AC hp <| AC h6 <| AN)) (by intro h; cases h))
      ·exact (ih (i + 1) hE2 hl).mono fun y hy => by have r : d3 (cd v0 (i : Int)) .normal (cd v0 (inc (i : Int))) := KJ [.b true, .b true, .b false, .b false, .b false, .b false] _ (fun k => by kernel_rfl) (AC hb <| AC hp <| AC h2 <| AC hp <| AC h3 <| AC h4 <| AC hp <| AC h5 <| AC hp <| AC h6 <| AN); rw [hw] at r; cases y <;> exact KM r hy
  ·refine KO (fun h3 => ?_) (fun h3 => ?_)
   ·exact KL (KN (show d3 (cd v0 (i : Int)) .ret (dV false) from KJ [.b true, .b false, .b true] _ (fun k => by kernel_rfl) (AC hb <| AC hp <| AC h2 <| AC h3 <| AN)) (by intro h; cases h))
   ·refine KO (fun h4 => ?_) (fun h4 => ?_)
    ·exact KL (KN (show d3 (cd v0 (i : Int)) .ret (dV false) from KJ [.b true, .b false, .b false, .b true] _ (fun k => by kernel_rfl) (AC hb <| AC hp <| AC h2 <| AC h3 <| AC hp <| AC h4 <| AN)) (by intro h; cases h))
    ·refine KO (fun h5 => ?_) (fun h5 => ?_)
     ·exact KL (KN (show d3 (cd v0 (i : Int)) .ret (dV false) from KJ [.b true, .b false, .b false, .b false, .b true] _ (fun k => by kernel_rfl) (AC hb <| AC hp <| AC h2 <| AC h3 <| AC hp <| AC h4 <| AC hp <| AC h5 <| AN)) (by intro h; cases h))
     ·exact (ih (i + 1) hE2 hl).mono fun y hy => by have r : d3 (cd v0 (i : Int)) .normal (cd v0 (inc (i : Int))) := KJ [.b true, .b false, .b false, .b false, .b false] _ (fun k => by kernel_rfl) (AC hb <| AC hp <| AC h2 <| AC h3 <| AC hp <| AC h4 <| AC hp <| AC h5 <| AN); rw [hw] at r; cases y <;> exact KM r hy
noncomputable def oJ (x0 : ByteArray) : Option (Bool) :=
  if x0.size ≤ 9223372036854775807 then (d6 (bL x0) 0).bind fun y => match y with
   | .ret w0_2 => (some (w0_2))
   | .x0 => (some (aH (x0.size : Int) (1 : Int) (8 : Int))) else none
theorem Ft (x0 : ByteArray) : Ans (oJ x0) (fun r => Does E 44 [.one (tS x0)] [(false, [tB r])]) := by
 unfold oJ
 refine KQ (fun hl1 => ?_)
 refine KP (fun y hy => ?_)
 replace hy := Dy x0 (bL x0) 0 rfl hl1 y hy
 cases y with
 | ret w0_2 =>
  have h0 := hy
  exact KL (KK (fn := Tryz.f44) [.lp .ret (dV w0_2)] _ rfl (fun _ => rfl) (fun k => by kernel_rfl) (AL h0 <| AN))
 | x0 =>
  have h0 := hy
  exact KL (KK (fn := Tryz.f44) [.lp (.exit 0) (ob x0), .ret [(false, [tB (aH (x0.size : Int) (1 : Int) (8 : Int))])]] _ rfl (fun _ => rfl) (fun k => by kernel_rfl) (AL h0 <| AD (cL (x0.size : Int) (1 : Int) (8 : Int)) <| AN))
def qD (h : Int) : Bool := decide (97 ≤ h ∧ h ≤ 122)
def lfI (h : Int) : Bool := decide (97 ≤ h ∧ h ≤ 122 ∨ 48 ≤ h ∧ h ≤ 57)
def IA : List Int → Bool
 | [] => true
 | h :: l => qD h && l.all lfI
def dG (s : ByteArray) : Bool := aH (s.size : Int) 1 8 && IA (bL s)
theorem Jv {α : Type} (h : Int) (A B : α) : cond (decide (h < 97)) (cond (decide (h < 48)) A (cond (decide (h > 57)) A B)) (cond (decide (h > 122)) (cond (decide (h < 48)) A (cond (decide (h > 57)) A B)) B) = cond (lfI h) B A := by
 unfold lfI
 simp only [Bool.cond_decide]
 repeat' split
 all_goals first | rfl | (exfalso; omega)
theorem I3 {α : Type} (h : Int) (A B : α) : cond (decide (h ≥ 97)) (cond (decide (h ≤ 122)) B (cond (decide (h < 48)) A (cond (decide (h > 57)) A B))) (cond (decide (h < 48)) A (cond (decide (h > 57)) A B)) = cond (lfI h) B A := by
 unfold lfI
 simp only [Bool.cond_decide]
 repeat' split
 all_goals first | rfl | (exfalso; omega)
theorem IZ {α : Type} (h : Int) (A B : α) : cond (decide (h ≥ 97)) (cond (decide (h ≤ 122)) B A) A = cond (qD h) B A := by
 unfold qD
 simp only [Bool.cond_decide]
 repeat' split
 all_goals first | rfl | (exfalso; omega)
theorem Ju {h : Int} (q : qD h = true) : lfI h = true := by
 unfold qD at q
 unfold lfI
 simp only [decide_eq_true_eq] at q ⊢
 exact .inl q
theorem EC : ∀ (l : List Int) (i : Nat), eN l i = some (cond (l.all lfI) .x0 (.ret false))
 | [], i => rfl
 | h :: l, i => by
  unfold eN
  rw [EC l (i + 1), List.all_cons, Jv]
  cases lfI h <;> rfl
theorem EB : ∀ (l : List Int) (i : Nat), d6 l (i + 1) = some (cond (l.all lfI) .x0 (.ret false))
 | [], i => rfl
 | h :: l, i => by
  unfold d6
  have e : (((i + 1 : Nat) : Int) == 0) = false := by rw [beq_eq_false_iff_ne]; omega
  rw [EB l (i + 1), List.all_cons, e]
  simp only [cond_false]
  rw [I3]
  cases lfI h <;> rfl
theorem Jy (s : ByteArray) (hs : s.size ≤ 2000000) : oT s = some (dG s) := by
 unfold oT dG
 cases q : aH (s.size : Int) 1 8 with
 | false => rfl
 | true =>
  have hr : 1 ≤ (s.size : Int) ∧ (s.size : Int) ≤ 8 := by unfold aH at q; simpa using q
  rw [cond_true, if_pos (by omega), if_pos (by omega), Bool.true_and, EC]
  have h0 := qL s 0 (by omega)
  cases e : bL s with
  | nil => rw [e] at h0; cases h0
  | cons h l =>
   rw [e] at h0
   have hb : h = fy s (0 : Int) := Option.some.inj h0
   rw [← hb]
   show _ = some (qD h && l.all lfI)
   rw [List.all_cons]
   have k : ∀ (X : Option Bool), cond (decide (h < 97)) (some false) (cond (decide (h > 122)) (some false) X) = cond (qD h) X (some false) := fun X => by
    unfold qD
    simp only [Bool.cond_decide]
    repeat' split
    all_goals first | rfl | (exfalso; omega)
   rw [k]
   cases q2 : qD h with
   | false => rfl
   | true =>
    rw [Ju q2]
    cases l.all lfI <;> rfl
theorem Jx (s : ByteArray) (hs : s.size ≤ 2000000) : oJ s = some (dG s) := by
 unfold oJ dG
 rw [if_pos (by omega)]
 cases e : bL s with
 | nil =>
  show some (aH (s.size : Int) 1 8) = some (aH (s.size : Int) 1 8 && true)
  rw [Bool.and_true]
 | cons h l =>
  unfold d6 IA
  have e0 : (((0 : Nat) : Int) == 0) = true := rfl
  rw [EB l 0, e0]
  simp only [cond_true]
  rw [IZ]
  cases qD h with
  | false => rw [Bool.false_and, Bool.and_false]; rfl
  | true =>
   rw [cond_true, Bool.true_and, Option.bind_some]
   cases l.all lfI with
   | false => rw [Bool.and_false]; rfl
   | true => rw [Bool.and_true]; rfl
theorem cw (x0 : ByteArray) (h : x0.size ≤ 2000000) : Does E 57 [.one (tS x0)] [(false, [tB (dG x0)])] := by
 exact FV x0 _ (Jy x0 h)
theorem cT (x0 : ByteArray) (h : x0.size ≤ 2000000) : Does E 44 [.one (tS x0)] [(false, [tB (dG x0)])] := by
 exact Ft x0 _ (Jx x0 h)
noncomputable def j6 (x0 : ByteArray) : Option (Int) :=
  cond (x0.toList == (⟨#[111, 110, 101]⟩ : ByteArray).toList)
   (some ((1 : Int)))
   (cond (x0.toList == (⟨#[116, 119, 111]⟩ : ByteArray).toList)
    (some ((2 : Int)))
    (cond (x0.toList == (⟨#[119, 105, 100, 101]⟩ : ByteArray).toList)
     (some ((4 : Int)))
     (some ((0 : Int)))))
theorem CB (x0 : ByteArray) : Ans (j6 x0) (fun r => Does E 80 [.one (tS x0)] [(false, [tI r])]) := by
 unfold j6
 refine KO (fun h0 => ?_) (fun h0 => ?_)
 ·exact KL (KK (fn := Tryz.f80) [.b true] _ rfl (fun _ => rfl) (fun k => by kernel_rfl) (AC h0 <| AN))
 ·refine KO (fun h1 => ?_) (fun h1 => ?_)
  ·exact KL (KK (fn := Tryz.f80) [.b false, .b true] _ rfl (fun _ => rfl) (fun k => by kernel_rfl) (AC h0 <| AC h1 <| AN))
  ·refine KO (fun h2 => ?_) (fun h2 => ?_)
   ·exact KL (KK (fn := Tryz.f80) [.b false, .b false, .b true] _ rfl (fun _ => rfl) (fun k => by kernel_rfl) (AC h0 <| AC h1 <| AC h2 <| AN))
   ·exact KL (KK (fn := Tryz.f80) [.b false, .b false, .b false] _ rfl (fun _ => rfl) (fun k => by kernel_rfl) (AC h0 <| AC h1 <| AC h2 <| AN))
noncomputable def t8 (x0 : ByteArray) : Option (Int) :=
  cond (x0.toList == (⟨#[111, 110, 101]⟩ : ByteArray).toList)
   (some ((1 : Int)))
   (cond (x0.toList == (⟨#[116, 119, 111]⟩ : ByteArray).toList)
    (some ((2 : Int)))
    (cond (x0.toList == (⟨#[119, 105, 100, 101]⟩ : ByteArray).toList)
     (some ((4 : Int)))
     (some ((0 : Int)))))
theorem BI (x0 : ByteArray) : Ans (t8 x0) (fun r => Does E 70 [.one (tS x0)] [(false, [tI r])]) := by
 unfold t8
 refine KO (fun h0 => ?_) (fun h0 => ?_)
 ·exact KL (KK (fn := Tryz.f70) [.b true] _ rfl (fun _ => rfl) (fun k => by kernel_rfl) (AC h0 <| AN))
 ·refine KO (fun h1 => ?_) (fun h1 => ?_)
  ·exact KL (KK (fn := Tryz.f70) [.b false, .b true] _ rfl (fun _ => rfl) (fun k => by kernel_rfl) (AC h0 <| AC h1 <| AN))
  ·refine KO (fun h2 => ?_) (fun h2 => ?_)
   ·exact KL (KK (fn := Tryz.f70) [.b false, .b false, .b true] _ rfl (fun _ => rfl) (fun k => by kernel_rfl) (AC h0 <| AC h1 <| AC h2 <| AN))
   ·exact KL (KK (fn := Tryz.f70) [.b false, .b false, .b false] _ rfl (fun _ => rfl) (fun k => by kernel_rfl) (AC h0 <| AC h1 <| AC h2 <| AN))
noncomputable def bN (s : ByteArray) : Int := (j6 s).getD 0
theorem Ci (s : ByteArray) : j6 s = some (bN s) := by
 refine Tot.getD ?_ _
 unfold j6
 repeat' (first | exact Tot.some _ | apply Tot.cond)
theorem l4 (x0 : ByteArray) : Does E 80 [.one (tS x0)] [(false, [tI (bN x0)])] := by
 exact CB x0 _ (Ci x0)
theorem jF (x0 : ByteArray) : Does E 70 [.one (tS x0)] [(false, [tI (bN x0)])] := by
 exact BI x0 _ (Ci x0)
inductive xy where
 | ret (v4 : Int)
 | x0 
def kF (q0 : Kd) (v0 : List GTask) (v1 : ByteArray) (v5 : Int) : US := stL 20 [(0, .one (.s .far () 5 (v0.map (GTask.t q0)))), (1, .one (tS v1)), (5, .one (tI v5))]
def oz (q0 : Kd) (zv4 : Int) : US := stL 20 [(4, .one (tI zv4))]
def pM (q0 : Kd)  : US := stL 20 []
abbrev sr : US → Exit → US → Prop := Round E 63 (aw Tryz.f63 0)
def FZ {q0 : Kd} (v0 : List GTask) (v1 : ByteArray) (v5 : Int) : xy → Prop
 | .ret zv4 => Loops E 63 (aw Tryz.f63 0) (kF q0 v0 v1 v5) .ret (oz q0 zv4)
 | .x0 => Loops E 63 (aw Tryz.f63 0) (kF q0 v0 v1 v5) (.exit 0) (pM q0)
noncomputable def iW (v1 : ByteArray) : List GTask → Nat → Option xy
 | [], i => some (.x0)
 | hd :: rest, i => cond (hd.f0.toList == v1.toList)
  (some (.ret (i : Int)))
  (iW v1 rest (i + 1))
theorem FY {q0 : Kd} (v0 : List GTask) (v1 : ByteArray) (rest : List GTask) : ∀ (i : Nat) , (v0).drop i = rest → v0.length ≤ 9223372036854775807 → Ans (iW v1 rest i) (FZ (q0 := q0) v0 v1 (i : Int)) := by
 induction rest with
 | nil =>
  intro i hE hl
  have hb := bd hE
  unfold iW
  exact KL (KN (show sr (kF q0 v0 v1 (i : Int)) (.exit 0) (pM q0) from KJ [.val (.int .i64 (v0.length : Int)), .b false] _ (fun k => by kernel_rfl) (ALn v0 (GTask.t q0) <| AC hb <| AN)) (by intro h; cases h))
 | cons hd rest ih =>
  intro i hE hl
  have hb := aQ hE
  have hw := aR hE hl
  have hE2 := aF hE
  have hg := aS hE
  unfold iW
  refine KO (fun h2 => ?_) (fun h2 => ?_)
  ·exact KL (KN (show sr (kF q0 v0 v1 (i : Int)) .ret (oz q0 (i : Int)) from KJ [.val (.int .i64 (v0.length : Int)), .b true, .row ((GTask.t q0) hd), .b true] _ (fun k => by kernel_rfl) (ALn v0 (GTask.t q0) <| AC hb <| AR (GTask.t q0) hg <| AC h2 <| AN)) (by intro h; cases h))
  ·exact (ih (i + 1) hE2 hl).mono fun y hy => by have r : sr (kF q0 v0 v1 (i : Int)) .normal (kF q0 v0 v1 (inc (i : Int))) := KJ [.val (.int .i64 (v0.length : Int)), .b true, .row ((GTask.t q0) hd), .b false] _ (fun k => by kernel_rfl) (ALn v0 (GTask.t q0) <| AC hb <| AR (GTask.t q0) hg <| AC h2 <| AN); rw [hw] at r; cases y <;> exact KM r hy
noncomputable def uJ (x0 : List GTask) (x1 : ByteArray) : Option (Int) :=
  if x0.length ≤ 9223372036854775807 then (iW x1 x0 0).bind fun y => match y with
   | .ret w0_4 => (some (w0_4))
   | .x0 => (some ((-1 : Int))) else none
theorem Hm {q0 : Kd} (x0 : List GTask) (x1 : ByteArray) : Ans (uJ x0 x1) (fun r => Does E 63 [.one (.s .far () 5 (x0.map (GTask.t q0))), .one (tS x1)] [(false, [tI r])]) := by
 unfold uJ
 refine KQ (fun hl1 => ?_)
 refine KP (fun y hy => ?_)
 replace hy := FY (q0 := q0) x0 x1 x0 0 rfl hl1 y hy
 cases y with
 | ret w0_4 =>
  have h0 := hy
  exact KL (KK (fn := Tryz.f63) [.lp .ret (oz q0 w0_4)] _ rfl (fun _ => rfl) (fun k => by kernel_rfl) (AL h0 <| AN))
 | x0 =>
  have h0 := hy
  exact KL (KK (fn := Tryz.f63) [.lp (.exit 0) (pM q0)] _ rfl (fun _ => rfl) (fun k => by kernel_rfl) (AL h0 <| AN))
noncomputable def ua (x0 : GTask) (y0 : ByteArray) : Option (Bool) :=
  some (x0.f0.toList == y0.toList)
theorem BJ (x0 : GTask) (y0 : ByteArray) : Ans (ua x0 y0) (fun r => Does E 71 [.agg (GTask.t .far x0), .im .far () [tS y0] 0] [(false, [tB r])]) := by
 unfold ua
 exact KL (KK (fn := Tryz.f71) [] _ rfl (fun _ => rfl) (fun k => by kernel_rfl) AN)
def iy (x : GTask) (n : ByteArray) : Bool := x.f0.toList == n.toList
def l6 (n : ByteArray) : List GTask → Nat → Int
 | [], _ => -1
 | t :: r, i => cond (iy t n) (i : Int) (l6 n r (i + 1))
def ar (ts : List GTask) (n : ByteArray) : Int := l6 n ts 0
theorem l7 (n : ByteArray) : ∀ (l : List GTask) (i : Nat), (l6 n l i = -1 ∧ ∀ t ∈ l, iy t n = false) ∨ ∃ (k : Nat) (t : GTask), l6 n l i = ((i + k : Nat) : Int) ∧ l[k]? = some t ∧ iy t n = true
 | [], i => .inl ⟨rfl, fun t ht => by cases ht⟩
 | t :: l, i => by
  unfold l6
  cases q : iy t n with
  | true => exact .inr ⟨0, t, rfl, rfl, q⟩
  | false =>
   rw [cond_false]
   rcases l7 n l (i + 1) with ⟨h, h'⟩ | ⟨k, u, h1, h2, h3⟩
   ·exact .inl ⟨h, fun u hu => by rcases List.mem_cons.1 hu with rfl | hu; exact q; exact h' u hu⟩
   ·exact .inr ⟨k + 1, u, by rw [h1]; omega, h2, h3⟩
theorem F3 (ts : List GTask) (n : ByteArray) : -1 ≤ ar ts n ∧ ar ts n < (ts.length : Int) := by
 unfold ar
 rcases l7 n ts 0 with ⟨h, _⟩ | ⟨k, t, h1, h2, _⟩
 ·rw [h]; omega
 ·have : k < ts.length := by
   rcases Nat.lt_or_ge k ts.length with g | g
   ·exact g
   ·rw [List.getElem?_eq_none g] at h2; cases h2
  rw [h1]; omega
theorem Ef {ts : List GTask} {n : ByteArray} (h : 0 ≤ ar ts n) : ∃ t ∈ ts, tx t.f0 = tx n := by
 unfold ar at h
 rcases l7 n ts 0 with ⟨h', _⟩ | ⟨k, t, h1, h2, h3⟩
 ·rw [h'] at h; omega
 ·unfold iy at h3
  rw [iZ, decide_eq_true_eq] at h3
  exact ⟨t, List.mem_of_getElem? h2, h3⟩
theorem Jk (n : ByteArray) : ∀ (l : List GTask) (i : Nat), (iW n l i).bind (fun y => match y with
   | .ret w0_4 => (some (w0_4))
   | .x0 => (some ((-1 : Int)))) = some (l6 n l i)
 | [], i => rfl
 | t :: l, i => by
  unfold iW l6
  have e : (t.f0.toList == n.toList) = iy t n := rfl
  rw [e]
  cases iy t n with
  | true => rfl
  | false => exact Jk n l (i + 1)
theorem tz (x0 : GTask) (y0 : ByteArray) : Does E 71 [.agg (GTask.t .far x0), .im .far () [tS y0] 0] [(false, [tB (iy x0 y0)])] := by
 exact BJ x0 y0 _ rfl
theorem eQ {q0 : Kd} (x0 : List GTask) (x1 : ByteArray) (h : x0.length ≤ 1050000) : Does E 63 [.one (.s .far () 5 (x0.map (GTask.t q0))), .one (tS x1)] [(false, [tI (ar x0 x1)])] := by
 exact Hm x0 x1 _ (by unfold uJ; rw [if_pos (by omega)]; exact Jk x1 x0 0)
inductive fh where
 | ret (v4 : Int)
 | x0 
def bu (q0 : Kd) (v0 : List GTask) (v1_0_0 : ByteArray) (v7 v8 : Int) : US := stL 19 [(0, .one (.s .far () 5 (v0.map (GTask.t q0)))), (1, .fni 71 [((), [tS v1_0_0])]), (7, .one (tI v7)), (8, .one (tI v8))]
def cR (q0 : Kd) (zv4 : Int) : US := stL 19 [(4, .one (tI zv4))]
def cW (q0 : Kd)  : US := stL 19 []
abbrev dj : US → Exit → US → Prop := Round E 49 (aw Tryz.f49 0)
def kI {q0 : Kd} (v0 : List GTask) (v1_0_0 : ByteArray) (v7 v8 : Int) : fh → Prop
 | .ret zv4 => Loops E 49 (aw Tryz.f49 0) (bu q0 v0 v1_0_0 v7 v8) .ret (cR q0 zv4)
 | .x0 => Loops E 49 (aw Tryz.f49 0) (bu q0 v0 v1_0_0 v7 v8) (.exit 0) (cW q0)
noncomputable def bf (v1_0_0 : ByteArray) : List GTask → Nat → Option fh
 | [], i => some (.x0)
 | hd :: rest, i => cond (iy hd v1_0_0)
  (some (.ret (i : Int)))
  (bf v1_0_0 rest (i + 1))
theorem kH {q0 : Kd} (v0 : List GTask) (v1_0_0 : ByteArray) (rest : List GTask) : ∀ (i : Nat) , (v0).drop i = rest → v0.length ≤ 9223372036854775807 → Ans (bf v1_0_0 rest i) (kI (q0 := q0) v0 v1_0_0 (v0.length : Int) (i : Int)) := by
 induction rest with
 | nil =>
  intro i hE hl
  have hb := bd hE
  unfold bf
  exact KL (KN (show dj (bu q0 v0 v1_0_0 (v0.length : Int) (i : Int)) (.exit 0) (cW q0) from KJ [.b false] _ (fun k => by kernel_rfl) (AC hb <| AN)) (by intro h; cases h))
 | cons hd rest ih =>
  intro i hE hl
  have hb := aQ hE
  have hw := aR hE hl
  have hE2 := aF hE
  have hg := aS hE
  unfold bf
  refine KO (fun h2 => ?_) (fun h2 => ?_)
  ·exact KL (KN (show dj (bu q0 v0 v1_0_0 (v0.length : Int) (i : Int)) .ret (cR q0 (i : Int)) from KJ [.b true, .row ((GTask.t q0) hd), rT] _ (fun k => by kernel_rfl) (AC hb <| AR (GTask.t q0) hg <| AD (KT (tz hd v1_0_0) h2) <| AN)) (by intro h; cases h))
  ·exact (ih (i + 1) hE2 hl).mono fun y hy => by have r : dj (bu q0 v0 v1_0_0 (v0.length : Int) (i : Int)) .normal (bu q0 v0 v1_0_0 (v0.length : Int) (inc (i : Int))) := KJ [.b true, .row ((GTask.t q0) hd), rF] _ (fun k => by kernel_rfl) (AC hb <| AR (GTask.t q0) hg <| AD (KT (tz hd v1_0_0) h2) <| AN); rw [hw] at r; cases y <;> exact KM r hy
noncomputable def dr (x0 : List GTask) (c1_0 : ByteArray) : Option (Int) :=
  if x0.length ≤ 9223372036854775807 then (bf c1_0 x0 0).bind fun y => match y with
   | .ret w0_4 => (some (w0_4))
   | .x0 => (some ((-1 : Int))) else none
theorem kT {q0 : Kd} (x0 : List GTask) (c1_0 : ByteArray) : Ans (dr x0 c1_0) (fun r => Does E 49 [.one (.s .far () 5 (x0.map (GTask.t q0))), .fni 71 [((), [tS c1_0])]] [(false, [tI r])]) := by
 unfold dr
 refine KQ (fun hl1 => ?_)
 refine KP (fun y hy => ?_)
 replace hy := kH (q0 := q0) x0 c1_0 x0 0 rfl hl1 y hy
 cases y with
 | ret w0_4 =>
  have h0 := hy
  exact KL (KK (fn := Tryz.f49) [.val (.int .i64 (x0.length : Int)), .lp .ret (cR q0 w0_4)] _ rfl (fun _ => rfl) (fun k => by kernel_rfl) (ALn x0 (GTask.t q0) <| AL h0 <| AN))
 | x0 =>
  have h0 := hy
  exact KL (KK (fn := Tryz.f49) [.val (.int .i64 (x0.length : Int)), .lp (.exit 0) (cW q0)] _ rfl (fun _ => rfl) (fun k => by kernel_rfl) (ALn x0 (GTask.t q0) <| AL h0 <| AN))
theorem Jj (n : ByteArray) : ∀ (l : List GTask) (i : Nat), (bf n l i).bind (fun y => match y with
   | .ret w0_4 => (some (w0_4))
   | .x0 => (some ((-1 : Int)))) = some (l6 n l i)
 | [], i => rfl
 | t :: l, i => by
  unfold bf l6
  cases iy t n with
  | true => rfl
  | false => exact Jj n l (i + 1)
theorem kK {q0 : Kd} (x0 : List GTask) (c1_0 : ByteArray) (h : x0.length ≤ 1050000) : Does E 49 [.one (.s .far () 5 (x0.map (GTask.t q0))), .fni 71 [((), [tS c1_0])]] [(false, [tI (ar x0 c1_0)])] := by
 exact kT x0 c1_0 _ (by unfold dr; rw [if_pos (by omega)]; exact Jj c1_0 x0 0)
noncomputable def rV (x0 : GDag) (x1 : ByteArray) : Option (Int) :=
  if x0.f5.length ≤ 1050000 then some (ar x0.f5 x1) else none
theorem Fu {q0 : Kd} (x0 : GDag) (x1 : ByteArray) : Ans (rV x0 x1) (fun r => Does E 48 [.agg (GDag.t .far q0 x0), .one (tS x1)] [(false, [tI r])]) := by
 unfold rV
 refine KQ (fun h0 => ?_)
 exact KL (KK (fn := Tryz.f48) [.ret [(false, [tI (ar x0.f5 x1)])]] _ rfl (fun _ => rfl) (fun k => by kernel_rfl) (AV (ψ := fun k => E.C k 49 [.one (.s .far () 5 (x0.f5.map (GTask.t q0))), .fni 71 [((), [tS x1])]] = some [(false, [tI (ar x0.f5 x1)])]) (kK x0.f5 x1 h0) <| AN))
def bC (d : GDag) (n : ByteArray) : Int := ar d.f5 n
theorem eJ {q0 : Kd} (x0 : GDag) (x1 : ByteArray) (h : x0.f5.length ≤ 1050000) : Does E 48 [.agg (GDag.t .far q0 x0), .one (tS x1)] [(false, [tI (bC x0 x1)])] := by
 exact Fu x0 x1 _ (by unfold rV; rw [if_pos h]; rfl)
end Go.Proofs.YtjfbofdmjihglaaGreatDoor.Am
namespace Go.Proofs.YtjfbofdmjihglaaGreatDoor.Am
open Go Go.Proofs Classical
set_option maxRecDepth 100000
set_option linter.unusedVariables false
set_option linter.unusedSimpArgs false
inductive qb where
 | ret (v6 : Bool)
 | x0 
def fe (q0 : Kd) (v0_0 v0_1 : ByteArray) (v0_2 v0_3 : Int) (v0_4 : Bool) (v0_5 : List GTask) (v2 : List Int) (v10 : List ByteArray) (v11 v12 : Int) : US := stL 25 [(0, .im .far () [tS v0_0, tS v0_1, tI v0_2, tI v0_3, tB v0_4, .s .far () 5 (v0_5.map (GTask.t q0))] 0), (2, .one (.s .far () 1 (v2.map etI))), (10, .one (.s .far () 1 (v10.map etS))), (11, .one (tI v11)), (12, .one (tI v12))]
def jO (q0 : Kd) (zv6 : Bool) : US := stL 25 [(6, .one (tB zv6))]
def kM (q0 : Kd)  : US := stL 25 []
abbrev mj : US → Exit → US → Prop := Round E 52 (aw Tryz.f52 0)
def wZ {q0 : Kd} (v0_0 v0_1 : ByteArray) (v0_2 v0_3 : Int) (v0_4 : Bool) (v0_5 : List GTask) (v2 : List Int) (v10 : List ByteArray) (v11 v12 : Int) : qb → Prop
 | .ret zv6 => Loops E 52 (aw Tryz.f52 0) (fe q0 v0_0 v0_1 v0_2 v0_3 v0_4 v0_5 v2 v10 v11 v12) .ret (jO q0 zv6)
 | .x0 => Loops E 52 (aw Tryz.f52 0) (fe q0 v0_0 v0_1 v0_2 v0_3 v0_4 v0_5 v2 v10 v11 v12) (.exit 0) (kM q0)
noncomputable def eg (v0_0 v0_1 : ByteArray) (v0_2 v0_3 : Int) (v0_5 : List GTask) (v2 : List Int) : List ByteArray → Nat → Bool → Option qb
 | [], i, v0_4 => some (.x0)
 | hd :: rest, i, v0_4 => if (GDag.mk v0_0 v0_1 v0_2 v0_3 v0_4 v0_5).f5.length ≤ 1050000 then if v2.length ≤ 1050000 then cond (bO v2 (bC (GDag.mk v0_0 v0_1 v0_2 v0_3 v0_4 v0_5) hd))
  (eg v0_0 v0_1 v0_2 v0_3 v0_5 v2 rest (i + 1) v0_4)
  (some (.ret false)) else none else none
theorem wY {q0 : Kd} (v0_0 v0_1 : ByteArray) (v0_2 v0_3 : Int) (v0_5 : List GTask) (v2 : List Int) (v10 : List ByteArray) (rest : List ByteArray) : ∀ (i : Nat) (v0_4 : Bool), (v10).drop i = rest → v10.length ≤ 9223372036854775807 → Ans (eg v0_0 v0_1 v0_2 v0_3 v0_5 v2 rest i v0_4) (wZ (q0 := q0) v0_0 v0_1 v0_2 v0_3 v0_4 v0_5 v2 v10 (v10.length : Int) (i : Int)) := by
 induction rest with
 | nil =>
  intro i v0_4 hE hl
  have hb := bd hE
  unfold eg
  exact KL (KN (show mj (fe q0 v0_0 v0_1 v0_2 v0_3 v0_4 v0_5 v2 v10 (v10.length : Int) (i : Int)) (.exit 0) (kM q0) from KJ [.b false] _ (fun k => by kernel_rfl) (AC hb <| AN)) (by intro h; cases h))
 | cons hd rest ih =>
  intro i v0_4 hE hl
  have hb := aQ hE
  have hw := aR hE hl
  have hE2 := aF hE
  have hg := aS hE
  unfold eg
  refine KQ (fun h2 => ?_)
  refine KQ (fun h3 => ?_)
  refine KO (fun h4 => ?_) (fun h4 => ?_)
  ·exact (ih (i + 1) v0_4 hE2 hl).mono fun y hy => by have r : mj (fe q0 v0_0 v0_1 v0_2 v0_3 v0_4 v0_5 v2 v10 (v10.length : Int) (i : Int)) .normal (fe q0 v0_0 v0_1 v0_2 v0_3 v0_4 v0_5 v2 v10 (v10.length : Int) (inc (i : Int))) := KJ [.b true, .row (etS hd), .ret [(false, [tI (bC (GDag.mk v0_0 v0_1 v0_2 v0_3 v0_4 v0_5) hd)])], rT] _ (fun k => by kernel_rfl) (AC hb <| AR etS hg <| AV (ψ := fun k => E.C k 48 [.agg (GDag.t .far q0 (GDag.mk v0_0 v0_1 v0_2 v0_3 v0_4 v0_5)), .one (tS hd)] = some [(false, [tI (bC (GDag.mk v0_0 v0_1 v0_2 v0_3 v0_4 v0_5) hd)])]) (eJ (GDag.mk v0_0 v0_1 v0_2 v0_3 v0_4 v0_5) hd h2) <| AD (KT (cX v2 (bC (GDag.mk v0_0 v0_1 v0_2 v0_3 v0_4 v0_5) hd) h3) h4) <| AN); rw [hw] at r; cases y <;> exact KM r hy
  ·exact KL (KN (show mj (fe q0 v0_0 v0_1 v0_2 v0_3 v0_4 v0_5 v2 v10 (v10.length : Int) (i : Int)) .ret (jO q0 false) from KJ [.b true, .row (etS hd), .ret [(false, [tI (bC (GDag.mk v0_0 v0_1 v0_2 v0_3 v0_4 v0_5) hd)])], rF] _ (fun k => by kernel_rfl) (AC hb <| AR etS hg <| AV (ψ := fun k => E.C k 48 [.agg (GDag.t .far q0 (GDag.mk v0_0 v0_1 v0_2 v0_3 v0_4 v0_5)), .one (tS hd)] = some [(false, [tI (bC (GDag.mk v0_0 v0_1 v0_2 v0_3 v0_4 v0_5) hd)])]) (eJ (GDag.mk v0_0 v0_1 v0_2 v0_3 v0_4 v0_5) hd h2) <| AD (KT (cX v2 (bC (GDag.mk v0_0 v0_1 v0_2 v0_3 v0_4 v0_5) hd) h3) h4) <| AN)) (by intro h; cases h))
noncomputable def kk (x0 : GDag) (x1 : GTask) (x2 : List Int) : Option (Bool) :=
  if x1.f4.length ≤ 9223372036854775807 then (eg x0.f0 x0.f1 x0.f2 x0.f3 x0.f5 x2 x1.f4 0 x0.f4).bind fun y => match y with
   | .ret w0_6 => (some (w0_6))
   | .x0 => (some (true)) else none
theorem x9 {q0 : Kd} (x0 : GDag) (x1 : GTask) (x2 : List Int) : Ans (kk x0 x1 x2) (fun r => Does E 52 [.im .far () (GDag.t .far q0 x0) 0, .agg (GTask.t .far x1), .one (.s .far () 1 (x2.map etI))] [(false, [tB r])]) := by
 unfold kk
 refine KQ (fun hl1 => ?_)
 refine KP (fun y hy => ?_)
 replace hy := wY (q0 := q0) x0.f0 x0.f1 x0.f2 x0.f3 x0.f5 x2 x1.f4 x1.f4 0 x0.f4 rfl hl1 y hy
 cases y with
 | ret w0_6 =>
  have h0 := hy
  exact KL (KK (fn := Tryz.f52) [.val (.int .i64 (x1.f4.length : Int)), .lp .ret (jO q0 w0_6)] _ rfl (fun _ => rfl) (fun k => by kernel_rfl) (ALn x1.f4 etS <| AL h0 <| AN))
 | x0 =>
  have h0 := hy
  exact KL (KK (fn := Tryz.f52) [.val (.int .i64 (x1.f4.length : Int)), .lp (.exit 0) (kM q0)] _ rfl (fun _ => rfl) (fun k => by kernel_rfl) (ALn x1.f4 etS <| AL h0 <| AN))
def p9 (ts : List GTask) (o : List Int) (t : GTask) : Bool := t.f4.all fun n => bO o (ar ts n)
def uh (d : GDag) (t : GTask) (o : List Int) : Bool := p9 d.f5 o t
theorem GH (a b : ByteArray) (c e : Int) (ts : List GTask) (o : List Int) (ht : ts.length ≤ 1050000) (ho : o.length ≤ 1050000) : ∀ (l : List ByteArray) (i : Nat) (z : Bool), eg a b c e ts o l i z = some (cond (l.all fun n => bO o (ar ts n)) .x0 (.ret false))
 | [], i, z => rfl
 | n :: l, i, z => by
  unfold eg
  rw [if_pos (show (GDag.mk a b c e z ts).f5.length ≤ 1050000 from ht), if_pos ho, List.all_cons, GH a b c e ts o ht ho l (i + 1) z]
  show cond (bO o (ar ts n)) _ _ = _
  cases bO o (ar ts n) <;> rfl
theorem Js (d : GDag) (t : GTask) (o : List Int) (h1 : d.f5.length ≤ 1050000) (h2 : t.f4.length ≤ 1050000) (h3 : o.length ≤ 1050000) : kk d t o = some (uh d t o) := by
 unfold kk
 rw [if_pos (by omega), GH _ _ _ _ _ _ h1 h3]
 show _ = some (t.f4.all fun n => bO o (ar d.f5 n))
 cases t.f4.all fun n => bO o (ar d.f5 n) <;> rfl
theorem xL {q0 : Kd} (x0 : GDag) (x1 : GTask) (x2 : List Int) (h1 : x0.f5.length ≤ 1050000) (h2 : x1.f4.length ≤ 1050000) (h3 : x2.length ≤ 1050000) : Does E 52 [.im .far () (GDag.t .far q0 x0) 0, .agg (GTask.t .far x1), .one (.s .far () 1 (x2.map etI))] [(false, [tB (uh x0 x1 x2)])] := by
 exact x9 x0 x1 x2 _ (Js x0 x1 x2 h1 h2 h3)
noncomputable def oc (x0 : GTask) (y0 : List Int) (y1 : GDag) : Option (Bool) :=
  if y1.f5.length ≤ 1050000 then if y0.length ≤ 1050000 then cond (bO y0 (bC y1 x0.f0))
   (some (false))
   (if x0.f4.length ≤ 1050000 then some (uh y1 x0 y0) else none) else none else none
theorem zS {qy1 : Kd} (x0 : GTask) (y0 : List Int) (y1 : GDag) : Ans (oc x0 y0 y1) (fun r => Does E 50 [.agg (GTask.t .far x0), .im .far () [.s .far () 1 (y0.map etI)] 0, .im .far () [tS y1.f0, tS y1.f1, tI y1.f2, tI y1.f3, tB y1.f4, .s .far () 5 (y1.f5.map (GTask.t qy1))] 0] [(false, [tB r])]) := by
 unfold oc
 refine KQ (fun h0 => ?_)
 refine KQ (fun h1 => ?_)
 refine KO (fun h2 => ?_) (fun h2 => ?_)
 ·exact KL (KK (fn := Tryz.f50) [.ret [(false, [tI (bC y1 x0.f0)])], rT] _ rfl (fun _ => rfl) (fun k => by kernel_rfl) (AV (ψ := fun k => E.C k 48 [.agg (GDag.t .far qy1 y1), .one (tS x0.f0)] = some [(false, [tI (bC y1 x0.f0)])]) (eJ y1 x0.f0 h0) <| AD (KT (cX y0 (bC y1 x0.f0) h1) h2) <| AN))
 ·refine KQ (fun h3 => ?_)
  exact KL (KK (fn := Tryz.f50) [.ret [(false, [tI (bC y1 x0.f0)])], rF, .ret [(false, [tB (uh y1 x0 y0)])]] _ rfl (fun _ => rfl) (fun k => by kernel_rfl) (AV (ψ := fun k => E.C k 48 [.agg (GDag.t .far qy1 y1), .one (tS x0.f0)] = some [(false, [tI (bC y1 x0.f0)])]) (eJ y1 x0.f0 h0) <| AD (KT (cX y0 (bC y1 x0.f0) h1) h2) <| AV (ψ := fun k => E.C k 52 [.im .far () [tS y1.f0, tS y1.f1, tI y1.f2, tI y1.f3, tB y1.f4, .s .far () 5 (y1.f5.map (GTask.t qy1))] 0, .agg (GTask.t .far x0), .one (.s .far () 1 (y0.map etI))] = some [(false, [tB (uh y1 x0 y0)])]) (xL y1 x0 y0 h0 h3 h1) <| AN))
def wg (t : GTask) (o : List Int) (d : GDag) : Bool := !bO o (ar d.f5 t.f0) && p9 d.f5 o t
theorem sE {qy1 : Kd} (x0 : GTask) (y0 : List Int) (y1 : GDag) (h1 : y1.f5.length ≤ 1050000) (h2 : x0.f4.length ≤ 1050000) (h3 : y0.length ≤ 1050000) : Does E 50 [.agg (GTask.t .far x0), .im .far () [.s .far () 1 (y0.map etI)] 0, .im .far () [tS y1.f0, tS y1.f1, tI y1.f2, tI y1.f3, tB y1.f4, .s .far () 5 (y1.f5.map (GTask.t qy1))] 0] [(false, [tB (wg x0 y0 y1)])] := by
 exact zS x0 y0 y1 _ (by
  unfold oc wg
  simp only [h1, h2, h3, if_true]
  show cond (bO y0 (ar y1.f5 x0.f0)) _ _ = _
  cases bO y0 (ar y1.f5 x0.f0) <;> rfl)
inductive e9 where
 | ret (v4 : Int)
 | x0 
def bq (q0 : Kd) (qc1_1 : Kd) (v0 : List GTask) (v1_0_0 : List Int) (v1_1_0 v1_1_1 : ByteArray) (v1_1_2 v1_1_3 : Int) (v1_1_4 : Bool) (v1_1_5 : List GTask) (v7 v8 : Int) : US := stL 19 [(0, .one (.s .far () 5 (v0.map (GTask.t q0)))), (1, .fni 50 [((), [.s .far () 1 (v1_0_0.map etI)]), ((), [tS v1_1_0, tS v1_1_1, tI v1_1_2, tI v1_1_3, tB v1_1_4, .s .far () 5 (v1_1_5.map (GTask.t qc1_1))])]), (7, .one (tI v7)), (8, .one (tI v8))]
def cJ (q0 : Kd) (qc1_1 : Kd) (zv4 : Int) : US := stL 19 [(4, .one (tI zv4))]
def cS (q0 : Kd) (qc1_1 : Kd)  : US := stL 19 []
abbrev c9 : US → Exit → US → Prop := Round E 49 (aw Tryz.f49 0)
def ka {q0 : Kd} {qc1_1 : Kd} (v0 : List GTask) (v1_0_0 : List Int) (v1_1_0 v1_1_1 : ByteArray) (v1_1_2 v1_1_3 : Int) (v1_1_4 : Bool) (v1_1_5 : List GTask) (v7 v8 : Int) : e9 → Prop
 | .ret zv4 => Loops E 49 (aw Tryz.f49 0) (bq q0 qc1_1 v0 v1_0_0 v1_1_0 v1_1_1 v1_1_2 v1_1_3 v1_1_4 v1_1_5 v7 v8) .ret (cJ q0 qc1_1 zv4)
 | .x0 => Loops E 49 (aw Tryz.f49 0) (bq q0 qc1_1 v0 v1_0_0 v1_1_0 v1_1_1 v1_1_2 v1_1_3 v1_1_4 v1_1_5 v7 v8) (.exit 0) (cS q0 qc1_1)
noncomputable def bc (v1_0_0 : List Int) (v1_1_0 v1_1_1 : ByteArray) (v1_1_2 v1_1_3 : Int) (v1_1_5 : List GTask) : List GTask → Nat → Bool → Option e9
 | [], i, v1_1_4 => some (.x0)
 | hd :: rest, i, v1_1_4 => if (GDag.mk v1_1_0 v1_1_1 v1_1_2 v1_1_3 v1_1_4 v1_1_5).f5.length ≤ 1050000 then if hd.f4.length ≤ 1050000 then if v1_0_0.length ≤ 1050000 then cond (wg hd v1_0_0 (GDag.mk v1_1_0 v1_1_1 v1_1_2 v1_1_3 v1_1_4 v1_1_5))
  (some (.ret (i : Int)))
  (bc v1_0_0 v1_1_0 v1_1_1 v1_1_2 v1_1_3 v1_1_5 rest (i + 1) v1_1_4) else none else none else none
theorem j9 {q0 : Kd} {qc1_1 : Kd} (v0 : List GTask) (v1_0_0 : List Int) (v1_1_0 v1_1_1 : ByteArray) (v1_1_2 v1_1_3 : Int) (v1_1_5 : List GTask) (rest : List GTask) : ∀ (i : Nat) (v1_1_4 : Bool), (v0).drop i = rest → v0.length ≤ 9223372036854775807 → Ans (bc v1_0_0 v1_1_0 v1_1_1 v1_1_2 v1_1_3 v1_1_5 rest i v1_1_4) (ka (q0 := q0) (qc1_1 := qc1_1) v0 v1_0_0 v1_1_0 v1_1_1 v1_1_2 v1_1_3 v1_1_4 v1_1_5 (v0.length : Int) (i : Int)) := by
 induction rest with
 | nil =>
  intro i v1_1_4 hE hl
  have hb := bd hE
  unfold bc
  exact KL (KN (show c9 (bq q0 qc1_1 v0 v1_0_0 v1_1_0 v1_1_1 v1_1_2 v1_1_3 v1_1_4 v1_1_5 (v0.length : Int) (i : Int)) (.exit 0) (cS q0 qc1_1) from KJ [.b false] _ (fun k => by kernel_rfl) (AC hb <| AN)) (by intro h; cases h))
 | cons hd rest ih =>
  intro i v1_1_4 hE hl
  have hb := aQ hE
  have hw := aR hE hl
  have hE2 := aF hE
  have hg := aS hE
  unfold bc
  refine KQ (fun h2 => ?_)
  refine KQ (fun h3 => ?_)
  refine KQ (fun h4 => ?_)
  refine KO (fun h5 => ?_) (fun h5 => ?_)
  ·exact KL (KN (show c9 (bq q0 qc1_1 v0 v1_0_0 v1_1_0 v1_1_1 v1_1_2 v1_1_3 v1_1_4 v1_1_5 (v0.length : Int) (i : Int)) .ret (cJ q0 qc1_1 (i : Int)) from KJ [.b true, .row ((GTask.t q0) hd), rT] _ (fun k => by kernel_rfl) (AC hb <| AR (GTask.t q0) hg <| AV (ψ := fun k => E.C k 50 [.agg (GTask.t .far hd), .im .far () [.s .far () 1 (v1_0_0.map etI)] 0, .im .far () [tS v1_1_0, tS v1_1_1, tI v1_1_2, tI v1_1_3, tB v1_1_4, .s .far () 5 (v1_1_5.map (GTask.t qc1_1))] 0] = some [(false, [tB true])]) (KR (sE hd v1_0_0 (GDag.mk v1_1_0 v1_1_1 v1_1_2 v1_1_3 v1_1_4 v1_1_5) h2 h3 h4) (by rw [h5])) <| AN)) (by intro h; cases h))
  ·exact (ih (i + 1) v1_1_4 hE2 hl).mono fun y hy => by have r : c9 (bq q0 qc1_1 v0 v1_0_0 v1_1_0 v1_1_1 v1_1_2 v1_1_3 v1_1_4 v1_1_5 (v0.length : Int) (i : Int)) .normal (bq q0 qc1_1 v0 v1_0_0 v1_1_0 v1_1_1 v1_1_2 v1_1_3 v1_1_4 v1_1_5 (v0.length : Int) (inc (i : Int))) := KJ [.b true, .row ((GTask.t q0) hd), rF] _ (fun k => by kernel_rfl) (AC hb <| AR (GTask.t q0) hg <| AV (ψ := fun k => E.C k 50 [.agg (GTask.t .far hd), .im .far () [.s .far () 1 (v1_0_0.map etI)] 0, .im .far () [tS v1_1_0, tS v1_1_1, tI v1_1_2, tI v1_1_3, tB v1_1_4, .s .far () 5 (v1_1_5.map (GTask.t qc1_1))] 0] = some [(false, [tB false])]) (KR (sE hd v1_0_0 (GDag.mk v1_1_0 v1_1_1 v1_1_2 v1_1_3 v1_1_4 v1_1_5) h2 h3 h4) (by rw [h5])) <| AN); rw [hw] at r; cases y <;> exact KM r hy
noncomputable def ci (x0 : List GTask) (c1_0 : List Int) (c1_1 : GDag) : Option (Int) :=
  if x0.length ≤ 9223372036854775807 then (bc c1_0 c1_1.f0 c1_1.f1 c1_1.f2 c1_1.f3 c1_1.f5 x0 0 c1_1.f4).bind fun y => match y with
   | .ret w0_4 => (some (w0_4))
   | .x0 => (some ((-1 : Int))) else none
theorem kJ {q0 : Kd} {qc1_1 : Kd} (x0 : List GTask) (c1_0 : List Int) (c1_1 : GDag) : Ans (ci x0 c1_0 c1_1) (fun r => Does E 49 [.one (.s .far () 5 (x0.map (GTask.t q0))), .fni 50 [((), [.s .far () 1 (c1_0.map etI)]), ((), [tS c1_1.f0, tS c1_1.f1, tI c1_1.f2, tI c1_1.f3, tB c1_1.f4, .s .far () 5 (c1_1.f5.map (GTask.t qc1_1))])]] [(false, [tI r])]) := by
 unfold ci
 refine KQ (fun hl1 => ?_)
 refine KP (fun y hy => ?_)
 replace hy := j9 (q0 := q0) (qc1_1 := qc1_1) x0 c1_0 c1_1.f0 c1_1.f1 c1_1.f2 c1_1.f3 c1_1.f5 x0 0 c1_1.f4 rfl hl1 y hy
 cases y with
 | ret w0_4 =>
  have h0 := hy
  exact KL (KK (fn := Tryz.f49) [.val (.int .i64 (x0.length : Int)), .lp .ret (cJ q0 qc1_1 w0_4)] _ rfl (fun _ => rfl) (fun k => by kernel_rfl) (ALn x0 (GTask.t q0) <| AL h0 <| AN))
 | x0 =>
  have h0 := hy
  exact KL (KK (fn := Tryz.f49) [.val (.int .i64 (x0.length : Int)), .lp (.exit 0) (cS q0 qc1_1)] _ rfl (fun _ => rfl) (fun k => by kernel_rfl) (ALn x0 (GTask.t q0) <| AL h0 <| AN))
def em (o : List Int) (ts : List GTask) : List GTask → Nat → Option Nat
 | [], _ => none
 | t :: r, i => if (!bO o (ar ts t.f0) && p9 ts o t) = true then some i else em o ts r (i + 1)
def cg (l : List GTask) (o : List Int) (d : GDag) : Int := match em o d.f5 l 0 with | some i => (i : Int) | none => -1
theorem GY (o : List Int) (a b : ByteArray) (c e : Int) (ts : List GTask) (ht : ts.length ≤ 1050000) (ho : o.length ≤ 1050000) : ∀ (l : List GTask) (i : Nat) (z : Bool), an.sm l → bc o a b c e ts l i z = some (match em o ts l i with | some k => .ret (k : Int) | none => .x0)
 | [], i, z, _ => rfl
 | t :: l, i, z, hl => by
  unfold bc em
  have h4 : t.f4.length ≤ 1050000 := (hl.2 t (by simp)).2.2.1
  rw [if_pos (show (GDag.mk a b c e z ts).f5.length ≤ 1050000 from ht), if_pos h4, if_pos ho, GY o a b c e ts ht ho l (i + 1) z ⟨by have := hl.1; simp at this; omega, fun y hy => hl.2 y (by simp [hy])⟩]
  show cond (!bO o (ar ts t.f0) && p9 ts o t) _ _ = _
  cases (!bO o (ar ts t.f0) && p9 ts o t) <;> rfl
theorem Jz (l : List GTask) (o : List Int) (d : GDag) (h1 : an.sm l) (h2 : d.f5.length ≤ 1050000) (h3 : o.length ≤ 1050000) : ci l o d = some (cg l o d) := by
 unfold ci cg
 rw [if_pos (by have := h1.1; omega), GY o d.f0 d.f1 d.f2 d.f3 d.f5 h2 h3 l 0 d.f4 h1]
 cases em o d.f5 l 0 <;> rfl
theorem fb {q0 : Kd} {qc1_1 : Kd} (x0 : List GTask) (c1_0 : List Int) (c1_1 : GDag) (h1 : an.sm x0) (h2 : c1_1.f5.length ≤ 1050000) (h3 : c1_0.length ≤ 1050000) : Does E 49 [.one (.s .far () 5 (x0.map (GTask.t q0))), .fni 50 [((), [.s .far () 1 (c1_0.map etI)]), ((), [tS c1_1.f0, tS c1_1.f1, tI c1_1.f2, tI c1_1.f3, tB c1_1.f4, .s .far () 5 (c1_1.f5.map (GTask.t qc1_1))])]] [(false, [tI (cg x0 c1_0 c1_1)])] := by
 exact kJ x0 c1_0 c1_1 _ (Jz x0 c1_0 c1_1 h1 h2 h3)
inductive ud where
 | ret (v2 : List Int)
def mo (q0 : Kd) (v1_0 v1_1 : ByteArray) (v1_2 v1_3 : Int) (v1_4 : Bool) (v1_5 : List GTask) (v3_0 : List Int) : US := stL 16 [(1, .box () [tS v1_0, tS v1_1, tI v1_2, tI v1_3, tB v1_4, .s .far () 5 (v1_5.map (GTask.t q0))]), (3, .box () [.s .own () 1 (v3_0.map etI)])]
def jy (q0 : Kd) (zv2 : List Int) : US := stL 16 [(2, .one (.s .own () 1 (zv2.map etI)))]
abbrev uc : US → Exit → US → Prop := Round E 29 (aw Tryz.f29 0)
def BL {q0 : Kd} (v1_0 v1_1 : ByteArray) (v1_2 v1_3 : Int) (v1_4 : Bool) (v1_5 : List GTask) (v3_0 : List Int) : ud → Prop
 | .ret zv2 => Loops E 29 (aw Tryz.f29 0) (mo q0 v1_0 v1_1 v1_2 v1_3 v1_4 v1_5 v3_0) .ret (jy q0 zv2)
noncomputable def ic (v1_0 v1_1 : ByteArray) (v1_2 v1_3 : Int) (v1_5 : List GTask) : Nat → Bool → (List Int) → Option ud
 | 0, _, _ => none
 | n + 1, v1_4, v3_0 => if an.sm v1_5 then if (GDag.mk v1_0 v1_1 v1_2 v1_3 v1_4 v1_5).f5.length ≤ 1050000 then if v3_0.length ≤ 1050000 then cond (decide ((cg v1_5 v3_0 (GDag.mk v1_0 v1_1 v1_2 v1_3 v1_4 v1_5)) < (0 : Int)))
  (some (.ret v3_0))
  (if (v3_0.length + ([cg v1_5 v3_0 (GDag.mk v1_0 v1_1 v1_2 v1_3 v1_4 v1_5)]).length) * 8 ≤ 140737488355328 ∧ v3_0.length + ([cg v1_5 v3_0 (GDag.mk v1_0 v1_1 v1_2 v1_3 v1_4 v1_5)]).length ≤ 4611686018427387904 then ic v1_0 v1_1 v1_2 v1_3 v1_5 n v1_4 (v3_0 ++ ([cg v1_5 v3_0 (GDag.mk v1_0 v1_1 v1_2 v1_3 v1_4 v1_5)])) else none) else none else none else none
theorem BK {q0 : Kd} (v1_0 v1_1 : ByteArray) (v1_2 v1_3 : Int) (v1_5 : List GTask) (n : Nat) : ∀ (v1_4 : Bool) (v3_0 : List Int), Ans (ic v1_0 v1_1 v1_2 v1_3 v1_5 n v1_4 v3_0) (BL (q0 := q0) v1_0 v1_1 v1_2 v1_3 v1_4 v1_5 v3_0) := by
 induction n with
 | zero => intros; exact Ans.none
 | succ n ih =>
  intro v1_4 v3_0
  unfold ic
  refine KQ (fun h0 => ?_)
  refine KQ (fun h1 => ?_)
  refine KQ (fun h2 => ?_)
  refine KO (fun h3 => ?_) (fun h3 => ?_)
  ·exact KL (KN (show uc (mo q0 v1_0 v1_1 v1_2 v1_3 v1_4 v1_5 v3_0) .ret (jy q0 v3_0) from Round.to (KJ (D' := stL 16 [(2, .one (.s .own () 1 (((v3_0.map etI).drop 0).take (v3_0.map etI).length)))]) [.ret [(false, [tI (cg v1_5 v3_0 (GDag.mk v1_0 v1_1 v1_2 v1_3 v1_4 v1_5))])], .b true] _ (fun k => by kernel_rfl) (AV (ψ := fun k => E.C k 49 [.one (.s .far () 5 (v1_5.map (GTask.t q0))), .fni 50 [((), [.s .far () 1 (v3_0.map etI)]), ((), [tS v1_0, tS v1_1, tI v1_2, tI v1_3, tB v1_4, .s .far () 5 (v1_5.map (GTask.t q0))])]] = some [(false, [tI (cg v1_5 v3_0 (GDag.mk v1_0 v1_1 v1_2 v1_3 v1_4 v1_5))])]) (fb v1_5 v3_0 (GDag.mk v1_0 v1_1 v1_2 v1_3 v1_4 v1_5) h0 h1 h2) <| AC h3 <| AN)) (by simp only [jy, List.take_length, List.drop_zero])) (by intro h; cases h))
  ·refine KQ (fun h4 => ?_)
   have r : uc (mo q0 v1_0 v1_1 v1_2 v1_3 v1_4 v1_5 v3_0) .normal (mo q0 v1_0 v1_1 v1_2 v1_3 v1_4 v1_5 (v3_0 ++ ([cg v1_5 v3_0 (GDag.mk v1_0 v1_1 v1_2 v1_3 v1_4 v1_5)]))) := KJ [.ret [(false, [tI (cg v1_5 v3_0 (GDag.mk v1_0 v1_1 v1_2 v1_3 v1_4 v1_5))])], .b false, .rows ((v3_0 ++ ([cg v1_5 v3_0 (GDag.mk v1_0 v1_1 v1_2 v1_3 v1_4 v1_5)])).map etI)] _ (fun k => by kernel_rfl) (AV (ψ := fun k => E.C k 49 [.one (.s .far () 5 (v1_5.map (GTask.t q0))), .fni 50 [((), [.s .far () 1 (v3_0.map etI)]), ((), [tS v1_0, tS v1_1, tI v1_2, tI v1_3, tB v1_4, .s .far () 5 (v1_5.map (GTask.t q0))])]] = some [(false, [tI (cg v1_5 v3_0 (GDag.mk v1_0 v1_1 v1_2 v1_3 v1_4 v1_5))])]) (fb v1_5 v3_0 (GDag.mk v1_0 v1_1 v1_2 v1_3 v1_4 v1_5) h0 h1 h2) <| AC h3 <| AC (p := (((([cg v1_5 v3_0 (GDag.mk v1_0 v1_1 v1_2 v1_3 v1_4 v1_5)]).map etI).drop 0).take (([cg v1_5 v3_0 (GDag.mk v1_0 v1_1 v1_2 v1_3 v1_4 v1_5)]).map etI).length).all (fun r => r.all T.flat) = true ∧ ((((v3_0.map etI).drop 0).take (v3_0.map etI).length).length + (((([cg v1_5 v3_0 (GDag.mk v1_0 v1_1 v1_2 v1_3 v1_4 v1_5)]).map etI).drop 0).take (([cg v1_5 v3_0 (GDag.mk v1_0 v1_1 v1_2 v1_3 v1_4 v1_5)]).map etI).length).length) * 8 ≤ 140737488355328 ∧ (((v3_0.map etI).drop 0).take (v3_0.map etI).length).length + (((([cg v1_5 v3_0 (GDag.mk v1_0 v1_1 v1_2 v1_3 v1_4 v1_5)]).map etI).drop 0).take (([cg v1_5 v3_0 (GDag.mk v1_0 v1_1 v1_2 v1_3 v1_4 v1_5)]).map etI).length).length ≤ 4611686018427387904) (by simp only [List.take_length, List.drop_zero]; exact It (fun x => rfl) h4) <| AC (p := (((v3_0.map etI).drop 0).take (v3_0.map etI).length) ++ (((([cg v1_5 v3_0 (GDag.mk v1_0 v1_1 v1_2 v1_3 v1_4 v1_5)]).map etI).drop 0).take (([cg v1_5 v3_0 (GDag.mk v1_0 v1_1 v1_2 v1_3 v1_4 v1_5)]).map etI).length) = (v3_0 ++ ([cg v1_5 v3_0 (GDag.mk v1_0 v1_1 v1_2 v1_3 v1_4 v1_5)])).map etI) (by simp only [List.take_length, List.drop_zero]; exact Gb) <| AN); exact (ih v1_4 (v3_0 ++ ([cg v1_5 v3_0 (GDag.mk v1_0 v1_1 v1_2 v1_3 v1_4 v1_5)]))).mono fun y hy => by cases y <;> exact KM r hy
noncomputable def nB (x0 : GDag) : Option ((List Int)) :=
  (ic x0.f0 x0.f1 x0.f2 x0.f3 x0.f5 9223372036854775808 x0.f4 ([])).bind fun y => match y with
   | .ret w0_2 => (some (w0_2))
theorem DD {q0 : Kd} (x0 : GDag) : Ans (nB x0) (fun r => Does E 29 [.agg (GDag.t .far q0 x0)] [(false, [.s .own () 1 (r.map etI)])]) := by
 unfold nB
 refine KP (fun y hy => ?_)
 replace hy := BK (q0 := q0) x0.f0 x0.f1 x0.f2 x0.f3 x0.f5 9223372036854775808 x0.f4 ([]) y hy
 cases y with
 | ret w0_2 =>
  have h0 := hy
  exact KL (KK (fn := Tryz.f29) [.lp .ret (jy q0 w0_2)] _ rfl (fun _ => rfl) (fun k => by kernel_rfl) (AL h0 <| AN))
def b8 (ts : List GTask) : Prop := ts.length ≤ 4 ∧ ∀ (i : Nat) (t : GTask), ts[i]? = some t → ar ts t.f0 = (i : Int)
def ij (ts : List GTask) : Nat → List Int → List Int
 | 0, o => o
 | k + 1, o => match em o ts ts 0 with | none => o | some i => ij ts k (o ++ [(i : Int)])
def cl (ts : List GTask) : List Int := ij ts ts.length []
def bK (d : GDag) : List Int := cl d.f5
theorem m4 {o : List Int} {x : Int} : bO o x = true ↔ x ∈ o := by
 unfold bO
 rw [List.any_eq_true]
 constructor
 ·rintro ⟨y, h, e⟩; rw [beq_iff_eq] at e; subst e; exact h
 ·intro h; exact ⟨x, h, by simp⟩
theorem ol {o : List Int} {ts : List GTask} : ∀ {l : List GTask} {i k : Nat}, em o ts l i = some k → ∃ t j, k = i + j ∧ l[j]? = some t ∧ bO o (ar ts t.f0) = false ∧ p9 ts o t = true
 | [], i, k, h => by cases h
 | t :: l, i, k, h => by
  unfold em at h
  split at h
  ·rename_i q
   cases h
   simp only [Bool.and_eq_true, Bool.not_eq_true'] at q
   exact ⟨t, 0, rfl, rfl, q.1, q.2⟩
  ·obtain ⟨u, j, h1, h2, h3⟩ := ol h
   exact ⟨u, j + 1, by omega, h2, h3⟩
def uU (n : Nat) (o : List Int) : Nat := ((List.range n).filter fun i : Nat => !bO o (i : Int)).length
theorem y8 {α : Type} {p q : α → Bool} : ∀ {l : List α}, (∀ y, q y = true → p y = true) → (l.filter q).length ≤ (l.filter p).length
 | [], _ => by simp
 | z :: l, h => by
  have ih := y8 (l := l) h
  rw [List.filter_cons, List.filter_cons]
  cases a : q z with
  | true => rw [h z a]; simpa using ih
  | false => cases p z <;> simp <;> omega
theorem y9 {α : Type} {p q : α → Bool} {x : α} : ∀ {l : List α}, (∀ y, q y = true → p y = true) → x ∈ l → p x = true → q x = false → (l.filter q).length < (l.filter p).length
 | y :: l, h, hx, h1, h2 => by
  have le := y8 (l := l) h
  rw [List.filter_cons, List.filter_cons]
  rcases List.mem_cons.1 hx with rfl | hx
  ·rw [h1, h2]; simp; omega
  ·have := y9 (l := l) h hx h1 h2
   cases a : q y with
   | true => rw [h y a]; simpa using this
   | false => cases p y <;> simp <;> omega
theorem GV {n i : Nat} {o : List Int} (hi : i < n) (h : bO o (i : Int) = false) : uU n (o ++ [(i : Int)]) < uU n o := by
 unfold uU
 refine y9 (p := fun i : Nat => !bO o (i : Int)) (q := fun j : Nat => !bO (o ++ [(i : Int)]) (j : Int)) (x := i) (fun y hy => ?_) (List.mem_range.2 hi) (by rw [h]; rfl) ?_
 ·rw [Bool.not_eq_true'] at hy ⊢
  rw [← Bool.not_eq_true, m4] at hy ⊢
  exact fun e => hy (by simp [e])
 ·have : bO (o ++ [(i : Int)]) (i : Int) = true := m4.2 (by simp)
  rw [this]; rfl
theorem Ie (n : Nat) : uU n [] = n := by
 unfold uU
 have : (List.range n).filter (fun i : Nat => !bO [] (i : Int)) = List.range n := List.filter_eq_self.2 fun a _ => rfl
 rw [this, List.length_range]
theorem EE (a b : ByteArray) (c e : Int) (ts : List GTask) (hs : an.sm ts) (hg : b8 ts) : ∀ (k n : Nat) (o : List Int) (z : Bool), uU ts.length o ≤ k → k < n → o.length + k ≤ 1000 → ic a b c e ts n z o = some (.ret (ij ts k o))
 | k, 0, o, z, _, hn, _ => by omega
 | k, n + 1, o, z, hk, hn, hl => by
  unfold ic
  rw [if_pos hs, if_pos (show (GDag.mk a b c e z ts).f5.length ≤ 1050000 from hs.1), if_pos (by omega)]
  have hx : cg ts o (GDag.mk a b c e z ts) = match em o ts ts 0 with | some i => (i : Int) | none => -1 := rfl
  rw [hx]
  cases q : em o ts ts 0 with
  | none =>
   have : ij ts k o = o := by
    cases k with
    | zero => rfl
    | succ k => unfold ij; rw [q]
   rw [this]; rfl
  | some i =>
   obtain ⟨t, j, h1, h2, h3, h4⟩ := ol q
   have hij : i = j := by omega
   subst hij
   rw [hg.2 i t h2] at h3
   have hi : i < ts.length := by
    rcases Nat.lt_or_ge i ts.length with g | g
    ·exact g
    ·rw [List.getElem?_eq_none g] at h2; cases h2
   have less := GV hi h3
   obtain ⟨k, rfl⟩ : ∃ m, k = m + 1 := ⟨k - 1, by omega⟩
   have ih := EE a b c e ts hs hg k n (o ++ [(i : Int)]) z (by omega) (by omega) (by simp; omega)
   simp only
   rw [decide_eq_false (by omega), cond_false, if_pos (by simp; omega), ih]
   conv => rhs; unfold ij
   rw [q]
theorem G7 (d : GDag) (h : an.sm d) (hg : b8 d.f5) : nB d = some (bK d) := by
 have hs : an.sm d.f5 := h.2.2
 unfold nB
 have := EE d.f0 d.f1 d.f2 d.f3 d.f5 hs hg d.f5.length 9223372036854775808 [] d.f4 (by rw [Ie]; exact Nat.le_refl _) (by have := hg.1; omega) (by have := hg.1; simp; omega)
 refine (congrArg (Option.bind · _) this).trans rfl
theorem nu {q0 : Kd} (x0 : GDag) (h : an.sm x0) (hg : b8 x0.f5) : Does E 29 [.agg (GDag.t .far q0 x0)] [(false, [.s .own () 1 ((bK x0).map etI)])] := by
 exact DD x0 _ (G7 x0 h hg)
inductive tn where
 | x4 (v6 : Bool)
def fq (q0 : Kd) (v0 : List GTask) (v3 : List Int) (v4 v5 : Int) (v6 : Bool) (v7 : Int) : US := stL 57 [(0, .one (.s .far () 5 (v0.map (GTask.t q0)))), (3, .one (.s .own () 1 (v3.map etI))), (4, .one (tI v4)), (5, .one (tI v5)), (6, .one (tB v6)), (7, .one (tI v7))]
def gL (q0 : Kd) (v0 : List GTask) (v3 : List Int) (v4 v5 : Int) (zv6 : Bool) : US := stL 57 [(0, .one (.s .far () 5 (v0.map (GTask.t q0)))), (3, .one (.s .own () 1 (v3.map etI))), (4, .one (tI v4)), (5, .one (tI v5)), (6, .one (tB zv6))]
abbrev ls : US → Exit → US → Prop := Round E 37 (aw Tryz.f37 2)
def Ay {q0 : Kd} (v0 : List GTask) (v3 : List Int) (v4 v5 : Int) (v6 : Bool) (v7 : Int) : tn → Prop
 | .x4 zv6 => Loops E 37 (aw Tryz.f37 2) (fq q0 v0 v3 v4 v5 v6 v7) (.exit 4) (gL q0 v0 v3 v4 v5 zv6)
noncomputable def eE (v0 : List GTask) (v3 : List Int) (v5 : Int) : Nat → Bool → Int → Option tn
 | 0, _, _ => none
 | n + 1, v6, v7 => match v6 with
  | true => (aD v0 v5).bind fun g0 => cond (decide (v7 < (g0.f4.length : Int)))
   ((aD g0.f4 v7).bind fun g1 => if v0.length ≤ 1050000 then if v3.length ≤ 1050000 then eE v0 v3 v5 n (bO v3 (ar v0 g1)) (inc v7) else none else none)
   (some (.x4 v6))
  | false => (aD v0 v5).bind fun g0 => cond (decide (v7 < (g0.f4.length : Int)))
   (eE v0 v3 v5 n false (inc v7))
   (some (.x4 v6))
theorem Av {q0 : Kd} (v0 : List GTask) (v3 : List Int) (v4 v5 : Int) (n : Nat) : ∀ (v6 : Bool) (v7 : Int), Ans (eE v0 v3 v5 n v6 v7) (Ay (q0 := q0) v0 v3 v4 v5 v6 v7) := by
 induction n with
 | zero => intros; exact Ans.none
 | succ n ih =>
  intro v6 v7
  unfold eE
  cases v6 with
  | true =>
   refine KP (fun g0 h0 => ?_)
   refine KO (fun h1 => ?_) (fun h1 => ?_)
   ·refine KP (fun g1 h2 => ?_)
    refine KQ (fun h3 => ?_)
    refine KQ (fun h4 => ?_)
    have r : ls (fq q0 v0 v3 v4 v5 true v7) .normal (fq q0 v0 v3 v4 v5 (bO v3 (ar v0 g1)) (inc v7)) := KJ [.row ((GTask.t q0) g0), .val (.int .i64 (g0.f4.length : Int)), .b true, .row ((GTask.t q0) g0), .row (etS g1), .ret [(false, [tI (ar v0 g1)])], .ret [(false, [tB (bO v3 (ar v0 g1))])]] _ (fun k => by kernel_rfl) (AR (GTask.t q0) h0 <| ALn g0.f4 etS <| AC h1 <| AR (GTask.t q0) h0 <| AR etS h2 <| AV (ψ := fun k => E.C k 63 [.one (.s .far () 5 (v0.map (GTask.t q0))), .one (tS g1)] = some [(false, [tI (ar v0 g1)])]) (eQ v0 g1 h3) <| AV (ψ := fun k => E.C k 62 [.one (.s .far () 1 (((v3.map etI).drop 0).take (v3.map etI).length)), .one (tI (ar v0 g1))] = some [(false, [tB (bO v3 (ar v0 g1))])]) (KS (by simp only [List.take_length, List.drop_zero]) (pW v3 (ar v0 g1) h4)) <| AN); exact (ih (bO v3 (ar v0 g1)) (inc v7)).mono fun y hy => by cases y <;> exact KM r hy
   ·exact KL (KN (show ls (fq q0 v0 v3 v4 v5 true v7) (.exit 4) (gL q0 v0 v3 v4 v5 true) from KJ [.row ((GTask.t q0) g0), .val (.int .i64 (g0.f4.length : Int)), .b false] _ (fun k => by kernel_rfl) (AR (GTask.t q0) h0 <| ALn g0.f4 etS <| AC h1 <| AN)) (by intro h; cases h))
  | false =>
   refine KP (fun g0 h0 => ?_)
   refine KO (fun h1 => ?_) (fun h1 => ?_)
   ·have r : ls (fq q0 v0 v3 v4 v5 false v7) .normal (fq q0 v0 v3 v4 v5 false (inc v7)) := KJ [.row ((GTask.t q0) g0), .val (.int .i64 (g0.f4.length : Int)), .b true] _ (fun k => by kernel_rfl) (AR (GTask.t q0) h0 <| ALn g0.f4 etS <| AC h1 <| AN); exact (ih false (inc v7)).mono fun y hy => by cases y <;> exact KM r hy
   ·exact KL (KN (show ls (fq q0 v0 v3 v4 v5 false v7) (.exit 4) (gL q0 v0 v3 v4 v5 false) from KJ [.row ((GTask.t q0) g0), .val (.int .i64 (g0.f4.length : Int)), .b false] _ (fun k => by kernel_rfl) (AR (GTask.t q0) h0 <| ALn g0.f4 etS <| AC h1 <| AN)) (by intro h; cases h))
inductive tj where
 | x2 (v3 : List Int)
def eD (q0 : Kd) (v0 : List GTask) (v3 : List Int) (v4 v5 : Int) : US := stL 57 [(0, .one (.s .far () 5 (v0.map (GTask.t q0)))), (3, .one (.s .own () 1 (v3.map etI))), (4, .one (tI v4)), (5, .one (tI v5))]
def mR (q0 : Kd) (v0 : List GTask) (v4 : Int) (zv3 : List Int) : US := stL 57 [(0, .one (.s .far () 5 (v0.map (GTask.t q0)))), (3, .one (.s .own () 1 (zv3.map etI))), (4, .one (tI v4))]
abbrev lr : US → Exit → US → Prop := Round E 37 (aw Tryz.f37 1)
def Ax {q0 : Kd} (v0 : List GTask) (v3 : List Int) (v4 v5 : Int) : tj → Prop
 | .x2 zv3 => Loops E 37 (aw Tryz.f37 1) (eD q0 v0 v3 v4 v5) (.exit 2) (mR q0 v0 v4 zv3)
noncomputable def dg (v0 : List GTask) : Nat → (List Int) → Int → Option tj
 | 0, _, _ => none
 | n + 1, v3, v5 => cond (decide (v5 < (v0.length : Int)))
  (if v3.length ≤ 1050000 then cond (bO v3 v5)
   (dg v0 n v3 (inc v5))
   ((eE v0 v3 v5 9223372036854775808 true (0 : Int)).bind fun y => match y with
    | .x4 w0_6 => (match w0_6 with
     | true => if (v3.length + ([v5]).length) * 8 ≤ 140737488355328 ∧ v3.length + ([v5]).length ≤ 4611686018427387904 then dg v0 n (v3 ++ ([v5])) (inc (v0.length : Int)) else none
     | false => dg v0 n v3 (inc v5))) else none)
  (some (.x2 v3))
theorem Au {q0 : Kd} (v0 : List GTask) (v4 : Int) (n : Nat) : ∀ (v3 : List Int) (v5 : Int), Ans (dg v0 n v3 v5) (Ax (q0 := q0) v0 v3 v4 v5) := by
 induction n with
 | zero => intros; exact Ans.none
 | succ n ih =>
  intro v3 v5
  unfold dg
  refine KO (fun h0 => ?_) (fun h0 => ?_)
  ·refine KQ (fun h1 => ?_)
   refine KO (fun h2 => ?_) (fun h2 => ?_)
   ·have r : lr (eD q0 v0 v3 v4 v5) .normal (eD q0 v0 v3 v4 (inc v5)) := KJ [.val (.int .i64 (v0.length : Int)), .b true, rT] _ (fun k => by kernel_rfl) (ALn v0 (GTask.t q0) <| AC h0 <| AV (ψ := fun k => E.C k 62 [.one (.s .far () 1 (((v3.map etI).drop 0).take (v3.map etI).length)), .one (tI v5)] = some [(false, [tB true])]) (KS (by simp only [List.take_length, List.drop_zero]) (KR (pW v3 v5 h1) (by rw [h2]))) <| AN); exact (ih v3 (inc v5)).mono fun y hy => by cases y <;> exact KM r hy
   ·refine KP (fun y hy => ?_)
    replace hy := Av (q0 := q0) v0 v3 v4 v5 9223372036854775808 true (0 : Int) y hy
    cases y with
    | x4 w0_6 =>
     have h3 := hy
     cases w0_6 with
     | true =>
      refine KQ (fun h4 => ?_)
      have r : lr (eD q0 v0 v3 v4 v5) .normal (eD q0 v0 (v3 ++ ([v5])) v4 (inc (v0.length : Int))) := KJ [.val (.int .i64 (v0.length : Int)), .b true, rF, .lp (.exit 4) (gL q0 v0 v3 v4 v5 true), .rows ((v3 ++ ([v5])).map etI), .val (.int .i64 (v0.length : Int))] _ (fun k => by kernel_rfl) (ALn v0 (GTask.t q0) <| AC h0 <| AV (ψ := fun k => E.C k 62 [.one (.s .far () 1 (((v3.map etI).drop 0).take (v3.map etI).length)), .one (tI v5)] = some [(false, [tB false])]) (KS (by simp only [List.take_length, List.drop_zero]) (KR (pW v3 v5 h1) (by rw [h2]))) <| AL h3 <| AAp etI (fun _ => rfl) h4 <| ALn v0 (GTask.t q0) <| AN); exact (ih (v3 ++ ([v5])) (inc (v0.length : Int))).mono fun y hy => by cases y <;> exact KM r hy
     | false =>
      have r : lr (eD q0 v0 v3 v4 v5) .normal (eD q0 v0 v3 v4 (inc v5)) := KJ [.val (.int .i64 (v0.length : Int)), .b true, rF, .lp (.exit 4) (gL q0 v0 v3 v4 v5 false)] _ (fun k => by kernel_rfl) (ALn v0 (GTask.t q0) <| AC h0 <| AV (ψ := fun k => E.C k 62 [.one (.s .far () 1 (((v3.map etI).drop 0).take (v3.map etI).length)), .one (tI v5)] = some [(false, [tB false])]) (KS (by simp only [List.take_length, List.drop_zero]) (KR (pW v3 v5 h1) (by rw [h2]))) <| AL h3 <| AN); exact (ih v3 (inc v5)).mono fun y hy => by cases y <;> exact KM r hy
  ·exact KL (KN (show lr (eD q0 v0 v3 v4 v5) (.exit 2) (mR q0 v0 v4 v3) from KJ [.val (.int .i64 (v0.length : Int)), .b false] _ (fun k => by kernel_rfl) (ALn v0 (GTask.t q0) <| AC h0 <| AN)) (by intro h; cases h))
inductive th where
 | x0 (v3 : List Int)
def lu (q0 : Kd) (v0 : List GTask) (v3 : List Int) (v4 : Int) : US := stL 57 [(0, .one (.s .far () 5 (v0.map (GTask.t q0)))), (3, .one (.s .own () 1 (v3.map etI))), (4, .one (tI v4))]
def mQ (q0 : Kd) (zv3 : List Int) : US := stL 57 [(3, .one (.s .own () 1 (zv3.map etI)))]
abbrev tg : US → Exit → US → Prop := Round E 37 (aw Tryz.f37 0)
def Aw {q0 : Kd} (v0 : List GTask) (v3 : List Int) (v4 : Int) : th → Prop
 | .x0 zv3 => Loops E 37 (aw Tryz.f37 0) (lu q0 v0 v3 v4) (.exit 0) (mQ q0 zv3)
noncomputable def fu (v0 : List GTask) : List GTask → Nat → (List Int) → Option th
 | [], i, v3 => some (.x0 v3)
 | hd :: rest, i, v3 => (dg v0 9223372036854775808 v3 (0 : Int)).bind fun y => match y with
  | .x2 w0_3 => (fu v0 rest (i + 1) w0_3)
theorem At {q0 : Kd} (v0 : List GTask) (rest : List GTask) : ∀ (i : Nat) (v3 : List Int), (v0).drop i = rest → v0.length ≤ 9223372036854775807 → Ans (fu v0 rest i v3) (Aw (q0 := q0) v0 v3 (i : Int)) := by
 induction rest with
 | nil =>
  intro i v3 hE hl
  have hb := bd hE
  unfold fu
  exact KL (KN (show tg (lu q0 v0 v3 (i : Int)) (.exit 0) (mQ q0 v3) from KJ [.val (.int .i64 (v0.length : Int)), .b false] _ (fun k => by kernel_rfl) (ALn v0 (GTask.t q0) <| AC hb <| AN)) (by intro h; cases h))
 | cons hd rest ih =>
  intro i v3 hE hl
  have hb := aQ hE
  have hw := aR hE hl
  have hE2 := aF hE
  have hg := aS hE
  unfold fu
  refine KP (fun y hy => ?_)
  replace hy := Au (q0 := q0) v0 (i : Int) 9223372036854775808 v3 (0 : Int) y hy
  cases y with
  | x2 w0_3 =>
   have h1 := hy
   exact (ih (i + 1) w0_3 hE2 hl).mono fun y hy => by have r : tg (lu q0 v0 v3 (i : Int)) .normal (lu q0 v0 w0_3 (inc (i : Int))) := KJ [.val (.int .i64 (v0.length : Int)), .b true, .lp (.exit 2) (mR q0 v0 (i : Int) w0_3)] _ (fun k => by kernel_rfl) (ALn v0 (GTask.t q0) <| AC hb <| AL h1 <| AN); rw [hw] at r; cases y <;> exact KM r hy
noncomputable def mS (x0 : List GTask) : Option ((List Int)) :=
  if x0.length ≤ 9223372036854775807 then (fu x0 x0 0 ([])).bind fun y => match y with
   | .x0 w0_3 => (some (w0_3)) else none
theorem CK {q0 : Kd} (x0 : List GTask) : Ans (mS x0) (fun r => Does E 37 [.one (.s .far () 5 (x0.map (GTask.t q0)))] [(false, [.s .own () 1 (r.map etI)])]) := by
 unfold mS
 refine KQ (fun hl1 => ?_)
 refine KP (fun y hy => ?_)
 replace hy := At (q0 := q0) x0 x0 0 ([]) rfl hl1 y hy
 cases y with
 | x0 w0_3 =>
  have h0 := hy
  exact KL (KK (fn := Tryz.f37) [.lp (.exit 0) (mQ q0 w0_3)] _ rfl (fun _ => rfl) (fun k => by kernel_rfl) (AL h0 <| AN))
theorem CC (ts : List GTask) (o : List Int) (i : Nat) (t : GTask) (ht : ts.length ≤ 1050000) (ho : o.length ≤ 1050000) (hi : ts[i]? = some t) (hf : t.f4.length ≤ 1050000) : ∀ (m k n : Nat) (b : Bool), k + m = t.f4.length → m < n →
  eE ts o (i : Int) n b (k : Int) = some (.x4 (b && ((t.f4.drop k).all fun x => bO o (ar ts x))))
 | m, k, 0, b, _, hn => by omega
 | m, k, n + 1, b, hk, hn => by
  have hg : aD ts (i : Int) = some t := by rw [eG]; exact hi
  unfold eE
  cases m with
  | zero =>
   have hd : t.f4.drop k = [] := List.drop_eq_nil_of_le (by omega)
   rw [hd]
   cases b <;> (simp only [hg, Option.bind_some]; rw [decide_eq_false (by omega)]; rfl)
  | succ m =>
   have hx : ∃ x, t.f4[k]? = some x := ⟨t.f4[k]'(by omega), List.getElem?_eq_getElem (by omega)⟩
   obtain ⟨x, hx⟩ := hx
   have hd : t.f4.drop k = x :: t.f4.drop (k + 1) := by
    rw [List.drop_eq_getElem_cons (by omega : k < t.f4.length)]
    rw [List.getElem?_eq_getElem (by omega)] at hx
    rw [Option.some.inj hx]
   have e : inc (k : Int) = ((k + 1 : Nat) : Int) := by rw [ie _ (by omega) (by omega)]; omega
   rw [hd, List.all_cons]
   cases b with
   | false =>
    simp only [hg, Option.bind_some]
    rw [decide_eq_true (by omega), cond_true, e, CC ts o i t ht ho hi hf m (k + 1) n false (by omega) (by omega)]; rfl
   | true =>
    have hy : aD t.f4 (k : Int) = some x := by rw [eG]; exact hx
    simp only [hg, Option.bind_some]
    rw [decide_eq_true (by omega), cond_true, hy, Option.bind_some, if_pos ht, if_pos ho, e, CC ts o i t ht ho hi hf m (k + 1) n _ (by omega) (by omega)]; rfl
theorem EF (ts : List GTask) (hs : an.sm ts) (hg : b8 ts) (o : List Int) (ho : o.length ≤ 1000) : ∀ (m i n : Nat), i + m = ts.length → m + 1 < n →
  dg ts n o (i : Int) = some (.x2 (match em o ts (ts.drop i) i with | some k => o ++ [(k : Int)] | none => o))
 | m, i, 0, _, hn => by omega
 | m, i, n + 1, hi, hn => by
  have h4 := hg.1
  unfold dg
  cases m with
  | zero =>
   have hd : ts.drop i = [] := List.drop_eq_nil_of_le (by omega)
   rw [hd, decide_eq_false (by omega)]; rfl
  | succ m =>
   have hlt : i < ts.length := by omega
   have ht : ts[i]? = some ts[i] := List.getElem?_eq_getElem hlt
   have hd : ts.drop i = ts[i] :: ts.drop (i + 1) := List.drop_eq_getElem_cons hlt
   have hf : ts[i].f4.length ≤ 1050000 := (hs.2 ts[i] (List.getElem_mem _)).2.2.1
   have e : inc (i : Int) = ((i + 1 : Nat) : Int) := by rw [ie _ (by omega) (by omega)]; omega
   have hn' := hg.2 i _ ht
   have fr := CC ts o i ts[i] hs.1 (by omega) ht hf ts[i].f4.length 0 9223372036854775808 true (by omega) (by omega)
   have ih := EF ts hs hg o ho m (i + 1) n (by omega) (by omega)
   rw [List.drop_zero, Bool.true_and] at fr
   have fr' : eE ts o (i : Int) 9223372036854775808 true (0 : Int) = some (.x4 (p9 ts o ts[i])) := fr
   rw [decide_eq_true (by omega), cond_true, if_pos (by omega), hd, fr', e]
   unfold em
   rw [hn']
   cases bO o (i : Int) with
   | true => rw [cond_true, ih]; rfl
   | false =>
    rw [cond_false, Option.bind_some]
    cases p9 ts o ts[i] with
    | false =>
     simp only [ih]; rfl
    | true =>
     have stop : ∀ w, dg ts n w (inc (ts.length : Int)) = some (.x2 w) := fun w => by
      obtain ⟨n, rfl⟩ : ∃ j, n = j + 1 := ⟨n - 1, by omega⟩
      unfold dg
      rw [ie _ (by omega) (by omega), decide_eq_false (by omega)]; rfl
     simp only [stop]
     rw [if_pos (by simp; omega)]; rfl
theorem wo (ts : List GTask) (hs : an.sm ts) (hg : b8 ts) : ∀ (l : List GTask) (i : Nat) (o : List Int), o.length + l.length ≤ 1000 → fu ts l i o = some (.x0 (ij ts l.length o))
 | [], i, o, _ => rfl
 | x :: l, i, o, hl => by
  have h4 := hg.1
  simp only [List.length_cons] at hl
  unfold fu
  have r := EF ts hs hg o (by omega) ts.length 0 9223372036854775808 (by omega) (by omega)
  rw [List.drop_zero] at r
  refine (congrArg (Option.bind · _) r).trans ?_
  rw [Option.bind_some]
  simp only [List.length_cons]
  unfold ij
  cases q : em o ts ts 0 with
  | none =>
   simp only
   rw [wo ts hs hg l (i + 1) o (by omega)]
   have : ∀ k, ij ts k o = o := fun k => by
    cases k with
    | zero => rfl
    | succ k => unfold ij; rw [q]
   rw [this]
  | some k =>
   simp only
   exact wo ts hs hg l (i + 1) _ (by simp; omega)
theorem I5 (ts : List GTask) (hs : an.sm ts) (hg : b8 ts) : mS ts = some (cl ts) := by
 have h4 := hg.1
 unfold mS
 rw [if_pos (by omega), wo ts hs hg ts 0 [] (by simp; omega)]
 rfl
theorem pc {q0 : Kd} (x0 : List GTask) (h : an.sm x0) (hg : b8 x0) : Does E 37 [.one (.s .far () 5 (x0.map (GTask.t q0)))] [(false, [.s .own () 1 ((cl x0).map etI)])] := by
 exact CK x0 _ (I5 x0 h hg)
end Go.Proofs.YtjfbofdmjihglaaGreatDoor.Am
namespace Go.Proofs.YtjfbofdmjihglaaGreatDoor.Am
open Go Go.Proofs Classical
set_option maxRecDepth 100000
set_option linter.unusedVariables false
set_option linter.unusedSimpArgs false
inductive vn where
 | ret (v2 : Bool)
 | x0 
def eL (v1_0 v1_1 : ByteArray) (v1_2 : Int) (v1_3 : Bool) (v1_4 v28 : List ByteArray) (v29 v30 : Int) : US := stL 54 [(1, .box () [tS v1_0, tS v1_1, tI v1_2, tB v1_3, .s .far () 1 (v1_4.map etS)]), (28, .one (.s .far () 1 (v28.map etS))), (29, .one (tI v29)), (30, .one (tI v30))]
def kr (zv2 : Bool) : US := stL 54 [(2, .one (tB zv2))]
def oe  : US := stL 54 []
abbrev k6 : US → Exit → US → Prop := Round E 47 (aw Tryz.f47 0)
def DG (v1_0 v1_1 : ByteArray) (v1_2 : Int) (v1_3 : Bool) (v1_4 v28 : List ByteArray) (v29 v30 : Int) : vn → Prop
 | .ret zv2 => Loops E 47 (aw Tryz.f47 0) (eL v1_0 v1_1 v1_2 v1_3 v1_4 v28 v29 v30) .ret (kr zv2)
 | .x0 => Loops E 47 (aw Tryz.f47 0) (eL v1_0 v1_1 v1_2 v1_3 v1_4 v28 v29 v30) (.exit 0) (oe)
noncomputable def fC (v1_0 : ByteArray) (v1_4 : List ByteArray) : List ByteArray → Nat → Bool → Option vn
 | [], i, v1_3 => some (.x0)
 | hd :: rest, i, v1_3 => cond (hd.toList == v1_0.toList)
  (some (.ret false))
  (cond (decide ((i : Int) > (0 : Int)))
   ((aD v1_4 (IntKind.wrap .i64 ((i : Int) - (1 : Int)))).bind fun g1 => cond (Op.bytesLess hd.toList g1.toList || hd.toList == g1.toList)
    (some (.ret false))
    (fC v1_0 v1_4 rest (i + 1) v1_3))
   (fC v1_0 v1_4 rest (i + 1) v1_3))
theorem DF (v1_0 v1_1 : ByteArray) (v1_2 : Int) (v1_4 v28 : List ByteArray) (rest : List ByteArray) : ∀ (i : Nat) (v1_3 : Bool), (v28).drop i = rest → v28.length ≤ 9223372036854775807 → Ans (fC v1_0 v1_4 rest i v1_3) (DG v1_0 v1_1 v1_2 v1_3 v1_4 v28 (v28.length : Int) (i : Int)) := by
 induction rest with
 | nil =>
  intro i v1_3 hE hl
  have hb := bd hE
  unfold fC
  exact KL (KN (show k6 (eL v1_0 v1_1 v1_2 v1_3 v1_4 v28 (v28.length : Int) (i : Int)) (.exit 0) (oe) from KJ [.b false] _ (fun k => by kernel_rfl) (AC hb <| AN)) (by intro h; cases h))
 | cons hd rest ih =>
  intro i v1_3 hE hl
  have hb := aQ hE
  have hw := aR hE hl
  have hE2 := aF hE
  have hg := aS hE
  unfold fC
  refine KO (fun h2 => ?_) (fun h2 => ?_)
  ·exact KL (KN (show k6 (eL v1_0 v1_1 v1_2 v1_3 v1_4 v28 (v28.length : Int) (i : Int)) .ret (kr false) from KJ [.b true, .row (etS hd), .b true] _ (fun k => by kernel_rfl) (AC hb <| AR etS hg <| AC h2 <| AN)) (by intro h; cases h))
  ·refine KO (fun h3 => ?_) (fun h3 => ?_)
   ·refine KP (fun g1 h4 => ?_)
    refine KO (fun h5 => ?_) (fun h5 => ?_)
    ·exact KL (KN (show k6 (eL v1_0 v1_1 v1_2 v1_3 v1_4 v28 (v28.length : Int) (i : Int)) .ret (kr false) from KJ [.b true, .row (etS hd), .b false, .b true, .row (etS g1), .b true] _ (fun k => by kernel_rfl) (AC hb <| AR etS hg <| AC h2 <| AC h3 <| AR etS h4 <| AC h5 <| AN)) (by intro h; cases h))
    ·exact (ih (i + 1) v1_3 hE2 hl).mono fun y hy => by have r : k6 (eL v1_0 v1_1 v1_2 v1_3 v1_4 v28 (v28.length : Int) (i : Int)) .normal (eL v1_0 v1_1 v1_2 v1_3 v1_4 v28 (v28.length : Int) (inc (i : Int))) := KJ [.b true, .row (etS hd), .b false, .b true, .row (etS g1), .b false] _ (fun k => by kernel_rfl) (AC hb <| AR etS hg <| AC h2 <| AC h3 <| AR etS h4 <| AC h5 <| AN); rw [hw] at r; cases y <;> exact KM r hy
   ·exact (ih (i + 1) v1_3 hE2 hl).mono fun y hy => by have r : k6 (eL v1_0 v1_1 v1_2 v1_3 v1_4 v28 (v28.length : Int) (i : Int)) .normal (eL v1_0 v1_1 v1_2 v1_3 v1_4 v28 (v28.length : Int) (inc (i : Int))) := KJ [.b true, .row (etS hd), .b false, .b false] _ (fun k => by kernel_rfl) (AC hb <| AR etS hg <| AC h2 <| AC h3 <| AN); rw [hw] at r; cases y <;> exact KM r hy
noncomputable def oN (x0 : GTask) : Option (Bool) :=
  if x0.f0.size ≤ 2000000 then cond (dG x0.f0)
   (cond ((bN x0.f1) == (0 : Int))
    (some (false))
    (cond (aH x0.f2 (0 : Int) (3 : Int))
     (cond (decide ((x0.f4.length : Int) > (4 : Int)))
      (some (false))
      (if x0.f4.length ≤ 9223372036854775807 then (fC x0.f0 x0.f4 x0.f4 0 x0.f3).bind fun y => match y with
       | .ret w0_2 => (some (w0_2))
       | .x0 => (some (true)) else none))
     (some (false))))
   (some (false)) else none
theorem FC (x0 : GTask) : Ans (oN x0) (fun r => Does E 47 [.agg (GTask.t .far x0)] [(false, [tB r])]) := by
 unfold oN
 refine KQ (fun h0 => ?_)
 refine KO (fun h1 => ?_) (fun h1 => ?_)
 ·refine KO (fun h2 => ?_) (fun h2 => ?_)
  ·exact KL (KK (fn := Tryz.f47) [rT, .ret [(false, [tI (bN x0.f1)])], .b true] _ rfl (fun _ => rfl) (fun k => by kernel_rfl) (AD (KT (cT x0.f0 h0) h1) <| AD (jF x0.f1) <| AC h2 <| AN))
  ·refine KO (fun h3 => ?_) (fun h3 => ?_)
   ·refine KO (fun h4 => ?_) (fun h4 => ?_)
    ·exact KL (KK (fn := Tryz.f47) [rT, .ret [(false, [tI (bN x0.f1)])], .b false, rT, .val (.int .i64 (x0.f4.length : Int)), .b true] _ rfl (fun _ => rfl) (fun k => by kernel_rfl) (AD (KT (cT x0.f0 h0) h1) <| AD (jF x0.f1) <| AC h2 <| AD (KT (cL x0.f2 (0 : Int) (3 : Int)) h3) <| ALn x0.f4 etS <| AC h4 <| AN))
    ·refine KQ (fun hl5 => ?_)
     refine KP (fun y hy => ?_)
     replace hy := DF x0.f0 x0.f1 x0.f2 x0.f4 x0.f4 x0.f4 0 x0.f3 rfl hl5 y hy
     cases y with
     | ret w0_2 =>
      have h5 := hy
      exact KL (KK (fn := Tryz.f47) [rT, .ret [(false, [tI (bN x0.f1)])], .b false, rT, .val (.int .i64 (x0.f4.length : Int)), .b false, .val (.int .i64 (x0.f4.length : Int)), .lp .ret (kr w0_2)] _ rfl (fun _ => rfl) (fun k => by kernel_rfl) (AD (KT (cT x0.f0 h0) h1) <| AD (jF x0.f1) <| AC h2 <| AD (KT (cL x0.f2 (0 : Int) (3 : Int)) h3) <| ALn x0.f4 etS <| AC h4 <| ALn x0.f4 etS <| AL h5 <| AN))
     | x0 =>
      have h5 := hy
      exact KL (KK (fn := Tryz.f47) [rT, .ret [(false, [tI (bN x0.f1)])], .b false, rT, .val (.int .i64 (x0.f4.length : Int)), .b false, .val (.int .i64 (x0.f4.length : Int)), .lp (.exit 0) (oe)] _ rfl (fun _ => rfl) (fun k => by kernel_rfl) (AD (KT (cT x0.f0 h0) h1) <| AD (jF x0.f1) <| AC h2 <| AD (KT (cL x0.f2 (0 : Int) (3 : Int)) h3) <| ALn x0.f4 etS <| AC h4 <| ALn x0.f4 etS <| AL h5 <| AN))
   ·exact KL (KK (fn := Tryz.f47) [rT, .ret [(false, [tI (bN x0.f1)])], .b false, rF] _ rfl (fun _ => rfl) (fun k => by kernel_rfl) (AD (KT (cT x0.f0 h0) h1) <| AD (jF x0.f1) <| AC h2 <| AD (KT (cL x0.f2 (0 : Int) (3 : Int)) h3) <| AN))
 ·exact KL (KK (fn := Tryz.f47) [rF] _ rfl (fun _ => rfl) (fun k => by kernel_rfl) (AD (KT (cT x0.f0 h0) h1) <| AN))
inductive uK where
 | ret (v4 : Bool)
 | x0 
def bB (q0 : Kd) (v0 : List GTask) (v5_0 v5_1 : ByteArray) (v5_2 : Int) (v5_3 : Bool) (v5_4 : List ByteArray) (v6 : Int) : US := stL 78 [(0, .one (.s .far () 5 (v0.map (GTask.t q0)))), (5, .box () [tS v5_0, tS v5_1, tI v5_2, tB v5_3, .s .far () 1 (v5_4.map etS)]), (6, .one (tI v6))]
def dx (q0 : Kd) (zv4 : Bool) : US := stL 78 [(4, .one (tB zv4))]
def kG (q0 : Kd)  : US := stL 78 []
abbrev cH : US → Exit → US → Prop := Round E 58 (aw Tryz.f58 0)
def CM {q0 : Kd} (v0 : List GTask) (v5_0 v5_1 : ByteArray) (v5_2 : Int) (v5_3 : Bool) (v5_4 : List ByteArray) (v6 : Int) : uK → Prop
 | .ret zv4 => Loops E 58 (aw Tryz.f58 0) (bB q0 v0 v5_0 v5_1 v5_2 v5_3 v5_4 v6) .ret (dx q0 zv4)
 | .x0 => Loops E 58 (aw Tryz.f58 0) (bB q0 v0 v5_0 v5_1 v5_2 v5_3 v5_4 v6) (.exit 0) (kG q0)
theorem yJ {q0 : Kd} (v0 : List GTask) (v5_0 v5_1 : ByteArray) (v5_2 : Int) (v5_3 : Bool) (v5_4 : List ByteArray) (v6 : Int) (g0 : ByteArray) (h0 : (decide (v6 < (v5_4.length : Int))) = true) (h1 : aD v5_4 v6 = some g0) (h2 : v0.length ≤ 1050000) (h3 : (decide ((ar v0 g0) < (0 : Int))) = true) : cH (bB q0 v0 v5_0 v5_1 v5_2 v5_3 v5_4 v6) .ret (dx q0 false) :=
 KJ [.val (.int .i64 (v5_4.length : Int)), .b true, .row (etS g0), .ret [(false, [tI (ar v0 g0)])], .b true] _ (fun k => by kernel_rfl) (ALn v5_4 etS <| AC h0 <| AR etS h1 <| AV (ψ := fun k => E.C k 63 [.one (.s .far () 5 (v0.map (GTask.t q0))), .one (tS g0)] = some [(false, [tI (ar v0 g0)])]) (eQ v0 g0 h2) <| AC h3 <| AN)
theorem yK {q0 : Kd} (v0 : List GTask) (v5_0 v5_1 : ByteArray) (v5_2 : Int) (v5_3 : Bool) (v5_4 : List ByteArray) (v6 : Int) (g0 : ByteArray) (h0 : (decide (v6 < (v5_4.length : Int))) = true) (h1 : aD v5_4 v6 = some g0) (h2 : v0.length ≤ 1050000) (h3 : (decide ((ar v0 g0) < (0 : Int))) = false) (h4 : (g0.toList == v5_0.toList) = true) : cH (bB q0 v0 v5_0 v5_1 v5_2 v5_3 v5_4 v6) .ret (dx q0 false) :=
 KJ [.val (.int .i64 (v5_4.length : Int)), .b true, .row (etS g0), .ret [(false, [tI (ar v0 g0)])], .b false, .row (etS g0), .b true] _ (fun k => by kernel_rfl) (ALn v5_4 etS <| AC h0 <| AR etS h1 <| AV (ψ := fun k => E.C k 63 [.one (.s .far () 5 (v0.map (GTask.t q0))), .one (tS g0)] = some [(false, [tI (ar v0 g0)])]) (eQ v0 g0 h2) <| AC h3 <| AR etS h1 <| AC h4 <| AN)
theorem yL {q0 : Kd} (v0 : List GTask) (v5_0 v5_1 : ByteArray) (v5_2 : Int) (v5_3 : Bool) (v5_4 : List ByteArray) (v6 : Int) (g0 g1 : ByteArray) (h0 : (decide (v6 < (v5_4.length : Int))) = true) (h1 : aD v5_4 v6 = some g0) (h2 : v0.length ≤ 1050000) (h3 : (decide ((ar v0 g0) < (0 : Int))) = false) (h4 : (g0.toList == v5_0.toList) = false) (h5 : (decide (v6 > (0 : Int))) = true) (h6 : aD v5_4 (IntKind.wrap .i64 (v6 - (1 : Int))) = some g1) (h7 : (!Op.bytesLess g1.toList g0.toList) = true) : cH (bB q0 v0 v5_0 v5_1 v5_2 v5_3 v5_4 v6) .ret (dx q0 false) :=
 KJ [.val (.int .i64 (v5_4.length : Int)), .b true, .row (etS g0), .ret [(false, [tI (ar v0 g0)])], .b false, .row (etS g0), .b false, .b true, .row (etS g1), .row (etS g0), .b true] _ (fun k => by kernel_rfl) (ALn v5_4 etS <| AC h0 <| AR etS h1 <| AV (ψ := fun k => E.C k 63 [.one (.s .far () 5 (v0.map (GTask.t q0))), .one (tS g0)] = some [(false, [tI (ar v0 g0)])]) (eQ v0 g0 h2) <| AC h3 <| AR etS h1 <| AC h4 <| AC h5 <| AR etS h6 <| AR etS h1 <| AC h7 <| AN)
theorem yM {q0 : Kd} (v0 : List GTask) (v5_0 v5_1 : ByteArray) (v5_2 : Int) (v5_3 : Bool) (v5_4 : List ByteArray) (v6 : Int) (g0 g1 : ByteArray) (h0 : (decide (v6 < (v5_4.length : Int))) = true) (h1 : aD v5_4 v6 = some g0) (h2 : v0.length ≤ 1050000) (h3 : (decide ((ar v0 g0) < (0 : Int))) = false) (h4 : (g0.toList == v5_0.toList) = false) (h5 : (decide (v6 > (0 : Int))) = true) (h6 : aD v5_4 (IntKind.wrap .i64 (v6 - (1 : Int))) = some g1) (h7 : (!Op.bytesLess g1.toList g0.toList) = false) : cH (bB q0 v0 v5_0 v5_1 v5_2 v5_3 v5_4 v6) .normal (bB q0 v0 v5_0 v5_1 v5_2 v5_3 v5_4 (inc v6)) :=
 KJ [.val (.int .i64 (v5_4.length : Int)), .b true, .row (etS g0), .ret [(false, [tI (ar v0 g0)])], .b false, .row (etS g0), .b false, .b true, .row (etS g1), .row (etS g0), .b false] _ (fun k => by kernel_rfl) (ALn v5_4 etS <| AC h0 <| AR etS h1 <| AV (ψ := fun k => E.C k 63 [.one (.s .far () 5 (v0.map (GTask.t q0))), .one (tS g0)] = some [(false, [tI (ar v0 g0)])]) (eQ v0 g0 h2) <| AC h3 <| AR etS h1 <| AC h4 <| AC h5 <| AR etS h6 <| AR etS h1 <| AC h7 <| AN)
theorem yN {q0 : Kd} (v0 : List GTask) (v5_0 v5_1 : ByteArray) (v5_2 : Int) (v5_3 : Bool) (v5_4 : List ByteArray) (v6 : Int) (g0 : ByteArray) (h0 : (decide (v6 < (v5_4.length : Int))) = true) (h1 : aD v5_4 v6 = some g0) (h2 : v0.length ≤ 1050000) (h3 : (decide ((ar v0 g0) < (0 : Int))) = false) (h4 : (g0.toList == v5_0.toList) = false) (h5 : (decide (v6 > (0 : Int))) = false) : cH (bB q0 v0 v5_0 v5_1 v5_2 v5_3 v5_4 v6) .normal (bB q0 v0 v5_0 v5_1 v5_2 v5_3 v5_4 (inc v6)) :=
 KJ [.val (.int .i64 (v5_4.length : Int)), .b true, .row (etS g0), .ret [(false, [tI (ar v0 g0)])], .b false, .row (etS g0), .b false, .b false] _ (fun k => by kernel_rfl) (ALn v5_4 etS <| AC h0 <| AR etS h1 <| AV (ψ := fun k => E.C k 63 [.one (.s .far () 5 (v0.map (GTask.t q0))), .one (tS g0)] = some [(false, [tI (ar v0 g0)])]) (eQ v0 g0 h2) <| AC h3 <| AR etS h1 <| AC h4 <| AC h5 <| AN)
theorem yO {q0 : Kd} (v0 : List GTask) (v5_0 v5_1 : ByteArray) (v5_2 : Int) (v5_3 : Bool) (v5_4 : List ByteArray) (v6 : Int) (h0 : (decide (v6 < (v5_4.length : Int))) = false) : cH (bB q0 v0 v5_0 v5_1 v5_2 v5_3 v5_4 v6) (.exit 0) (kG q0) :=
 KJ [.val (.int .i64 (v5_4.length : Int)), .b false] _ (fun k => by kernel_rfl) (ALn v5_4 etS <| AC h0 <| AN)
noncomputable def e7 (v0 : List GTask) (v5_0 : ByteArray) (v5_4 : List ByteArray) : List ByteArray → Nat → Bool → Option uK
 | [], i, v5_3 => some (.x0)
 | hd :: rest, i, v5_3 => if v0.length ≤ 1050000 then cond (decide ((ar v0 hd) < (0 : Int)))
  (some (.ret false))
  (cond (hd.toList == v5_0.toList)
   (some (.ret false))
   (cond (decide ((i : Int) > (0 : Int)))
    ((aD v5_4 (IntKind.wrap .i64 ((i : Int) - (1 : Int)))).bind fun g1 => cond (!Op.bytesLess g1.toList hd.toList)
     (some (.ret false))
     (e7 v0 v5_0 v5_4 rest (i + 1) v5_3))
    (e7 v0 v5_0 v5_4 rest (i + 1) v5_3))) else none
theorem CL {q0 : Kd} (v0 : List GTask) (v5_0 v5_1 : ByteArray) (v5_2 : Int) (v5_4 : List ByteArray) (rest : List ByteArray) : ∀ (i : Nat) (v5_3 : Bool), (v5_4).drop i = rest → v5_4.length ≤ 9223372036854775807 → Ans (e7 v0 v5_0 v5_4 rest i v5_3) (CM (q0 := q0) v0 v5_0 v5_1 v5_2 v5_3 v5_4 (i : Int)) := by
 induction rest with
 | nil =>
  intro i v5_3 hE hl
  have hb := bd hE
  unfold e7
  exact KL (KN (show cH (bB q0 v0 v5_0 v5_1 v5_2 v5_3 v5_4 (i : Int)) (.exit 0) (kG q0) from yO (q0 := q0) v0 v5_0 v5_1 v5_2 v5_3 v5_4 (i : Int) hb) (by intro h; cases h))
 | cons hd rest ih =>
  intro i v5_3 hE hl
  have hb := aQ hE
  have hw := aR hE hl
  have hE2 := aF hE
  have hg := aS hE
  unfold e7
  refine KQ (fun h2 => ?_)
  refine KO (fun h3 => ?_) (fun h3 => ?_)
  ·exact KL (KN (show cH (bB q0 v0 v5_0 v5_1 v5_2 v5_3 v5_4 (i : Int)) .ret (dx q0 false) from yJ (q0 := q0) v0 v5_0 v5_1 v5_2 v5_3 v5_4 (i : Int) hd hb hg h2 h3) (by intro h; cases h))
  ·refine KO (fun h4 => ?_) (fun h4 => ?_)
   ·exact KL (KN (show cH (bB q0 v0 v5_0 v5_1 v5_2 v5_3 v5_4 (i : Int)) .ret (dx q0 false) from yK (q0 := q0) v0 v5_0 v5_1 v5_2 v5_3 v5_4 (i : Int) hd hb hg h2 h3 h4) (by intro h; cases h))
   ·refine KO (fun h5 => ?_) (fun h5 => ?_)
    ·refine KP (fun g1 h6 => ?_)
     refine KO (fun h7 => ?_) (fun h7 => ?_)
     ·exact KL (KN (show cH (bB q0 v0 v5_0 v5_1 v5_2 v5_3 v5_4 (i : Int)) .ret (dx q0 false) from yL (q0 := q0) v0 v5_0 v5_1 v5_2 v5_3 v5_4 (i : Int) hd g1 hb hg h2 h3 h4 h5 h6 h7) (by intro h; cases h))
     ·exact (ih (i + 1) v5_3 hE2 hl).mono fun y hy => by have r : cH (bB q0 v0 v5_0 v5_1 v5_2 v5_3 v5_4 (i : Int)) .normal (bB q0 v0 v5_0 v5_1 v5_2 v5_3 v5_4 (inc (i : Int))) := yM (q0 := q0) v0 v5_0 v5_1 v5_2 v5_3 v5_4 (i : Int) hd g1 hb hg h2 h3 h4 h5 h6 h7; rw [hw] at r; cases y <;> exact KM r hy
    ·exact (ih (i + 1) v5_3 hE2 hl).mono fun y hy => by have r : cH (bB q0 v0 v5_0 v5_1 v5_2 v5_3 v5_4 (i : Int)) .normal (bB q0 v0 v5_0 v5_1 v5_2 v5_3 v5_4 (inc (i : Int))) := yN (q0 := q0) v0 v5_0 v5_1 v5_2 v5_3 v5_4 (i : Int) hd hb hg h2 h3 h4 h5; rw [hw] at r; cases y <;> exact KM r hy
noncomputable def nJ (x0 : List GTask) (x1 : Int) : Option (Bool) :=
  (aD x0 x1).bind fun g0 => if g0.f0.size ≤ 2000000 then cond (dG g0.f0)
   (if x0.length ≤ 1050000 then cond ((ar x0 g0.f0) != x1)
    (some (false))
    (cond ((bN g0.f1) == (0 : Int))
     (some (false))
     (cond (aH g0.f2 (0 : Int) (3 : Int))
      (if g0.f4.length ≤ 9223372036854775807 then (e7 x0 g0.f0 g0.f4 g0.f4 0 g0.f3).bind fun y => match y with
       | .ret w0_4 => (some (w0_4))
       | .x0 => (some (true)) else none)
      (some (false)))) else none)
   (some (false)) else none
theorem D8 {q0 : Kd} (x0 : List GTask) (x1 : Int) : Ans (nJ x0 x1) (fun r => Does E 58 [.one (.s .far () 5 (x0.map (GTask.t q0))), .one (tI x1)] [(false, [tB r])]) := by
 unfold nJ
 refine KP (fun g0 h0 => ?_)
 refine KQ (fun h1 => ?_)
 refine KO (fun h2 => ?_) (fun h2 => ?_)
 ·refine KQ (fun h3 => ?_)
  refine KO (fun h4 => ?_) (fun h4 => ?_)
  ·exact KL (KK (fn := Tryz.f58) [.row ((GTask.t q0) g0), rT, .ret [(false, [tI (ar x0 g0.f0)])], .b true] _ rfl (fun _ => rfl) (fun k => by kernel_rfl) (AR (GTask.t q0) h0 <| AD (KT (cw g0.f0 h1) h2) <| AV (ψ := fun k => E.C k 63 [.one (.s .far () 5 (x0.map (GTask.t q0))), .one (tS g0.f0)] = some [(false, [tI (ar x0 g0.f0)])]) (eQ x0 g0.f0 h3) <| AC h4 <| AN))
  ·refine KO (fun h5 => ?_) (fun h5 => ?_)
   ·exact KL (KK (fn := Tryz.f58) [.row ((GTask.t q0) g0), rT, .ret [(false, [tI (ar x0 g0.f0)])], .b false, .ret [(false, [tI (bN g0.f1)])], .b true] _ rfl (fun _ => rfl) (fun k => by kernel_rfl) (AR (GTask.t q0) h0 <| AD (KT (cw g0.f0 h1) h2) <| AV (ψ := fun k => E.C k 63 [.one (.s .far () 5 (x0.map (GTask.t q0))), .one (tS g0.f0)] = some [(false, [tI (ar x0 g0.f0)])]) (eQ x0 g0.f0 h3) <| AC h4 <| AD (l4 g0.f1) <| AC h5 <| AN))
   ·refine KO (fun h6 => ?_) (fun h6 => ?_)
    ·refine KQ (fun hl5 => ?_)
     refine KP (fun y hy => ?_)
     replace hy := CL (q0 := q0) x0 g0.f0 g0.f1 g0.f2 g0.f4 g0.f4 0 g0.f3 rfl hl5 y hy
     cases y with
     | ret w0_4 =>
      have h7 := hy
      exact KL (KK (fn := Tryz.f58) [.row ((GTask.t q0) g0), rT, .ret [(false, [tI (ar x0 g0.f0)])], .b false, .ret [(false, [tI (bN g0.f1)])], .b false, rT, .lp .ret (dx q0 w0_4)] _ rfl (fun _ => rfl) (fun k => by kernel_rfl) (AR (GTask.t q0) h0 <| AD (KT (cw g0.f0 h1) h2) <| AV (ψ := fun k => E.C k 63 [.one (.s .far () 5 (x0.map (GTask.t q0))), .one (tS g0.f0)] = some [(false, [tI (ar x0 g0.f0)])]) (eQ x0 g0.f0 h3) <| AC h4 <| AD (l4 g0.f1) <| AC h5 <| AD (KT (bo g0.f2 (0 : Int) (3 : Int)) h6) <| AL h7 <| AN))
     | x0 =>
      have h7 := hy
      exact KL (KK (fn := Tryz.f58) [.row ((GTask.t q0) g0), rT, .ret [(false, [tI (ar x0 g0.f0)])], .b false, .ret [(false, [tI (bN g0.f1)])], .b false, rT, .lp (.exit 0) (kG q0)] _ rfl (fun _ => rfl) (fun k => by kernel_rfl) (AR (GTask.t q0) h0 <| AD (KT (cw g0.f0 h1) h2) <| AV (ψ := fun k => E.C k 63 [.one (.s .far () 5 (x0.map (GTask.t q0))), .one (tS g0.f0)] = some [(false, [tI (ar x0 g0.f0)])]) (eQ x0 g0.f0 h3) <| AC h4 <| AD (l4 g0.f1) <| AC h5 <| AD (KT (bo g0.f2 (0 : Int) (3 : Int)) h6) <| AL h7 <| AN))
    ·exact KL (KK (fn := Tryz.f58) [.row ((GTask.t q0) g0), rT, .ret [(false, [tI (ar x0 g0.f0)])], .b false, .ret [(false, [tI (bN g0.f1)])], .b false, rF] _ rfl (fun _ => rfl) (fun k => by kernel_rfl) (AR (GTask.t q0) h0 <| AD (KT (cw g0.f0 h1) h2) <| AV (ψ := fun k => E.C k 63 [.one (.s .far () 5 (x0.map (GTask.t q0))), .one (tS g0.f0)] = some [(false, [tI (ar x0 g0.f0)])]) (eQ x0 g0.f0 h3) <| AC h4 <| AD (l4 g0.f1) <| AC h5 <| AD (KT (bo g0.f2 (0 : Int) (3 : Int)) h6) <| AN))
 ·exact KL (KK (fn := Tryz.f58) [.row ((GTask.t q0) g0), rF] _ rfl (fun _ => rfl) (fun k => by kernel_rfl) (AR (GTask.t q0) h0 <| AD (KT (cw g0.f0 h1) h2) <| AN))
def asc (self : ByteArray) : List ByteArray → Option ByteArray → Bool
 | [], _ => true
 | x :: l, p => !(x.toList == self.toList) && (match p with | some y => Op.bytesLess y.toList x.toList | none => true) && asc self l (some x)
theorem B2 : ∀ a b : List UInt8, (Op.bytesLess a b || a == b) = !Op.bytesLess b a
 | [], [] => rfl
 | [], _ :: _ => rfl
 | _ :: _, [] => rfl
 | x :: a, y :: b => by
  have ih := B2 a b
  unfold Op.bytesLess
  have e : (x :: a == y :: b) = (x == y && a == b) := rfl
  rw [e]
  rcases Nat.lt_trichotomy x.toNat y.toNat with h | h | h
  ·have h1 : x < y := UInt8.lt_iff_toNat_lt.2 h
   have h2 : ¬ y < x := fun q => by have := UInt8.lt_iff_toNat_lt.1 q; omega
   have h3 : (y == x) = false := by rw [beq_eq_false_iff_ne]; intro q; subst q; omega
   simp [h1, h2, h3]
  ·have h0 : x = y := UInt8.toNat_inj.1 h
   subst h0
   have h2 : ¬ x < x := fun q => by have := UInt8.lt_iff_toNat_lt.1 q; omega
   simp only [h2, decide_false, Bool.false_or, beq_self_eq_true, Bool.true_and]
   exact ih
  ·have h1 : y < x := UInt8.lt_iff_toNat_lt.2 h
   have h2 : ¬ x < y := fun q => by have := UInt8.lt_iff_toNat_lt.1 q; omega
   have h3 : (x == y) = false := by rw [beq_eq_false_iff_ne]; intro q; subst q; omega
   simp [h1, h2, h3]
theorem vq : ∀ a : List UInt8, Op.bytesLess a a = false
 | [] => rfl
 | x :: a => by
  unfold Op.bytesLess
  have h2 : ¬ x < x := fun q => by have := UInt8.lt_iff_toNat_lt.1 q; omega
  simp [h2, vq a]
theorem xh : ∀ {a b c : List UInt8}, Op.bytesLess a b = true → Op.bytesLess b c = true → Op.bytesLess a c = true
 | [], [], _, h, _ => by cases h
 | [], _ :: _, [], _, h => by cases h
 | [], _ :: _, _ :: _, _, _ => rfl
 | _ :: _, [], _, h, _ => by cases h
 | _ :: _, _ :: _, [], _, h => by cases h
 | x :: a, y :: b, z :: c, h1, h2 => by
  unfold Op.bytesLess at *
  simp only [Bool.or_eq_true, decide_eq_true_eq, Bool.and_eq_true, beq_iff_eq, UInt8.lt_iff_toNat_lt] at *
  rcases h1 with h1 | ⟨rfl, h1⟩
  ·rcases h2 with h2 | ⟨rfl, h2⟩
   ·exact .inl (by omega)
   ·exact .inl h1
  ·rcases h2 with h2 | ⟨rfl, h2⟩
   ·exact .inl h2
   ·exact .inr ⟨rfl, xh h1 h2⟩
theorem pX (self : ByteArray) : ∀ (l : List ByteArray) (p : Option ByteArray), asc self l p = true → (l.map tx).Nodup ∧ ∀ y, p = some y → ∀ x ∈ l, Op.bytesLess (tx y) (tx x) = true
 | [], p, _ => ⟨by simp, fun y _ x hx => by cases hx⟩
 | z :: l, p, h => by
  unfold asc at h
  simp only [Bool.and_eq_true] at h
  obtain ⟨h1, h2⟩ := pX self l (some z) h.2
  have h3 := h2 z rfl
  refine ⟨?_, fun y e x hx => ?_⟩
  ·rw [List.map_cons, List.nodup_cons]
   refine ⟨fun q => ?_, h1⟩
   obtain ⟨w, hw, e⟩ := List.mem_map.1 q
   have := h3 w hw
   rw [e, vq] at this
   cases this
  ·subst e
   have h4 : Op.bytesLess (tx y) (tx z) = true := by have := h.1.2; simp only [xR] at this; exact this
   rcases List.mem_cons.1 hx with rfl | hx
   ·exact h4
   ·exact xh h4 (h3 x hx)
theorem EL {α : Type} [DecidableEq α] : ∀ {l m : List α}, l.Nodup → (∀ x ∈ l, x ∈ m) → l.length ≤ m.length
 | [], _, _, _ => Nat.zero_le _
 | x :: l, m, h, hm => by
  rw [List.nodup_cons] at h
  have hx := hm x (by simp)
  have := EL (l := l) (m := m.erase x) h.2 fun y hy => (List.mem_erase_of_ne (fun e => h.1 (by rw [← e]; exact hy))).2 (hm y (by simp [hy]))
  rw [List.length_erase_of_mem hx] at this
  have : 0 < m.length := List.length_pos_of_mem hx
  simp only [List.length_cons]
  omega
theorem Iu (self : ByteArray) (aT : List ByteArray) (hl : aT.length ≤ 1050000) : ∀ (rest : List ByteArray) (i : Nat) (z : Bool), aT.drop i = rest → fC self aT rest i z = some (cond (asc self rest (if i = 0 then none else aT[i - 1]?)) .x0 (.ret false))
 | [], i, z, _ => rfl
 | x :: rest, i, z, h => by
  have ih := Iu self aT hl rest (i + 1) z (aF h)
  have hp : (if i + 1 = 0 then none else aT[i + 1 - 1]?) = some x := by
   rw [if_neg (by omega)]
   show aT[i]? = some x
   rw [← List.head?_drop, h]; rfl
  rw [hp] at ih
  unfold fC asc
  rw [ih]
  cases x.toList == self.toList with
  | true => rfl
  | false =>
   rw [cond_false]
   by_cases q : i = 0
   ·subst q
    rw [decide_eq_false (by omega), if_pos rfl, cond_false]; rfl
   ·have hi : i - 1 < aT.length := by
     rcases Nat.lt_or_ge i aT.length with g | g
     ·omega
     ·rw [List.drop_eq_nil_of_le g] at h; cases h
    have hi2 : i ≤ aT.length := by
     rcases Nat.lt_or_ge i aT.length with g | g
     ·omega
     ·rw [List.drop_eq_nil_of_le g] at h; cases h
    have hy : aT[i - 1]? = some aT[i - 1] := List.getElem?_eq_getElem hi
    have hg : aD aT (IntKind.wrap .i64 ((i : Int) - 1)) = some aT[i - 1] := by
     rw [cP _ (by omega) (by omega), show ((i : Int) - 1) = ((i - 1 : Nat) : Int) by omega, eG, hy]
    rw [decide_eq_true (by omega), if_neg q, cond_true, hg, Option.bind_some, hy, B2]
    simp only [Bool.not_false, Bool.true_and]
    cases Op.bytesLess aT[i - 1].toList x.toList <;> rfl
theorem Iv (ts : List GTask) (ht : ts.length ≤ 1050000) (self : ByteArray) (aT : List ByteArray) (hl : aT.length ≤ 1050000) : ∀ (rest : List ByteArray) (i : Nat) (z : Bool), aT.drop i = rest → e7 ts self aT rest i z = some (cond (asc self rest (if i = 0 then none else aT[i - 1]?) && rest.all fun n => decide (0 ≤ ar ts n)) .x0 (.ret false))
 | [], i, z, _ => rfl
 | x :: rest, i, z, h => by
  have ih := Iv ts ht self aT hl rest (i + 1) z (aF h)
  have hp : (if i + 1 = 0 then none else aT[i + 1 - 1]?) = some x := by
   rw [if_neg (by omega)]
   show aT[i]? = some x
   rw [← List.head?_drop, h]; rfl
  rw [hp] at ih
  unfold e7 asc
  rw [ih, if_pos ht, List.all_cons]
  by_cases w : ar ts x < 0
  ·rw [decide_eq_true w, decide_eq_false (by omega : ¬ 0 ≤ ar ts x), Bool.false_and, Bool.and_false]; rfl
  ·rw [decide_eq_false w, decide_eq_true (by omega : 0 ≤ ar ts x), Bool.true_and, cond_false]
   cases x.toList == self.toList with
   | true => rfl
   | false =>
    rw [cond_false]
    by_cases q : i = 0
    ·subst q
     rw [decide_eq_false (by omega), if_pos rfl, cond_false]; rfl
    ·have hi : i - 1 < aT.length := by
      rcases Nat.lt_or_ge i aT.length with g | g
      ·omega
      ·rw [List.drop_eq_nil_of_le g] at h; cases h
     have hi2 : i ≤ aT.length := by
      rcases Nat.lt_or_ge i aT.length with g | g
      ·omega
      ·rw [List.drop_eq_nil_of_le g] at h; cases h
     have hy : aT[i - 1]? = some aT[i - 1] := List.getElem?_eq_getElem hi
     have hg : aD aT (IntKind.wrap .i64 ((i : Int) - 1)) = some aT[i - 1] := by
      rw [cP _ (by omega) (by omega), show ((i : Int) - 1) = ((i - 1 : Nat) : Int) by omega, eG, hy]
     rw [decide_eq_true (by omega), if_neg q, cond_true, hg, Option.bind_some, hy]
     simp only [Bool.not_false, Bool.true_and]
     cases Op.bytesLess aT[i - 1].toList x.toList <;> rfl
noncomputable def pP (t : GTask) : Bool := dG t.f0 && ((bN t.f1 != 0) && (aH t.f2 0 3 && (decide (t.f4.length ≤ 4) && asc t.f0 t.f4 none)))
noncomputable def gZ (ts : List GTask) (i : Int) (t : GTask) : Bool := dG t.f0 && ((ar ts t.f0 == i) && ((bN t.f1 != 0) && (aH t.f2 0 3 && (asc t.f0 t.f4 none && t.f4.all fun n => decide (0 ≤ ar ts n)))))
noncomputable def lY (ts : List GTask) (i : Int) : Bool := match aD ts i with | some t => gZ ts i t | none => false
theorem EK {t : GTask} (h : an.sm t) : t.f0.size ≤ 2000000 := by
 have : t.f0.size ≤ 1050000 := h.1
 omega
theorem Ip (t : GTask) (h : an.sm t) : oN t = some (pP t) := by
 have h4 : t.f4.length ≤ 1050000 := h.2.2.1
 unfold oN pP
 rw [if_pos (EK h)]
 cases dG t.f0 with
 | false => rfl
 | true =>
  have e : (bN t.f1 != 0) = !(bN t.f1 == 0) := rfl
  rw [cond_true, Bool.true_and, e]
  cases bN t.f1 == 0 with
  | true => rfl
  | false =>
   rw [cond_false, Bool.not_false, Bool.true_and]
   cases aH t.f2 0 3 with
   | false => rfl
   | true =>
    rw [cond_true, Bool.true_and]
    by_cases q : t.f4.length ≤ 4
    ·rw [decide_eq_false (by omega), cond_false, decide_eq_true q, if_pos (by omega), Iu t.f0 t.f4 h4 t.f4 0 t.f3 rfl, if_pos rfl, Bool.true_and]
     cases asc t.f0 t.f4 none <;> rfl
    ·rw [decide_eq_true (by omega), decide_eq_false q]; rfl
theorem Eg (ts : List GTask) (i : Int) (h : an.sm ts) (hi : 0 ≤ i ∧ i < (ts.length : Int)) : nJ ts i = some (lY ts i) := by
 obtain ⟨t, hg, hm⟩ := gj hi
 have ht := h.2 t hm
 have h4 : t.f4.length ≤ 1050000 := ht.2.2.1
 unfold nJ lY gZ
 rw [hg, Option.bind_some, if_pos (EK ht)]
 simp only
 cases dG t.f0 with
 | false => rfl
 | true =>
  have e1 : (ar ts t.f0 != i) = !(ar ts t.f0 == i) := rfl
  have e : (bN t.f1 != 0) = !(bN t.f1 == 0) := rfl
  rw [cond_true, Bool.true_and, if_pos h.1, e1, e]
  cases ar ts t.f0 == i with
  | false => rfl
  | true =>
   rw [Bool.not_true, cond_false, Bool.true_and]
   cases bN t.f1 == 0 with
   | true => rfl
   | false =>
    rw [cond_false, Bool.not_false, Bool.true_and]
    cases aH t.f2 0 3 with
    | false => rfl
    | true =>
     rw [cond_true, Bool.true_and, if_pos (by omega), Iv ts h.1 t.f0 t.f4 h4 t.f4 0 t.f3 rfl, if_pos rfl]
     cases (asc t.f0 t.f4 none && t.f4.all fun n => decide (0 ≤ ar ts n)) <;> rfl
theorem F4 (ts : List GTask) (h4 : ts.length ≤ 4) (i : Int) (t : GTask) : gZ ts i t = (pP t && ((ar ts t.f0 == i) && t.f4.all fun n => decide (0 ≤ ar ts n))) := by
 unfold gZ pP
 by_cases q : asc t.f0 t.f4 none = true ∧ (t.f4.all fun n => decide (0 ≤ ar ts n)) = true
 ·have hl : t.f4.length ≤ 4 := by
   have := EL (l := t.f4.map tx) (m := ts.map fun u => tx u.f0) (pX t.f0 t.f4 none q.1).1 (fun x hx => by
    obtain ⟨n, hn, rfl⟩ := List.mem_map.1 hx
    have := List.all_eq_true.1 q.2 n hn
    obtain ⟨u, hu, e⟩ := Ef (of_decide_eq_true this)
    exact List.mem_map.2 ⟨u, hu, e⟩)
   simp only [List.length_map] at this
   omega
  rw [decide_eq_true hl, q.1, q.2]
  cases dG t.f0 <;> cases ar ts t.f0 == i <;> cases bN t.f1 != 0 <;> cases aH t.f2 0 3 <;> rfl
 ·have hf : (asc t.f0 t.f4 none && t.f4.all fun n => decide (0 ≤ ar ts n)) = false := by
   rw [← Bool.not_eq_true, Bool.and_eq_true]; exact q
  rw [hf]
  revert hf
  generalize (t.f4.all fun n => decide (0 ≤ ar ts n)) = B
  generalize asc t.f0 t.f4 none = A
  generalize decide (t.f4.length ≤ 4) = C
  intro hf
  cases A <;> cases B <;> simp at hf <;> cases dG t.f0 <;> cases ar ts t.f0 == i <;> cases bN t.f1 != 0 <;> cases aH t.f2 0 3 <;> cases C <;> rfl
theorem oE (x0 : GTask) (h : an.sm x0) : Does E 47 [.agg (GTask.t .far x0)] [(false, [tB (pP x0)])] := by
 exact FC x0 _ (Ip x0 h)
theorem u4 {q0 : Kd} (x0 : List GTask) (x1 : Int) (h : an.sm x0) (hi : 0 ≤ x1 ∧ x1 < (x0.length : Int)) : Does E 58 [.one (.s .far () 5 (x0.map (GTask.t q0))), .one (tI x1)] [(false, [tB (lY x0 x1)])] := by
 exact D8 x0 x1 _ (Eg x0 x1 h hi)
noncomputable def oK (x0 : ByteArray) : Option (Bool) :=
  cond ((au x0).2)
   (if an.sm ((au x0).1) then some (((be ((au x0).1)).1).toList == x0.toList) else none)
   (if an.sm ((au x0).1) then some (false) else none)
theorem Fw (x0 : ByteArray) : Ans (oK x0) (fun r => Does E 45 [.one (tS x0)] [(false, [tB r])]) := by
 unfold oK
 refine KO (fun h0 => ?_) (fun h0 => ?_)
 ·refine KQ (fun h1 => ?_)
  exact KL (KK (fn := Tryz.f45) [.ret [(true, GCron.t .own ((au x0).1)), (false, [tB true])], .ret [(false, [tS ((be ((au x0).1)).1)]), (false, [tB ((be ((au x0).1)).2)])]] _ rfl (fun _ => rfl) (fun k => by kernel_rfl) (AD (pU x0 h0) <| AD (tw ((au x0).1) h1) <| AN))
 ·refine KQ (fun h1 => ?_)
  exact KL (KK (fn := Tryz.f45) [.ret [(true, GCron.t .own ((au x0).1)), (false, [tB false])], .ret [(false, [tS ((be ((au x0).1)).1)]), (false, [tB ((be ((au x0).1)).2)])]] _ rfl (fun _ => rfl) (fun k => by kernel_rfl) (AD (pU x0 h0) <| AD (tw ((au x0).1) h1) <| AN))
noncomputable def iJ (s : ByteArray) : Bool := (au s).2 && ((be (au s).1).1.toList == s.toList)
theorem HJ (s : ByteArray) : oK s = some (iJ s) := by
 unfold oK iJ
 simp only [Cd s, if_true]
 cases (au s).2 <;> rfl
theorem iH (x0 : ByteArray) : Does E 45 [.one (tS x0)] [(false, [tB (iJ x0)])] := by
 exact Fw x0 _ (HJ x0)
inductive xv where
 | ret (v2 : Bool)
 | x0 
def ky (q0 : Kd) (v1_0 v1_1 : ByteArray) (v1_2 v1_3 : Int) (v1_4 : Bool) (v1_5 : List GTask) (v7 : Int) : US := stL 74 [(1, .box () [tS v1_0, tS v1_1, tI v1_2, tI v1_3, tB v1_4, .s .far () 5 (v1_5.map (GTask.t q0))]), (7, .one (tI v7))]
def oq (q0 : Kd) (zv2 : Bool) : US := stL 74 [(2, .one (tB zv2))]
def pH (q0 : Kd) (v1_0 v1_1 : ByteArray) (v1_2 v1_3 : Int) (v1_4 : Bool) (v1_5 : List GTask) : US := stL 74 [(1, .box () [tS v1_0, tS v1_1, tI v1_2, tI v1_3, tB v1_4, .s .far () 5 (v1_5.map (GTask.t q0))])]
abbrev so : US → Exit → US → Prop := Round E 32 (aw Tryz.f32 0)
def FU {q0 : Kd} (v1_0 v1_1 : ByteArray) (v1_2 v1_3 : Int) (v1_4 : Bool) (v1_5 : List GTask) (v7 : Int) : xv → Prop
 | .ret zv2 => Loops E 32 (aw Tryz.f32 0) (ky q0 v1_0 v1_1 v1_2 v1_3 v1_4 v1_5 v7) .ret (oq q0 zv2)
 | .x0 => Loops E 32 (aw Tryz.f32 0) (ky q0 v1_0 v1_1 v1_2 v1_3 v1_4 v1_5 v7) (.exit 0) (pH q0 v1_0 v1_1 v1_2 v1_3 v1_4 v1_5)
noncomputable def iT (v1_5 : List GTask) : List GTask → Nat → Bool → Option xv
 | [], i, v1_4 => some (.x0)
 | hd :: rest, i, v1_4 => if an.sm v1_5 then if 0 ≤ (i : Int) ∧ (i : Int) < (v1_5.length : Int) then cond (lY v1_5 (i : Int))
  (iT v1_5 rest (i + 1) v1_4)
  (some (.ret false)) else none else none
theorem FT {q0 : Kd} (v1_0 v1_1 : ByteArray) (v1_2 v1_3 : Int) (v1_5 : List GTask) (rest : List GTask) : ∀ (i : Nat) (v1_4 : Bool), (v1_5).drop i = rest → v1_5.length ≤ 9223372036854775807 → Ans (iT v1_5 rest i v1_4) (FU (q0 := q0) v1_0 v1_1 v1_2 v1_3 v1_4 v1_5 (i : Int)) := by
 induction rest with
 | nil =>
  intro i v1_4 hE hl
  have hb := bd hE
  unfold iT
  exact KL (KN (show so (ky q0 v1_0 v1_1 v1_2 v1_3 v1_4 v1_5 (i : Int)) (.exit 0) (pH q0 v1_0 v1_1 v1_2 v1_3 v1_4 v1_5) from KJ [.val (.int .i64 (v1_5.length : Int)), .b false] _ (fun k => by kernel_rfl) (ALn v1_5 (GTask.t q0) <| AC hb <| AN)) (by intro h; cases h))
 | cons hd rest ih =>
  intro i v1_4 hE hl
  have hb := aQ hE
  have hw := aR hE hl
  have hE2 := aF hE
  have hg := aS hE
  unfold iT
  refine KQ (fun h1 => ?_)
  refine KQ (fun h2 => ?_)
  refine KO (fun h3 => ?_) (fun h3 => ?_)
  ·exact (ih (i + 1) v1_4 hE2 hl).mono fun y hy => by have r : so (ky q0 v1_0 v1_1 v1_2 v1_3 v1_4 v1_5 (i : Int)) .normal (ky q0 v1_0 v1_1 v1_2 v1_3 v1_4 v1_5 (inc (i : Int))) := KJ [.val (.int .i64 (v1_5.length : Int)), .b true, rT] _ (fun k => by kernel_rfl) (ALn v1_5 (GTask.t q0) <| AC hb <| AV (ψ := fun k => E.C k 58 [.one (.s .far () 5 (v1_5.map (GTask.t q0))), .one (tI (i : Int))] = some [(false, [tB true])]) (KR (u4 v1_5 (i : Int) h1 h2) (by rw [h3])) <| AN); rw [hw] at r; cases y <;> exact KM r hy
  ·exact KL (KN (show so (ky q0 v1_0 v1_1 v1_2 v1_3 v1_4 v1_5 (i : Int)) .ret (oq q0 false) from KJ [.val (.int .i64 (v1_5.length : Int)), .b true, rF] _ (fun k => by kernel_rfl) (ALn v1_5 (GTask.t q0) <| AC hb <| AV (ψ := fun k => E.C k 58 [.one (.s .far () 5 (v1_5.map (GTask.t q0))), .one (tI (i : Int))] = some [(false, [tB false])]) (KR (u4 v1_5 (i : Int) h1 h2) (by rw [h3])) <| AN)) (by intro h; cases h))
noncomputable def qk (x0 : GDag) : Option (Bool) :=
  cond ((au x0.f1).2)
   (if an.sm ((au x0.f1).1) then if x0.f0.size ≤ 2000000 then cond (dG x0.f0)
    (cond (!(((be ((au x0.f1).1)).1).toList == x0.f1.toList))
     (some (false))
     (cond (aH x0.f3 (0 : Int) (68374079 : Int))
      (cond (aH x0.f2 (0 : Int) x0.f3)
       (cond (aH (x0.f5.length : Int) (1 : Int) (4 : Int))
        (if x0.f5.length ≤ 9223372036854775807 then (iT x0.f5 x0.f5 0 x0.f4).bind fun y => match y with
         | .ret w0_2 => (some (w0_2))
         | .x0 => (if an.sm x0.f5 then if b8 x0.f5 then some (((cl x0.f5).length : Int) == (x0.f5.length : Int)) else none else none) else none)
        (some (false)))
       (some (false)))
      (some (false))))
    (some (false)) else none else none)
   (if an.sm ((au x0.f1).1) then if x0.f0.size ≤ 2000000 then cond (dG x0.f0)
    (some (false))
    (some (false)) else none else none)
theorem Hi {q0 : Kd} (x0 : GDag) : Ans (qk x0) (fun r => Does E 32 [.agg (GDag.t .far q0 x0)] [(false, [tB r])]) := by
 unfold qk
 refine KO (fun f1 => ?_) (fun f1 => ?_)
 ·refine KQ (fun f2 => ?_)
  refine KQ (fun f3 => ?_)
  refine KO (fun f4 => ?_) (fun f4 => ?_)
  ·refine KO (fun h4 => ?_) (fun h4 => ?_)
   ·exact KL (KK (fn := Tryz.f32) [.ret [(true, GCron.t .own ((au x0.f1).1)), (false, [tB true])], .ret [(false, [tS ((be ((au x0.f1).1)).1)]), (false, [tB ((be ((au x0.f1).1)).2)])], rT, .b true] _ rfl (fun _ => rfl) (fun k => by kernel_rfl) (AD (d9 x0.f1 f1) <| AD (eb ((au x0.f1).1) f2) <| AD (KT (cw x0.f0 f3) f4) <| AC h4 <| AN))
   ·refine KO (fun h5 => ?_) (fun h5 => ?_)
    ·refine KO (fun h6 => ?_) (fun h6 => ?_)
     ·refine KO (fun h7 => ?_) (fun h7 => ?_)
      ·refine KQ (fun hl7 => ?_)
       refine KP (fun y hy => ?_)
       replace hy := FT (q0 := q0) x0.f0 x0.f1 x0.f2 x0.f3 x0.f5 x0.f5 0 x0.f4 rfl hl7 y hy
       cases y with
       | ret w0_2 =>
        have h8 := hy
        exact KL (KK (fn := Tryz.f32) [.ret [(true, GCron.t .own ((au x0.f1).1)), (false, [tB true])], .ret [(false, [tS ((be ((au x0.f1).1)).1)]), (false, [tB ((be ((au x0.f1).1)).2)])], rT, .b false, rT, rT, .val (.int .i64 (x0.f5.length : Int)), rT, .lp .ret (oq q0 w0_2)] _ rfl (fun _ => rfl) (fun k => by kernel_rfl) (AD (d9 x0.f1 f1) <| AD (eb ((au x0.f1).1) f2) <| AD (KT (cw x0.f0 f3) f4) <| AC h4 <| AD (KT (bo x0.f3 (0 : Int) (68374079 : Int)) h5) <| AD (KT (bo x0.f2 (0 : Int) x0.f3) h6) <| ALn x0.f5 (GTask.t q0) <| AD (KT (bo (x0.f5.length : Int) (1 : Int) (4 : Int)) h7) <| AL h8 <| AN))
       | x0 =>
        have h8 := hy
        refine KQ (fun h9 => ?_)
        refine KQ (fun h10 => ?_)
        exact KL (KK (fn := Tryz.f32) [.ret [(true, GCron.t .own ((au x0.f1).1)), (false, [tB true])], .ret [(false, [tS ((be ((au x0.f1).1)).1)]), (false, [tB ((be ((au x0.f1).1)).2)])], rT, .b false, rT, rT, .val (.int .i64 (x0.f5.length : Int)), rT, .lp (.exit 0) (pH q0 x0.f0 x0.f1 x0.f2 x0.f3 x0.f4 x0.f5), .ret [(false, [.s .own () 1 ((cl x0.f5).map etI)])], .val (.int .i64 ((cl x0.f5).length : Int)), .val (.int .i64 (x0.f5.length : Int))] _ rfl (fun _ => rfl) (fun k => by kernel_rfl) (AD (d9 x0.f1 f1) <| AD (eb ((au x0.f1).1) f2) <| AD (KT (cw x0.f0 f3) f4) <| AC h4 <| AD (KT (bo x0.f3 (0 : Int) (68374079 : Int)) h5) <| AD (KT (bo x0.f2 (0 : Int) x0.f3) h6) <| ALn x0.f5 (GTask.t q0) <| AD (KT (bo (x0.f5.length : Int) (1 : Int) (4 : Int)) h7) <| AL h8 <| AV (ψ := fun k => E.C k 37 [.one (.s .far () 5 (x0.f5.map (GTask.t q0)))] = some [(false, [.s .own () 1 ((cl x0.f5).map etI)])]) (pc x0.f5 h9 h10) <| ALn (cl x0.f5) etI <| ALn x0.f5 (GTask.t q0) <| AN))
      ·exact KL (KK (fn := Tryz.f32) [.ret [(true, GCron.t .own ((au x0.f1).1)), (false, [tB true])], .ret [(false, [tS ((be ((au x0.f1).1)).1)]), (false, [tB ((be ((au x0.f1).1)).2)])], rT, .b false, rT, rT, .val (.int .i64 (x0.f5.length : Int)), rF] _ rfl (fun _ => rfl) (fun k => by kernel_rfl) (AD (d9 x0.f1 f1) <| AD (eb ((au x0.f1).1) f2) <| AD (KT (cw x0.f0 f3) f4) <| AC h4 <| AD (KT (bo x0.f3 (0 : Int) (68374079 : Int)) h5) <| AD (KT (bo x0.f2 (0 : Int) x0.f3) h6) <| ALn x0.f5 (GTask.t q0) <| AD (KT (bo (x0.f5.length : Int) (1 : Int) (4 : Int)) h7) <| AN))
     ·exact KL (KK (fn := Tryz.f32) [.ret [(true, GCron.t .own ((au x0.f1).1)), (false, [tB true])], .ret [(false, [tS ((be ((au x0.f1).1)).1)]), (false, [tB ((be ((au x0.f1).1)).2)])], rT, .b false, rT, rF] _ rfl (fun _ => rfl) (fun k => by kernel_rfl) (AD (d9 x0.f1 f1) <| AD (eb ((au x0.f1).1) f2) <| AD (KT (cw x0.f0 f3) f4) <| AC h4 <| AD (KT (bo x0.f3 (0 : Int) (68374079 : Int)) h5) <| AD (KT (bo x0.f2 (0 : Int) x0.f3) h6) <| AN))
    ·exact KL (KK (fn := Tryz.f32) [.ret [(true, GCron.t .own ((au x0.f1).1)), (false, [tB true])], .ret [(false, [tS ((be ((au x0.f1).1)).1)]), (false, [tB ((be ((au x0.f1).1)).2)])], rT, .b false, rF] _ rfl (fun _ => rfl) (fun k => by kernel_rfl) (AD (d9 x0.f1 f1) <| AD (eb ((au x0.f1).1) f2) <| AD (KT (cw x0.f0 f3) f4) <| AC h4 <| AD (KT (bo x0.f3 (0 : Int) (68374079 : Int)) h5) <| AN))
  ·exact KL (KK (fn := Tryz.f32) [.ret [(true, GCron.t .own ((au x0.f1).1)), (false, [tB ((au x0.f1).2)])], .ret [(false, [tS ((be ((au x0.f1).1)).1)]), (false, [tB ((be ((au x0.f1).1)).2)])], rF] _ rfl (fun _ => rfl) (fun k => by kernel_rfl) (AD (nX x0.f1) <| AD (eb ((au x0.f1).1) f2) <| AD (KT (cw x0.f0 f3) f4) <| AN))
 ·refine KQ (fun f5 => ?_)
  refine KQ (fun f6 => ?_)
  refine KO (fun f7 => ?_) (fun f7 => ?_)
  ·exact KL (KK (fn := Tryz.f32) [.ret [(true, GCron.t .own ((au x0.f1).1)), (false, [tB false])], .ret [(false, [tS ((be ((au x0.f1).1)).1)]), (false, [tB ((be ((au x0.f1).1)).2)])], rT] _ rfl (fun _ => rfl) (fun k => by kernel_rfl) (AD (d9 x0.f1 f1) <| AD (eb ((au x0.f1).1) f5) <| AD (KT (cw x0.f0 f6) f7) <| AN))
  ·exact KL (KK (fn := Tryz.f32) [.ret [(true, GCron.t .own ((au x0.f1).1)), (false, [tB ((au x0.f1).2)])], .ret [(false, [tS ((be ((au x0.f1).1)).1)]), (false, [tB ((be ((au x0.f1).1)).2)])], rF] _ rfl (fun _ => rfl) (fun k => by kernel_rfl) (AD (nX x0.f1) <| AD (eb ((au x0.f1).1) f5) <| AD (KT (cw x0.f0 f6) f7) <| AN))
inductive wX where
 | ret (v2 : Bool)
 | x2 
def kj (q0 : Kd) (v1_0 v1_1 : ByteArray) (v1_2 v1_3 : Int) (v1_4 : Bool) (v1_5 v40 : List GTask) (v41 v42 : Int) (v59 : List ByteArray) (v60 v61 : Int) : US := stL 78 [(1, .box () [tS v1_0, tS v1_1, tI v1_2, tI v1_3, tB v1_4, .s .far () 5 (v1_5.map (GTask.t q0))]), (40, .one (.s .far () 5 (v40.map (GTask.t q0)))), (41, .one (tI v41)), (42, .one (tI v42)), (59, .one (.s .far () 1 (v59.map etS))), (60, .one (tI v60)), (61, .one (tI v61))]
def oa (q0 : Kd) (zv2 : Bool) : US := stL 78 [(2, .one (tB zv2))]
def pq (q0 : Kd) (v1_0 v1_1 : ByteArray) (v1_2 v1_3 : Int) (v1_4 : Bool) (v1_5 v40 : List GTask) (v41 v42 : Int) : US := stL 78 [(1, .box () [tS v1_0, tS v1_1, tI v1_2, tI v1_3, tB v1_4, .s .far () 5 (v1_5.map (GTask.t q0))]), (40, .one (.s .far () 5 (v40.map (GTask.t q0)))), (41, .one (tI v41)), (42, .one (tI v42))]
abbrev rU : US → Exit → US → Prop := Round E 28 (aw Tryz.f28 1)
def Fq {q0 : Kd} (v1_0 v1_1 : ByteArray) (v1_2 v1_3 : Int) (v1_4 : Bool) (v1_5 v40 : List GTask) (v41 v42 : Int) (v59 : List ByteArray) (v60 v61 : Int) : wX → Prop
 | .ret zv2 => Loops E 28 (aw Tryz.f28 1) (kj q0 v1_0 v1_1 v1_2 v1_3 v1_4 v1_5 v40 v41 v42 v59 v60 v61) .ret (oa q0 zv2)
 | .x2 => Loops E 28 (aw Tryz.f28 1) (kj q0 v1_0 v1_1 v1_2 v1_3 v1_4 v1_5 v40 v41 v42 v59 v60 v61) (.exit 2) (pq q0 v1_0 v1_1 v1_2 v1_3 v1_4 v1_5 v40 v41 v42)
noncomputable def iL (v1_0 v1_1 : ByteArray) (v1_2 v1_3 : Int) (v1_5 : List GTask) : List ByteArray → Nat → Bool → Option wX
 | [], i, v1_4 => some (.x2)
 | hd :: rest, i, v1_4 => if (GDag.mk v1_0 v1_1 v1_2 v1_3 v1_4 v1_5).f5.length ≤ 1050000 then cond (decide ((bC (GDag.mk v1_0 v1_1 v1_2 v1_3 v1_4 v1_5) hd) < (0 : Int)))
  (some (.ret false))
  (iL v1_0 v1_1 v1_2 v1_3 v1_5 rest (i + 1) v1_4) else none
theorem Fo {q0 : Kd} (v1_0 v1_1 : ByteArray) (v1_2 v1_3 : Int) (v1_5 v40 : List GTask) (v41 v42 : Int) (v59 : List ByteArray) (rest : List ByteArray) : ∀ (i : Nat) (v1_4 : Bool), (v59).drop i = rest → v59.length ≤ 9223372036854775807 → Ans (iL v1_0 v1_1 v1_2 v1_3 v1_5 rest i v1_4) (Fq (q0 := q0) v1_0 v1_1 v1_2 v1_3 v1_4 v1_5 v40 v41 v42 v59 (v59.length : Int) (i : Int)) := by
 induction rest with
 | nil =>
  intro i v1_4 hE hl
  have hb := bd hE
  unfold iL
  exact KL (KN (show rU (kj q0 v1_0 v1_1 v1_2 v1_3 v1_4 v1_5 v40 v41 v42 v59 (v59.length : Int) (i : Int)) (.exit 2) (pq q0 v1_0 v1_1 v1_2 v1_3 v1_4 v1_5 v40 v41 v42) from KJ [.b false] _ (fun k => by kernel_rfl) (AC hb <| AN)) (by intro h; cases h))
 | cons hd rest ih =>
  intro i v1_4 hE hl
  have hb := aQ hE
  have hw := aR hE hl
  have hE2 := aF hE
  have hg := aS hE
  unfold iL
  refine KQ (fun h2 => ?_)
  refine KO (fun h3 => ?_) (fun h3 => ?_)
  ·exact KL (KN (show rU (kj q0 v1_0 v1_1 v1_2 v1_3 v1_4 v1_5 v40 v41 v42 v59 (v59.length : Int) (i : Int)) .ret (oa q0 false) from KJ [.b true, .row (etS hd), .ret [(false, [tI (bC (GDag.mk v1_0 v1_1 v1_2 v1_3 v1_4 v1_5) hd)])], .b true] _ (fun k => by kernel_rfl) (AC hb <| AR etS hg <| AV (ψ := fun k => E.C k 48 [.agg (GDag.t .far q0 (GDag.mk v1_0 v1_1 v1_2 v1_3 v1_4 v1_5)), .one (tS hd)] = some [(false, [tI (bC (GDag.mk v1_0 v1_1 v1_2 v1_3 v1_4 v1_5) hd)])]) (eJ (GDag.mk v1_0 v1_1 v1_2 v1_3 v1_4 v1_5) hd h2) <| AC h3 <| AN)) (by intro h; cases h))
  ·exact (ih (i + 1) v1_4 hE2 hl).mono fun y hy => by have r : rU (kj q0 v1_0 v1_1 v1_2 v1_3 v1_4 v1_5 v40 v41 v42 v59 (v59.length : Int) (i : Int)) .normal (kj q0 v1_0 v1_1 v1_2 v1_3 v1_4 v1_5 v40 v41 v42 v59 (v59.length : Int) (inc (i : Int))) := KJ [.b true, .row (etS hd), .ret [(false, [tI (bC (GDag.mk v1_0 v1_1 v1_2 v1_3 v1_4 v1_5) hd)])], .b false] _ (fun k => by kernel_rfl) (AC hb <| AR etS hg <| AV (ψ := fun k => E.C k 48 [.agg (GDag.t .far q0 (GDag.mk v1_0 v1_1 v1_2 v1_3 v1_4 v1_5)), .one (tS hd)] = some [(false, [tI (bC (GDag.mk v1_0 v1_1 v1_2 v1_3 v1_4 v1_5) hd)])]) (eJ (GDag.mk v1_0 v1_1 v1_2 v1_3 v1_4 v1_5) hd h2) <| AC h3 <| AN); rw [hw] at r; cases y <;> exact KM r hy
inductive wW where
 | ret (v2 : Bool)
 | x0 
def gE (q0 : Kd) (v1_0 v1_1 : ByteArray) (v1_2 v1_3 : Int) (v1_4 : Bool) (v1_5 v40 : List GTask) (v41 v42 : Int) : US := stL 78 [(1, .box () [tS v1_0, tS v1_1, tI v1_2, tI v1_3, tB v1_4, .s .far () 5 (v1_5.map (GTask.t q0))]), (40, .one (.s .far () 5 (v40.map (GTask.t q0)))), (41, .one (tI v41)), (42, .one (tI v42))]
def i8 (q0 : Kd) (zv2 : Bool) : US := stL 78 [(2, .one (tB zv2))]
def pp (q0 : Kd) (v1_0 v1_1 : ByteArray) (v1_2 v1_3 : Int) (v1_4 : Bool) (v1_5 : List GTask) : US := stL 78 [(1, .box () [tS v1_0, tS v1_1, tI v1_2, tI v1_3, tB v1_4, .s .far () 5 (v1_5.map (GTask.t q0))])]
abbrev mi : US → Exit → US → Prop := Round E 28 (aw Tryz.f28 0)
def Fp {q0 : Kd} (v1_0 v1_1 : ByteArray) (v1_2 v1_3 : Int) (v1_4 : Bool) (v1_5 v40 : List GTask) (v41 v42 : Int) : wW → Prop
 | .ret zv2 => Loops E 28 (aw Tryz.f28 0) (gE q0 v1_0 v1_1 v1_2 v1_3 v1_4 v1_5 v40 v41 v42) .ret (i8 q0 zv2)
 | .x0 => Loops E 28 (aw Tryz.f28 0) (gE q0 v1_0 v1_1 v1_2 v1_3 v1_4 v1_5 v40 v41 v42) (.exit 0) (pp q0 v1_0 v1_1 v1_2 v1_3 v1_4 v1_5)
noncomputable def iK (v1_0 v1_1 : ByteArray) (v1_2 v1_3 : Int) (v1_5 : List GTask) : List GTask → Nat → Bool → Option wW
 | [], i, v1_4 => some (.x0)
 | hd :: rest, i, v1_4 => if an.sm hd then cond (pP hd)
  (if (GDag.mk v1_0 v1_1 v1_2 v1_3 v1_4 v1_5).f5.length ≤ 1050000 then cond ((bC (GDag.mk v1_0 v1_1 v1_2 v1_3 v1_4 v1_5) hd.f0) != (i : Int))
   (some (.ret false))
   (if hd.f4.length ≤ 9223372036854775807 then (iL v1_0 v1_1 v1_2 v1_3 v1_5 hd.f4 0 v1_4).bind fun y => match y with
    | .ret w0_2 => (some (.ret w0_2))
    | .x2 => (iK v1_0 v1_1 v1_2 v1_3 v1_5 rest (i + 1) v1_4) else none) else none)
  (some (.ret false)) else none
theorem Fn {q0 : Kd} (v1_0 v1_1 : ByteArray) (v1_2 v1_3 : Int) (v1_5 v40 : List GTask) (rest : List GTask) : ∀ (i : Nat) (v1_4 : Bool), (v40).drop i = rest → v40.length ≤ 9223372036854775807 → Ans (iK v1_0 v1_1 v1_2 v1_3 v1_5 rest i v1_4) (Fp (q0 := q0) v1_0 v1_1 v1_2 v1_3 v1_4 v1_5 v40 (v40.length : Int) (i : Int)) := by
 induction rest with
 | nil =>
  intro i v1_4 hE hl
  have hb := bd hE
  unfold iK
  exact KL (KN (show mi (gE q0 v1_0 v1_1 v1_2 v1_3 v1_4 v1_5 v40 (v40.length : Int) (i : Int)) (.exit 0) (pp q0 v1_0 v1_1 v1_2 v1_3 v1_4 v1_5) from KJ [.b false] _ (fun k => by kernel_rfl) (AC hb <| AN)) (by intro h; cases h))
 | cons hd rest ih =>
  intro i v1_4 hE hl
  have hb := aQ hE
  have hw := aR hE hl
  have hE2 := aF hE
  have hg := aS hE
  unfold iK
  refine KQ (fun h2 => ?_)
  refine KO (fun h3 => ?_) (fun h3 => ?_)
  ·refine KQ (fun h4 => ?_)
   refine KO (fun h5 => ?_) (fun h5 => ?_)
   ·exact KL (KN (show mi (gE q0 v1_0 v1_1 v1_2 v1_3 v1_4 v1_5 v40 (v40.length : Int) (i : Int)) .ret (i8 q0 false) from KJ [.b true, .row ((GTask.t q0) hd), rT, .ret [(false, [tI (bC (GDag.mk v1_0 v1_1 v1_2 v1_3 v1_4 v1_5) hd.f0)])], .b true] _ (fun k => by kernel_rfl) (AC hb <| AR (GTask.t q0) hg <| AD (KT (oE hd h2) h3) <| AV (ψ := fun k => E.C k 48 [.agg (GDag.t .far q0 (GDag.mk v1_0 v1_1 v1_2 v1_3 v1_4 v1_5)), .one (tS hd.f0)] = some [(false, [tI (bC (GDag.mk v1_0 v1_1 v1_2 v1_3 v1_4 v1_5) hd.f0)])]) (eJ (GDag.mk v1_0 v1_1 v1_2 v1_3 v1_4 v1_5) hd.f0 h4) <| AC h5 <| AN)) (by intro h; cases h))
   ·refine KQ (fun hl4 => ?_)
    refine KP (fun y hy => ?_)
    replace hy := Fo (q0 := q0) v1_0 v1_1 v1_2 v1_3 v1_5 v40 (v40.length : Int) (i : Int) hd.f4 hd.f4 0 v1_4 rfl hl4 y hy
    cases y with
    | ret w0_2 =>
     have h6 := hy
     exact KL (KN (show mi (gE q0 v1_0 v1_1 v1_2 v1_3 v1_4 v1_5 v40 (v40.length : Int) (i : Int)) .ret (i8 q0 w0_2) from KJ [.b true, .row ((GTask.t q0) hd), rT, .ret [(false, [tI (bC (GDag.mk v1_0 v1_1 v1_2 v1_3 v1_4 v1_5) hd.f0)])], .b false, .val (.int .i64 (hd.f4.length : Int)), .lp .ret (oa q0 w0_2)] _ (fun k => by kernel_rfl) (AC hb <| AR (GTask.t q0) hg <| AD (KT (oE hd h2) h3) <| AV (ψ := fun k => E.C k 48 [.agg (GDag.t .far q0 (GDag.mk v1_0 v1_1 v1_2 v1_3 v1_4 v1_5)), .one (tS hd.f0)] = some [(false, [tI (bC (GDag.mk v1_0 v1_1 v1_2 v1_3 v1_4 v1_5) hd.f0)])]) (eJ (GDag.mk v1_0 v1_1 v1_2 v1_3 v1_4 v1_5) hd.f0 h4) <| AC h5 <| ALn hd.f4 etS <| AL h6 <| AN)) (by intro h; cases h))
    | x2 =>
     have h6 := hy
     exact (ih (i + 1) v1_4 hE2 hl).mono fun y hy => by have r : mi (gE q0 v1_0 v1_1 v1_2 v1_3 v1_4 v1_5 v40 (v40.length : Int) (i : Int)) .normal (gE q0 v1_0 v1_1 v1_2 v1_3 v1_4 v1_5 v40 (v40.length : Int) (inc (i : Int))) := KJ [.b true, .row ((GTask.t q0) hd), rT, .ret [(false, [tI (bC (GDag.mk v1_0 v1_1 v1_2 v1_3 v1_4 v1_5) hd.f0)])], .b false, .val (.int .i64 (hd.f4.length : Int)), .lp (.exit 2) (pq q0 v1_0 v1_1 v1_2 v1_3 v1_4 v1_5 v40 (v40.length : Int) (i : Int))] _ (fun k => by kernel_rfl) (AC hb <| AR (GTask.t q0) hg <| AD (KT (oE hd h2) h3) <| AV (ψ := fun k => E.C k 48 [.agg (GDag.t .far q0 (GDag.mk v1_0 v1_1 v1_2 v1_3 v1_4 v1_5)), .one (tS hd.f0)] = some [(false, [tI (bC (GDag.mk v1_0 v1_1 v1_2 v1_3 v1_4 v1_5) hd.f0)])]) (eJ (GDag.mk v1_0 v1_1 v1_2 v1_3 v1_4 v1_5) hd.f0 h4) <| AC h5 <| ALn hd.f4 etS <| AL h6 <| AN); rw [hw] at r; cases y <;> exact KM r hy
  ·exact KL (KN (show mi (gE q0 v1_0 v1_1 v1_2 v1_3 v1_4 v1_5 v40 (v40.length : Int) (i : Int)) .ret (i8 q0 false) from KJ [.b true, .row ((GTask.t q0) hd), rF] _ (fun k => by kernel_rfl) (AC hb <| AR (GTask.t q0) hg <| AD (KT (oE hd h2) h3) <| AN)) (by intro h; cases h))
noncomputable def qa (x0 : GDag) : Option (Bool) :=
  if x0.f0.size ≤ 2000000 then cond (dG x0.f0)
   (cond (iJ x0.f1)
    (cond (decide (x0.f2 < (0 : Int)))
     (some (false))
     (cond (decide (x0.f2 > x0.f3))
      (some (false))
      (cond (decide (x0.f3 > (68374079 : Int)))
       (some (false))
       (cond (aH (x0.f5.length : Int) (1 : Int) (4 : Int))
        (if x0.f5.length ≤ 9223372036854775807 then (iK x0.f0 x0.f1 x0.f2 x0.f3 x0.f5 x0.f5 0 x0.f4).bind fun y => match y with
         | .ret w0_2 => (some (w0_2))
         | .x0 => (if an.sm x0 then if b8 x0.f5 then some (((bK x0).length : Int) == (x0.f5.length : Int)) else none else none) else none)
        (some (false))))))
    (some (false)))
   (some (false)) else none
theorem GJ {q0 : Kd} (x0 : GDag) : Ans (qa x0) (fun r => Does E 28 [.agg (GDag.t .far q0 x0)] [(false, [tB r])]) := by
 unfold qa
 refine KQ (fun h0 => ?_)
 refine KO (fun h1 => ?_) (fun h1 => ?_)
 ·refine KO (fun h2 => ?_) (fun h2 => ?_)
  ·refine KO (fun h3 => ?_) (fun h3 => ?_)
   ·exact KL (KK (fn := Tryz.f28) [rT, rT, .b true] _ rfl (fun _ => rfl) (fun k => by kernel_rfl) (AD (KT (cT x0.f0 h0) h1) <| AD (KT (iH x0.f1) h2) <| AC h3 <| AN))
   ·refine KO (fun h4 => ?_) (fun h4 => ?_)
    ·exact KL (KK (fn := Tryz.f28) [rT, rT, .b false, .b true] _ rfl (fun _ => rfl) (fun k => by kernel_rfl) (AD (KT (cT x0.f0 h0) h1) <| AD (KT (iH x0.f1) h2) <| AC h3 <| AC h4 <| AN))
    ·refine KO (fun h5 => ?_) (fun h5 => ?_)
     ·exact KL (KK (fn := Tryz.f28) [rT, rT, .b false, .b false, .b true] _ rfl (fun _ => rfl) (fun k => by kernel_rfl) (AD (KT (cT x0.f0 h0) h1) <| AD (KT (iH x0.f1) h2) <| AC h3 <| AC h4 <| AC h5 <| AN))
     ·refine KO (fun h6 => ?_) (fun h6 => ?_)
      ·refine KQ (fun hl7 => ?_)
       refine KP (fun y hy => ?_)
       replace hy := Fn (q0 := q0) x0.f0 x0.f1 x0.f2 x0.f3 x0.f5 x0.f5 x0.f5 0 x0.f4 rfl hl7 y hy
       cases y with
       | ret w0_2 =>
        have h7 := hy
        exact KL (KK (fn := Tryz.f28) [rT, rT, .b false, .b false, .b false, .val (.int .i64 (x0.f5.length : Int)), rT, .val (.int .i64 (x0.f5.length : Int)), .lp .ret (i8 q0 w0_2)] _ rfl (fun _ => rfl) (fun k => by kernel_rfl) (AD (KT (cT x0.f0 h0) h1) <| AD (KT (iH x0.f1) h2) <| AC h3 <| AC h4 <| AC h5 <| ALn x0.f5 (GTask.t q0) <| AD (KT (cL (x0.f5.length : Int) (1 : Int) (4 : Int)) h6) <| ALn x0.f5 (GTask.t q0) <| AL h7 <| AN))
       | x0 =>
        have h7 := hy
        refine KQ (fun h8 => ?_)
        refine KQ (fun h9 => ?_)
        exact KL (KK (fn := Tryz.f28) [rT, rT, .b false, .b false, .b false, .val (.int .i64 (x0.f5.length : Int)), rT, .val (.int .i64 (x0.f5.length : Int)), .lp (.exit 0) (pp q0 x0.f0 x0.f1 x0.f2 x0.f3 x0.f4 x0.f5), .ret [(false, [.s .own () 1 ((bK x0).map etI)])], .val (.int .i64 ((bK x0).length : Int)), .val (.int .i64 (x0.f5.length : Int))] _ rfl (fun _ => rfl) (fun k => by kernel_rfl) (AD (KT (cT x0.f0 h0) h1) <| AD (KT (iH x0.f1) h2) <| AC h3 <| AC h4 <| AC h5 <| ALn x0.f5 (GTask.t q0) <| AD (KT (cL (x0.f5.length : Int) (1 : Int) (4 : Int)) h6) <| ALn x0.f5 (GTask.t q0) <| AL h7 <| AV (ψ := fun k => E.C k 29 [.agg (GDag.t .far q0 x0)] = some [(false, [.s .own () 1 ((bK x0).map etI)])]) (nu x0 h8 h9) <| ALn (bK x0) etI <| ALn x0.f5 (GTask.t q0) <| AN))
      ·exact KL (KK (fn := Tryz.f28) [rT, rT, .b false, .b false, .b false, .val (.int .i64 (x0.f5.length : Int)), rF] _ rfl (fun _ => rfl) (fun k => by kernel_rfl) (AD (KT (cT x0.f0 h0) h1) <| AD (KT (iH x0.f1) h2) <| AC h3 <| AC h4 <| AC h5 <| ALn x0.f5 (GTask.t q0) <| AD (KT (cL (x0.f5.length : Int) (1 : Int) (4 : Int)) h6) <| AN))
  ·exact KL (KK (fn := Tryz.f28) [rT, rF] _ rfl (fun _ => rfl) (fun k => by kernel_rfl) (AD (KT (cT x0.f0 h0) h1) <| AD (KT (iH x0.f1) h2) <| AN))
 ·exact KL (KK (fn := Tryz.f28) [rF] _ rfl (fun _ => rfl) (fun k => by kernel_rfl) (AD (KT (cT x0.f0 h0) h1) <| AN))
noncomputable def dw (ts : List GTask) : List GTask → Nat → Bool
 | [], _ => true
 | t :: r, i => gZ ts (i : Int) t && dw ts r (i + 1)
noncomputable def bE (d : GDag) : Bool :=
 dG d.f0 && (iJ d.f1 && (aH d.f3 0 68374079 && (aH d.f2 0 d.f3 && (aH (d.f5.length : Int) 1 4 && (dw d.f5 d.f5 0 && ((cl d.f5).length : Int) == (d.f5.length : Int))))))
theorem se (ts : List GTask) : ∀ (rest : List GTask) (i : Nat), ts.drop i = rest → dw ts rest i = true → ∀ (k : Nat) (t : GTask), i ≤ k → ts[k]? = some t → gZ ts (k : Int) t = true
 | [], i, h, _, k, t, hk, hg => by
  have : ts.length ≤ i := List.drop_eq_nil_iff.1 h
  rw [List.getElem?_eq_none (by omega)] at hg; cases hg
 | x :: rest, i, h, hr, k, t, hk, hg => by
  unfold dw at hr
  rw [Bool.and_eq_true] at hr
  by_cases e : k = i
  ·subst e
   have : ts[k]? = some x := by rw [← List.head?_drop, h]; rfl
   rw [this] at hg
   cases hg
   exact hr.1
  ·exact se ts rest (i + 1) (aF h) hr.2 k t (by omega) hg
theorem rS {ts : List GTask} (h4 : ts.length ≤ 4) (h : dw ts ts 0 = true) : b8 ts := by
 refine ⟨h4, fun i t hg => ?_⟩
 have := se ts ts 0 rfl h i t (Nat.zero_le _) hg
 unfold gZ at this
 simp only [Bool.and_eq_true, beq_iff_eq] at this
 exact this.2.1
theorem Gj (ts : List GTask) (hs : an.sm ts) : ∀ (rest : List GTask) (i : Nat) (z : Bool), ts.drop i = rest → iT ts rest i z = some (cond (dw ts rest i) .x0 (.ret false))
 | [], i, z, _ => rfl
 | x :: rest, i, z, h => by
  have hi := nQ h
  have hg := aS h
  have e : lY ts (i : Int) = gZ ts (i : Int) x := by unfold lY; rw [hg]
  unfold iT dw
  rw [Gj ts hs rest (i + 1) z (aF h), if_pos hs, if_pos (by omega), e]
  cases gZ ts (i : Int) x <;> rfl
theorem JM (d : GDag) (h : an.sm d) : qk d = some (bE d) := by
 have hs : an.sm d.f5 := h.2.2
 have hn : d.f0.size ≤ 2000000 := by have : d.f0.size ≤ 1050000 := h.1; omega
 unfold qk bE iJ
 simp only [hn, Cd, if_true]
 cases (au d.f1).2 with
 | false => cases dG d.f0 <;> rfl
 | true =>
  rw [cond_true]
  cases dG d.f0 with
  | false => rfl
  | true =>
   rw [cond_true, Bool.true_and, Bool.true_and]
   cases (be (au d.f1).1).1.toList == d.f1.toList with
   | false => rfl
   | true =>
    rw [Bool.not_true, cond_false, Bool.true_and]
    cases aH d.f3 0 68374079 with
    | false => rfl
    | true =>
     rw [cond_true, Bool.true_and]
     cases aH d.f2 0 d.f3 with
     | false => rfl
     | true =>
      rw [cond_true, Bool.true_and]
      cases q : aH (d.f5.length : Int) 1 4 with
      | false => rfl
      | true =>
       have h4 : d.f5.length ≤ 4 := by unfold aH at q; simp at q; omega
       rw [cond_true, Bool.true_and, if_pos (by omega), Gj d.f5 hs d.f5 0 d.f4 rfl]
       cases w : dw d.f5 d.f5 0 with
       | false => rfl
       | true =>
        rw [cond_true, Option.bind_some, Bool.true_and]
        simp only
        rw [if_pos hs, if_pos (rS h4 w)]
theorem Gi (a b : ByteArray) (c e : Int) (ts : List GTask) (ht : ts.length ≤ 1050000) : ∀ (l : List ByteArray) (i : Nat) (z : Bool), iL a b c e ts l i z = some (cond (l.all fun n => decide (0 ≤ ar ts n)) .x2 (.ret false))
 | [], i, z => rfl
 | n :: l, i, z => by
  unfold iL
  rw [if_pos (show (GDag.mk a b c e z ts).f5.length ≤ 1050000 from ht), Gi a b c e ts ht l (i + 1) z, List.all_cons]
  show cond (decide (ar ts n < 0)) _ _ = _
  by_cases w : ar ts n < 0
  ·rw [decide_eq_true w, decide_eq_false (by omega : ¬ 0 ≤ ar ts n)]; rfl
  ·rw [decide_eq_false w, decide_eq_true (by omega : 0 ≤ ar ts n)]; rfl
theorem Gh (a b : ByteArray) (c e : Int) (ts : List GTask) (hs : an.sm ts) (h4 : ts.length ≤ 4) : ∀ (l : List GTask) (i : Nat) (z : Bool), (∀ y ∈ l, an.sm y) → iK a b c e ts l i z = some (cond (dw ts l i) .x0 (.ret false))
 | [], i, z, _ => rfl
 | t :: l, i, z, hl => by
  have ht := hl t (by simp)
  have hf : t.f4.length ≤ 1050000 := ht.2.2.1
  unfold iK dw
  rw [if_pos ht, if_pos (show (GDag.mk a b c e z ts).f5.length ≤ 1050000 from hs.1), if_pos (by omega), Gi a b c e ts hs.1, Gh a b c e ts hs h4 l (i + 1) z (fun y hy => hl y (by simp [hy])), F4 ts h4]
  have e1 : (bC (GDag.mk a b c e z ts) t.f0 != (i : Int)) = !(ar ts t.f0 == (i : Int)) := rfl
  rw [e1]
  cases pP t <;> cases ar ts t.f0 == (i : Int) <;> cases (t.f4.all fun n => decide (0 ≤ ar ts n)) <;> cases dw ts l (i + 1) <;> rfl
theorem JL (d : GDag) (h : an.sm d) : qa d = some (bE d) := by
 have hs : an.sm d.f5 := h.2.2
 have hn : d.f0.size ≤ 2000000 := by have : d.f0.size ≤ 1050000 := h.1; omega
 unfold qa bE
 rw [if_pos hn]
 cases dG d.f0 with
 | false => rfl
 | true =>
  rw [cond_true, Bool.true_and]
  cases iJ d.f1 with
  | false => rfl
  | true =>
   rw [cond_true, Bool.true_and]
   by_cases w0 : d.f2 < 0
   ·have : aH d.f2 0 d.f3 = false := by unfold aH; rw [decide_eq_false (by omega)]; rfl
    rw [decide_eq_true w0, this, Bool.false_and, Bool.and_false]; rfl
   ·rw [decide_eq_false w0, cond_false]
    by_cases w1 : d.f2 > d.f3
    ·have : aH d.f2 0 d.f3 = false := by unfold aH; rw [decide_eq_false (by omega : ¬ d.f2 ≤ d.f3), Bool.and_false]
     rw [decide_eq_true w1, this, Bool.false_and, Bool.and_false]; rfl
    ·rw [decide_eq_false w1, cond_false]
     have e1 : aH d.f2 0 d.f3 = true := by unfold aH; rw [decide_eq_true (by omega), decide_eq_true (by omega)]; rfl
     by_cases w2 : d.f3 > 68374079
     ·have : aH d.f3 0 68374079 = false := by unfold aH; rw [decide_eq_false (by omega : ¬ d.f3 ≤ 68374079), Bool.and_false]
      rw [decide_eq_true w2, this, Bool.false_and]; rfl
     ·have e2 : aH d.f3 0 68374079 = true := by unfold aH; rw [decide_eq_true (by omega), decide_eq_true (by omega)]; rfl
      rw [decide_eq_false w2, cond_false, e1, e2, Bool.true_and, Bool.true_and]
      cases q : aH (d.f5.length : Int) 1 4 with
      | false => rfl
      | true =>
       have h4 : d.f5.length ≤ 4 := by unfold aH at q; simp at q; omega
       rw [cond_true, Bool.true_and, if_pos (by omega), Gh d.f0 d.f1 d.f2 d.f3 d.f5 hs h4 d.f5 0 d.f4 hs.2]
       cases w : dw d.f5 d.f5 0 with
       | false => rfl
       | true =>
        rw [cond_true, Option.bind_some, Bool.true_and]
        simp only
        rw [if_pos h, if_pos (rS h4 w)]
        rfl
theorem iA {q0 : Kd} (x0 : GDag) (h : an.sm x0) : Does E 32 [.agg (GDag.t .far q0 x0)] [(false, [tB (bE x0)])] := by
 exact Hi x0 _ (JM x0 h)
theorem iz {q0 : Kd} (x0 : GDag) (h : an.sm x0) : Does E 28 [.agg (GDag.t .far q0 x0)] [(false, [tB (bE x0)])] := by
 exact GJ x0 _ (JL x0 h)
end Go.Proofs.YtjfbofdmjihglaaGreatDoor.Am
