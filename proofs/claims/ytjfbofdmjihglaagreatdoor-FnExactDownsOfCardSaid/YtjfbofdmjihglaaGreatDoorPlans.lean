/- Plans. -/
import Derived.Test.YtjfbofdmjihglaaGreatDoorRules
namespace Go.Proofs.YtjfbofdmjihglaaGreatDoor.Am
open Go Go.Proofs Classical
set_option maxRecDepth 100000
set_option linter.unusedVariables false
set_option linter.unusedSimpArgs false
inductive vS where
 | ret (v2 : Bool)
 | x0 
def cO (v0 : ByteArray) (v3 : Int) : US := stL 46 [(0, .one (tS v0)), (3, .one (tI v3))]
def fX (zv2 : Bool) : US := stL 46 [(2, .one (tB zv2))]
def oG  : US := stL 46 []
abbrev fR : US → Exit → US → Prop := Round E 57 (ax Tryz.f57 0)
def Ef (v0 : ByteArray) (v3 : Int) : vS → Prop
 | .ret zv2 => Loops E 57 (ax Tryz.f57 0) (cO v0 v3) .ret (fX zv2)
 | .x0 => Loops E 57 (ax Tryz.f57 0) (cO v0 v3) (.exit 0) (oG)
noncomputable def eY  : List Int → Nat → Option vS
 | [], i => some (.x0)
 | hd :: rest, i => cond (decide (hd < (97 : Int)))
  (cond (decide (hd < (48 : Int)))
   (some (.ret false))
   (cond (decide (hd > (57 : Int)))
    (some (.ret false))
    (eY rest (i + 1))))
  (cond (decide (hd > (122 : Int)))
   (cond (decide (hd < (48 : Int)))
    (some (.ret false))
    (cond (decide (hd > (57 : Int)))
     (some (.ret false))
     (eY rest (i + 1))))
   (eY rest (i + 1)))
theorem Ee (v0 : ByteArray) (rest : List Int) : ∀ (i : Nat) , (bN v0).drop i = rest → v0.size ≤ 9223372036854775807 → Ans (eY rest i) (Ef v0 (i : Int)) := by
 induction rest with
 | nil =>
  intro i hE hl
  have hb := pB hE
  unfold eY
  exact K5 (K7 (show fR (cO v0 (i : Int)) (.exit 0) (oG) from K3 [.b false] _ (fun k => by kernel_rfl) (AC hb <| AN)) (by intro h; cases h))
 | cons hd rest ih =>
  intro i hE hl
  have hb := oe hE
  have hw := of hE hl
  have hE2 := aG hE
  have hp := rl hE
  obtain rfl := rk hE
  unfold eY
  refine K8 (fun h2 => ?_) (fun h2 => ?_)
  ·refine K8 (fun h3 => ?_) (fun h3 => ?_)
   ·exact K5 (K7 (show fR (cO v0 (i : Int)) .ret (fX false) from K3 [.b true, .b true, .b true] _ (fun k => by kernel_rfl) (AC hb <| AC hp <| AC h2 <| AC hp <| AC h3 <| AN)) (by intro h; cases h))
   ·refine K8 (fun h4 => ?_) (fun h4 => ?_)
    ·exact K5 (K7 (show fR (cO v0 (i : Int)) .ret (fX false) from K3 [.b true, .b true, .b false, .b true] _ (fun k => by kernel_rfl) (AC hb <| AC hp <| AC h2 <| AC hp <| AC h3 <| AC hp <| AC h4 <| AN)) (by intro h; cases h))
    ·exact (ih (i + 1) hE2 hl).mono fun y hy => by have r : fR (cO v0 (i : Int)) .normal (cO v0 (inc (i : Int))) := K3 [.b true, .b true, .b false, .b false] _ (fun k => by kernel_rfl) (AC hb <| AC hp <| AC h2 <| AC hp <| AC h3 <| AC hp <| AC h4 <| AN); rw [hw] at r; cases y <;> exact K6 r hy
  ·refine K8 (fun h3 => ?_) (fun h3 => ?_)
   ·refine K8 (fun h4 => ?_) (fun h4 => ?_)
    ·exact K5 (K7 (show fR (cO v0 (i : Int)) .ret (fX false) from K3 [.b true, .b false, .b true, .b true] _ (fun k => by kernel_rfl) (AC hb <| AC hp <| AC h2 <| AC hp <| AC h3 <| AC hp <| AC h4 <| AN)) (by intro h; cases h))
    ·refine K8 (fun h5 => ?_) (fun h5 => ?_)
     ·exact K5 (K7 (show fR (cO v0 (i : Int)) .ret (fX false) from K3 [.b true, .b false, .b true, .b false, .b true] _ (fun k => by kernel_rfl) (AC hb <| AC hp <| AC h2 <| AC hp <| AC h3 <| AC hp <| AC h4 <| AC hp <| AC h5 <| AN)) (by intro h; cases h))
     ·exact (ih (i + 1) hE2 hl).mono fun y hy => by have r : fR (cO v0 (i : Int)) .normal (cO v0 (inc (i : Int))) := K3 [.b true, .b false, .b true, .b false, .b false] _ (fun k => by kernel_rfl) (AC hb <| AC hp <| AC h2 <| AC hp <| AC h3 <| AC hp <| AC h4 <| AC hp <| AC h5 <| AN); rw [hw] at r; cases y <;> exact K6 r hy
   ·exact (ih (i + 1) hE2 hl).mono fun y hy => by have r : fR (cO v0 (i : Int)) .normal (cO v0 (inc (i : Int))) := K3 [.b true, .b false, .b false] _ (fun k => by kernel_rfl) (AC hb <| AC hp <| AC h2 <| AC hp <| AC h3 <| AN); rw [hw] at r; cases y <;> exact K6 r hy
noncomputable def pa (x0 : ByteArray) : Option (Bool) :=
  cond (aH (x0.size : Int) (1 : Int) (8 : Int))
   (if 0 ≤ (0 : Int) ∧ (0 : Int) < (x0.size : Int) then cond (decide ((fI x0 (0 : Int)) < (97 : Int)))
    (some (false))
    (cond (decide ((fI x0 (0 : Int)) > (122 : Int)))
     (some (false))
     (if x0.size ≤ 9223372036854775807 then (eY (bN x0) 0).bind fun y => match y with
      | .ret w0_2 => (some (w0_2))
      | .x0 => (some (true)) else none)) else none)
   (some (false))
theorem Ga (x0 : ByteArray) : Ans (pa x0) (fun r => Does E 57 [.one (tS x0)] [(false, [tB r])]) := by
 unfold pa
 refine K8 (fun h0 => ?_) (fun h0 => ?_)
 ·refine La (fun h1 => ?_)
  refine K8 (fun h2 => ?_) (fun h2 => ?_)
  ·exact K5 (K4 (fn := Tryz.f57) [rT, .b true] _ rfl (fun _ => rfl) (fun k => by kernel_rfl) (AD (Ld (bq (x0.size : Int) (1 : Int) (8 : Int)) h0) <| AC h1 <| AC h2 <| AN))
  ·refine K8 (fun h3 => ?_) (fun h3 => ?_)
   ·exact K5 (K4 (fn := Tryz.f57) [rT, .b false, .b true] _ rfl (fun _ => rfl) (fun k => by kernel_rfl) (AD (Ld (bq (x0.size : Int) (1 : Int) (8 : Int)) h0) <| AC h1 <| AC h2 <| AC h1 <| AC h3 <| AN))
   ·refine La (fun hl4 => ?_)
    refine K9 (fun y hy => ?_)
    replace hy := Ee x0 (bN x0) 0 rfl hl4 y hy
    cases y with
    | ret w0_2 =>
     have h4 := hy
     exact K5 (K4 (fn := Tryz.f57) [rT, .b false, .b false, .lp .ret (fX w0_2)] _ rfl (fun _ => rfl) (fun k => by kernel_rfl) (AD (Ld (bq (x0.size : Int) (1 : Int) (8 : Int)) h0) <| AC h1 <| AC h2 <| AC h1 <| AC h3 <| AL h4 <| AN))
    | x0 =>
     have h4 := hy
     exact K5 (K4 (fn := Tryz.f57) [rT, .b false, .b false, .lp (.exit 0) (oG)] _ rfl (fun _ => rfl) (fun k => by kernel_rfl) (AD (Ld (bq (x0.size : Int) (1 : Int) (8 : Int)) h0) <| AC h1 <| AC h2 <| AC h1 <| AC h3 <| AL h4 <| AN))
 ·exact K5 (K4 (fn := Tryz.f57) [rF] _ rfl (fun _ => rfl) (fun k => by kernel_rfl) (AD (Ld (bq (x0.size : Int) (1 : Int) (8 : Int)) h0) <| AN))
inductive vC where
 | ret (v2 : Bool)
 | x0 
def ce (v0 : ByteArray) (v3 : Int) : US := stL 42 [(0, .one (tS v0)), (3, .one (tI v3))]
def d7 (zv2 : Bool) : US := stL 42 [(2, .one (tB zv2))]
def ot (v0 : ByteArray) : US := stL 42 [(0, .one (tS v0))]
abbrev eg : US → Exit → US → Prop := Round E 44 (ax Tryz.f44 0)
def DK (v0 : ByteArray) (v3 : Int) : vC → Prop
 | .ret zv2 => Loops E 44 (ax Tryz.f44 0) (ce v0 v3) .ret (d7 zv2)
 | .x0 => Loops E 44 (ax Tryz.f44 0) (ce v0 v3) (.exit 0) (ot v0)
noncomputable def eh  : List Int → Nat → Option vC
 | [], i => some (.x0)
 | hd :: rest, i => cond (decide (hd ≥ (97 : Int)))
  (cond (decide (hd ≤ (122 : Int)))
   (eh rest (i + 1))
   (cond ((i : Int) == (0 : Int))
    (some (.ret false))
    (cond (decide (hd < (48 : Int)))
     (some (.ret false))
     (cond (decide (hd > (57 : Int)))
      (some (.ret false))
      (eh rest (i + 1))))))
  (cond ((i : Int) == (0 : Int))
   (some (.ret false))
   (cond (decide (hd < (48 : Int)))
    (some (.ret false))
    (cond (decide (hd > (57 : Int)))
     (some (.ret false))
     (eh rest (i + 1)))))
theorem DJ (v0 : ByteArray) (rest : List Int) : ∀ (i : Nat) , (bN v0).drop i = rest → v0.size ≤ 9223372036854775807 → Ans (eh rest i) (DK v0 (i : Int)) := by
 induction rest with
 | nil =>
  intro i hE hl
  have hb := pB hE
  unfold eh
  exact K5 (K7 (show eg (ce v0 (i : Int)) (.exit 0) (ot v0) from K3 [.b false] _ (fun k => by kernel_rfl) (AC hb <| AN)) (by intro h; cases h))
 | cons hd rest ih =>
  intro i hE hl
  have hb := oe hE
  have hw := of hE hl
  have hE2 := aG hE
  have hp := rl hE
  obtain rfl := rk hE
  unfold eh
  refine K8 (fun h2 => ?_) (fun h2 => ?_)
  ·refine K8 (fun h3 => ?_) (fun h3 => ?_)
   ·exact (ih (i + 1) hE2 hl).mono fun y hy => by have r : eg (ce v0 (i : Int)) .normal (ce v0 (inc (i : Int))) := K3 [.b true, .b true, .b true] _ (fun k => by kernel_rfl) (AC hb <| AC hp <| AC h2 <| AC hp <| AC h3 <| AN); rw [hw] at r; cases y <;> exact K6 r hy
   ·refine K8 (fun h4 => ?_) (fun h4 => ?_)
    ·exact K5 (K7 (show eg (ce v0 (i : Int)) .ret (d7 false) from K3 [.b true, .b true, .b false, .b true] _ (fun k => by kernel_rfl) (AC hb <| AC hp <| AC h2 <| AC hp <| AC h3 <| AC h4 <| AN)) (by intro h; cases h))
    ·refine K8 (fun h5 => ?_) (fun h5 => ?_)
     ·exact K5 (K7 (show eg (ce v0 (i : Int)) .ret (d7 false) from K3 [.b true, .b true, .b false, .b false, .b true] _ (fun k => by kernel_rfl) (AC hb <| AC hp <| AC h2 <| AC hp <| AC h3 <| AC h4 <| AC hp <| AC h5 <| AN)) (by intro h; cases h))
     ·refine K8 (fun h6 => ?_) (fun h6 => ?_)
      ·exact K5 (K7 (show eg (ce v0 (i : Int)) .ret (d7 false) from K3 [.b true, .b true, .b false, .b false, .b false, .b true] _ (fun k => by kernel_rfl) (AC hb <| AC hp <| AC h2 <| AC hp <| AC h3 <| AC h4 <| AC hp <| AC h5 <| AC hp <| AC h6 <| AN)) (by intro h; cases h))
      ·exact (ih (i + 1) hE2 hl).mono fun y hy => by have r : eg (ce v0 (i : Int)) .normal (ce v0 (inc (i : Int))) := K3 [.b true, .b true, .b false, .b false, .b false, .b false] _ (fun k => by kernel_rfl) (AC hb <| AC hp <| AC h2 <| AC hp <| AC h3 <| AC h4 <| AC hp <| AC h5 <| AC hp <| AC h6 <| AN); rw [hw] at r; cases y <;> exact K6 r hy
  ·refine K8 (fun h3 => ?_) (fun h3 => ?_)
   ·exact K5 (K7 (show eg (ce v0 (i : Int)) .ret (d7 false) from K3 [.b true, .b false, .b true] _ (fun k => by kernel_rfl) (AC hb <| AC hp <| AC h2 <| AC h3 <| AN)) (by intro h; cases h))
   ·refine K8 (fun h4 => ?_) (fun h4 => ?_)
    ·exact K5 (K7 (show eg (ce v0 (i : Int)) .ret (d7 false) from K3 [.b true, .b false, .b false, .b true] _ (fun k => by kernel_rfl) (AC hb <| AC hp <| AC h2 <| AC h3 <| AC hp <| AC h4 <| AN)) (by intro h; cases h))
    ·refine K8 (fun h5 => ?_) (fun h5 => ?_)
     ·exact K5 (K7 (show eg (ce v0 (i : Int)) .ret (d7 false) from K3 [.b true, .b false, .b false, .b false, .b true] _ (fun k => by kernel_rfl) (AC hb <| AC hp <| AC h2 <| AC h3 <| AC hp <| AC h4 <| AC hp <| AC h5 <| AN)) (by intro h; cases h))
     ·exact (ih (i + 1) hE2 hl).mono fun y hy => by have r : eg (ce v0 (i : Int)) .normal (ce v0 (inc (i : Int))) := K3 [.b true, .b false, .b false, .b false, .b false] _ (fun k => by kernel_rfl) (AC hb <| AC hp <| AC h2 <| AC h3 <| AC hp <| AC h4 <| AC hp <| AC h5 <| AN); rw [hw] at r; cases y <;> exact K6 r hy
noncomputable def oU (x0 : ByteArray) : Option (Bool) :=
  if x0.size ≤ 9223372036854775807 then (eh (bN x0) 0).bind fun y => match y with
   | .ret w0_2 => (some (w0_2))
   | .x0 => (some (aH (x0.size : Int) (1 : Int) (8 : Int))) else none
theorem FI (x0 : ByteArray) : Ans (oU x0) (fun r => Does E 44 [.one (tS x0)] [(false, [tB r])]) := by
 unfold oU
 refine La (fun hl1 => ?_)
 refine K9 (fun y hy => ?_)
 replace hy := DJ x0 (bN x0) 0 rfl hl1 y hy
 cases y with
 | ret w0_2 =>
  have h0 := hy
  exact K5 (K4 (fn := Tryz.f44) [.lp .ret (d7 w0_2)] _ rfl (fun _ => rfl) (fun k => by kernel_rfl) (AL h0 <| AN))
 | x0 =>
  have h0 := hy
  exact K5 (K4 (fn := Tryz.f44) [.lp (.exit 0) (ot x0), .ret [(false, [tB (aH (x0.size : Int) (1 : Int) (8 : Int))])]] _ rfl (fun _ => rfl) (fun k => by kernel_rfl) (AL h0 <| AD (cM (x0.size : Int) (1 : Int) (8 : Int)) <| AN))
def qQ (h : Int) : Bool := decide (97 ≤ h ∧ h ≤ 122)
def lfI (h : Int) : Bool := decide (97 ≤ h ∧ h ≤ 122 ∨ 48 ≤ h ∧ h ≤ 57)
def IS : List Int → Bool
 | [] => true
 | h :: l => qQ h && l.all lfI
def dK (s : ByteArray) : Bool := aH (s.size : Int) 1 8 && IS (bN s)
theorem JN {α : Type} (h : Int) (A B : α) : cond (decide (h < 97)) (cond (decide (h < 48)) A (cond (decide (h > 57)) A B)) (cond (decide (h > 122)) (cond (decide (h < 48)) A (cond (decide (h > 57)) A B)) B) = cond (lfI h) B A := by
 unfold lfI
 simp only [Bool.cond_decide]
 repeat' split
 all_goals first | rfl | (exfalso; omega)
theorem Jk {α : Type} (h : Int) (A B : α) : cond (decide (h ≥ 97)) (cond (decide (h ≤ 122)) B (cond (decide (h < 48)) A (cond (decide (h > 57)) A B))) (cond (decide (h < 48)) A (cond (decide (h > 57)) A B)) = cond (lfI h) B A := by
 unfold lfI
 simp only [Bool.cond_decide]
 repeat' split
 all_goals first | rfl | (exfalso; omega)
theorem Jj {α : Type} (h : Int) (A B : α) : cond (decide (h ≥ 97)) (cond (decide (h ≤ 122)) B A) A = cond (qQ h) B A := by
 unfold qQ
 simp only [Bool.cond_decide]
 repeat' split
 all_goals first | rfl | (exfalso; omega)
theorem JM {h : Int} (q : qQ h = true) : lfI h = true := by
 unfold qQ at q
 unfold lfI
 simp only [decide_eq_true_eq] at q ⊢
 exact .inl q
theorem ER : ∀ (l : List Int) (i : Nat), eY l i = some (cond (l.all lfI) .x0 (.ret false))
 | [], i => rfl
 | h :: l, i => by
  unfold eY
  rw [ER l (i + 1), List.all_cons, JN]
  cases lfI h <;> rfl
theorem EQ : ∀ (l : List Int) (i : Nat), eh l (i + 1) = some (cond (l.all lfI) .x0 (.ret false))
 | [], i => rfl
 | h :: l, i => by
  unfold eh
  have e : (((i + 1 : Nat) : Int) == 0) = false := by rw [beq_eq_false_iff_ne]; omega
  rw [EQ l (i + 1), List.all_cons, e]
  simp only [cond_false]
  rw [Jk]
  cases lfI h <;> rfl
theorem JR (s : ByteArray) (hs : s.size ≤ 2000000) : pa s = some (dK s) := by
 unfold pa dK
 cases q : aH (s.size : Int) 1 8 with
 | false => rfl
 | true =>
  have hr : 1 ≤ (s.size : Int) ∧ (s.size : Int) ≤ 8 := by unfold aH at q; simpa using q
  rw [cond_true, if_pos (by omega), if_pos (by omega), Bool.true_and, ER]
  have h0 := qY s 0 (by omega)
  cases e : bN s with
  | nil => rw [e] at h0; cases h0
  | cons h l =>
   rw [e] at h0
   have hb : h = fI s (0 : Int) := Option.some.inj h0
   rw [← hb]
   show _ = some (qQ h && l.all lfI)
   rw [List.all_cons]
   have k : ∀ (X : Option Bool), cond (decide (h < 97)) (some false) (cond (decide (h > 122)) (some false) X) = cond (qQ h) X (some false) := fun X => by
    unfold qQ
    simp only [Bool.cond_decide]
    repeat' split
    all_goals first | rfl | (exfalso; omega)
   rw [k]
   cases q2 : qQ h with
   | false => rfl
   | true =>
    rw [JM q2]
    cases l.all lfI <;> rfl
theorem JQ (s : ByteArray) (hs : s.size ≤ 2000000) : oU s = some (dK s) := by
 unfold oU dK
 rw [if_pos (by omega)]
 cases e : bN s with
 | nil =>
  show some (aH (s.size : Int) 1 8) = some (aH (s.size : Int) 1 8 && true)
  rw [Bool.and_true]
 | cons h l =>
  unfold eh IS
  have e0 : (((0 : Nat) : Int) == 0) = true := rfl
  rw [EQ l 0, e0]
  simp only [cond_true]
  rw [Jj]
  cases qQ h with
  | false => rw [Bool.false_and, Bool.and_false]; rfl
  | true =>
   rw [cond_true, Bool.true_and, Option.bind_some]
   cases l.all lfI with
   | false => rw [Bool.and_false]; rfl
   | true => rw [Bool.and_true]; rfl
theorem cz (x0 : ByteArray) (h : x0.size ≤ 2000000) : Does E 57 [.one (tS x0)] [(false, [tB (dK x0)])] := by
 exact Ga x0 _ (JR x0 h)
theorem cT (x0 : ByteArray) (h : x0.size ≤ 2000000) : Does E 44 [.one (tS x0)] [(false, [tB (dK x0)])] := by
 exact FI x0 _ (JQ x0 h)
noncomputable def ke (x0 : ByteArray) : Option (Int) :=
  cond (x0.toList == (⟨#[111, 110, 101]⟩ : ByteArray).toList)
   (some ((1 : Int)))
   (cond (x0.toList == (⟨#[116, 119, 111]⟩ : ByteArray).toList)
    (some ((2 : Int)))
    (cond (x0.toList == (⟨#[119, 105, 100, 101]⟩ : ByteArray).toList)
     (some ((4 : Int)))
     (some ((0 : Int)))))
theorem CJ (x0 : ByteArray) : Ans (ke x0) (fun r => Does E 80 [.one (tS x0)] [(false, [tI r])]) := by
 unfold ke
 refine K8 (fun h0 => ?_) (fun h0 => ?_)
 ·exact K5 (K4 (fn := Tryz.f80) [.b true] _ rfl (fun _ => rfl) (fun k => by kernel_rfl) (AC h0 <| AN))
 ·refine K8 (fun h1 => ?_) (fun h1 => ?_)
  ·exact K5 (K4 (fn := Tryz.f80) [.b false, .b true] _ rfl (fun _ => rfl) (fun k => by kernel_rfl) (AC h0 <| AC h1 <| AN))
  ·refine K8 (fun h2 => ?_) (fun h2 => ?_)
   ·exact K5 (K4 (fn := Tryz.f80) [.b false, .b false, .b true] _ rfl (fun _ => rfl) (fun k => by kernel_rfl) (AC h0 <| AC h1 <| AC h2 <| AN))
   ·exact K5 (K4 (fn := Tryz.f80) [.b false, .b false, .b false] _ rfl (fun _ => rfl) (fun k => by kernel_rfl) (AC h0 <| AC h1 <| AC h2 <| AN))
noncomputable def uk (x0 : ByteArray) : Option (Int) :=
  cond (x0.toList == (⟨#[111, 110, 101]⟩ : ByteArray).toList)
   (some ((1 : Int)))
   (cond (x0.toList == (⟨#[116, 119, 111]⟩ : ByteArray).toList)
    (some ((2 : Int)))
    (cond (x0.toList == (⟨#[119, 105, 100, 101]⟩ : ByteArray).toList)
     (some ((4 : Int)))
     (some ((0 : Int)))))
theorem BN (x0 : ByteArray) : Ans (uk x0) (fun r => Does E 70 [.one (tS x0)] [(false, [tI r])]) := by
 unfold uk
 refine K8 (fun h0 => ?_) (fun h0 => ?_)
 ·exact K5 (K4 (fn := Tryz.f70) [.b true] _ rfl (fun _ => rfl) (fun k => by kernel_rfl) (AC h0 <| AN))
 ·refine K8 (fun h1 => ?_) (fun h1 => ?_)
  ·exact K5 (K4 (fn := Tryz.f70) [.b false, .b true] _ rfl (fun _ => rfl) (fun k => by kernel_rfl) (AC h0 <| AC h1 <| AN))
  ·refine K8 (fun h2 => ?_) (fun h2 => ?_)
   ·exact K5 (K4 (fn := Tryz.f70) [.b false, .b false, .b true] _ rfl (fun _ => rfl) (fun k => by kernel_rfl) (AC h0 <| AC h1 <| AC h2 <| AN))
   ·exact K5 (K4 (fn := Tryz.f70) [.b false, .b false, .b false] _ rfl (fun _ => rfl) (fun k => by kernel_rfl) (AC h0 <| AC h1 <| AC h2 <| AN))
noncomputable def bP (s : ByteArray) : Int := (ke s).getD 0
theorem Cq (s : ByteArray) : ke s = some (bP s) := by
 refine Tot.getD ?_ _
 unfold ke
 repeat' (first | exact Tot.some _ | apply Tot.cond)
theorem mf (x0 : ByteArray) : Does E 80 [.one (tS x0)] [(false, [tI (bP x0)])] := by
 exact CJ x0 _ (Cq x0)
theorem jJ (x0 : ByteArray) : Does E 70 [.one (tS x0)] [(false, [tI (bP x0)])] := by
 exact BN x0 _ (Cq x0)
inductive xN where
 | ret (v4 : Int)
 | x0 
def kN (q0 : Kd) (v0 : List GTask) (v1 : ByteArray) (v5 : Int) : US := stL 20 [(0, .one (.s .far () 5 (v0.map (GTask.t q0)))), (1, .one (tS v1)), (5, .one (tI v5))]
def oK (q0 : Kd) (zv4 : Int) : US := stL 20 [(4, .one (tI zv4))]
def pX (q0 : Kd)  : US := stL 20 []
abbrev sL : US → Exit → US → Prop := Round E 63 (ax Tryz.f63 0)
def Ge {q0 : Kd} (v0 : List GTask) (v1 : ByteArray) (v5 : Int) : xN → Prop
 | .ret zv4 => Loops E 63 (ax Tryz.f63 0) (kN q0 v0 v1 v5) .ret (oK q0 zv4)
 | .x0 => Loops E 63 (ax Tryz.f63 0) (kN q0 v0 v1 v5) (.exit 0) (pX q0)
noncomputable def i6 (v1 : ByteArray) : List GTask → Nat → Option xN
 | [], i => some (.x0)
 | hd :: rest, i => cond (hd.f0.toList == v1.toList)
  (some (.ret (i : Int)))
  (i6 v1 rest (i + 1))
theorem Gd {q0 : Kd} (v0 : List GTask) (v1 : ByteArray) (rest : List GTask) : ∀ (i : Nat) , (v0).drop i = rest → v0.length ≤ 9223372036854775807 → Ans (i6 v1 rest i) (Ge (q0 := q0) v0 v1 (i : Int)) := by
 induction rest with
 | nil =>
  intro i hE hl
  have hb := bh hE
  unfold i6
  exact K5 (K7 (show sL (kN q0 v0 v1 (i : Int)) (.exit 0) (pX q0) from K3 [.val (.int .i64 (v0.length : Int)), .b false] _ (fun k => by kernel_rfl) (ALn v0 (GTask.t q0) <| AC hb <| AN)) (by intro h; cases h))
 | cons hd rest ih =>
  intro i hE hl
  have hb := aS hE
  have hw := aT hE hl
  have hE2 := aG hE
  have hg := aX hE
  unfold i6
  refine K8 (fun h2 => ?_) (fun h2 => ?_)
  ·exact K5 (K7 (show sL (kN q0 v0 v1 (i : Int)) .ret (oK q0 (i : Int)) from K3 [.val (.int .i64 (v0.length : Int)), .b true, .row ((GTask.t q0) hd), .b true] _ (fun k => by kernel_rfl) (ALn v0 (GTask.t q0) <| AC hb <| AR (GTask.t q0) hg <| AC h2 <| AN)) (by intro h; cases h))
  ·exact (ih (i + 1) hE2 hl).mono fun y hy => by have r : sL (kN q0 v0 v1 (i : Int)) .normal (kN q0 v0 v1 (inc (i : Int))) := K3 [.val (.int .i64 (v0.length : Int)), .b true, .row ((GTask.t q0) hd), .b false] _ (fun k => by kernel_rfl) (ALn v0 (GTask.t q0) <| AC hb <| AR (GTask.t q0) hg <| AC h2 <| AN); rw [hw] at r; cases y <;> exact K6 r hy
noncomputable def uX (x0 : List GTask) (x1 : ByteArray) : Option (Int) :=
  if x0.length ≤ 9223372036854775807 then (i6 x1 x0 0).bind fun y => match y with
   | .ret w0_4 => (some (w0_4))
   | .x0 => (some ((-1 : Int))) else none
theorem HC {q0 : Kd} (x0 : List GTask) (x1 : ByteArray) : Ans (uX x0 x1) (fun r => Does E 63 [.one (.s .far () 5 (x0.map (GTask.t q0))), .one (tS x1)] [(false, [tI r])]) := by
 unfold uX
 refine La (fun hl1 => ?_)
 refine K9 (fun y hy => ?_)
 replace hy := Gd (q0 := q0) x0 x1 x0 0 rfl hl1 y hy
 cases y with
 | ret w0_4 =>
  have h0 := hy
  exact K5 (K4 (fn := Tryz.f63) [.lp .ret (oK q0 w0_4)] _ rfl (fun _ => rfl) (fun k => by kernel_rfl) (AL h0 <| AN))
 | x0 =>
  have h0 := hy
  exact K5 (K4 (fn := Tryz.f63) [.lp (.exit 0) (pX q0)] _ rfl (fun _ => rfl) (fun k => by kernel_rfl) (AL h0 <| AN))
noncomputable def ul (x0 : GTask) (y0 : ByteArray) : Option (Bool) :=
  some (x0.f0.toList == y0.toList)
theorem BO (x0 : GTask) (y0 : ByteArray) : Ans (ul x0 y0) (fun r => Does E 71 [.agg (GTask.t .far x0), .im .far () [tS y0] 0] [(false, [tB r])]) := by
 unfold ul
 exact K5 (K4 (fn := Tryz.f71) [] _ rfl (fun _ => rfl) (fun k => by kernel_rfl) AN)
def iD (x : GTask) (n : ByteArray) : Bool := x.f0.toList == n.toList
def mh (n : ByteArray) : List GTask → Nat → Int
 | [], _ => -1
 | t :: r, i => cond (iD t n) (i : Int) (mh n r (i + 1))
def av (ts : List GTask) (n : ByteArray) : Int := mh n ts 0
theorem mi (n : ByteArray) : ∀ (l : List GTask) (i : Nat), (mh n l i = -1 ∧ ∀ t ∈ l, iD t n = false) ∨ ∃ (k : Nat) (t : GTask), mh n l i = ((i + k : Nat) : Int) ∧ l[k]? = some t ∧ iD t n = true
 | [], i => .inl ⟨rfl, fun t ht => by cases ht⟩
 | t :: l, i => by
  unfold mh
  cases q : iD t n with
  | true => exact .inr ⟨0, t, rfl, rfl, q⟩
  | false =>
   rw [cond_false]
   rcases mi n l (i + 1) with ⟨h, h'⟩ | ⟨k, u, h1, h2, h3⟩
   ·exact .inl ⟨h, fun u hu => by rcases List.mem_cons.1 hu with rfl | hu; exact q; exact h' u hu⟩
   ·exact .inr ⟨k + 1, u, by rw [h1]; omega, h2, h3⟩
theorem Gi (ts : List GTask) (n : ByteArray) : -1 ≤ av ts n ∧ av ts n < (ts.length : Int) := by
 unfold av
 rcases mi n ts 0 with ⟨h, _⟩ | ⟨k, t, h1, h2, _⟩
 ·rw [h]; omega
 ·have : k < ts.length := by
   rcases Nat.lt_or_ge k ts.length with g | g
   ·exact g
   ·rw [List.getElem?_eq_none g] at h2; cases h2
  rw [h1]; omega
theorem Es {ts : List GTask} {n : ByteArray} (h : 0 ≤ av ts n) : ∃ t ∈ ts, tx t.f0 = tx n := by
 unfold av at h
 rcases mi n ts 0 with ⟨h', _⟩ | ⟨k, t, h1, h2, h3⟩
 ·rw [h'] at h; omega
 ·unfold iD at h3
  rw [ja, decide_eq_true_eq] at h3
  exact ⟨t, List.mem_of_getElem? h2, h3⟩
theorem JB (n : ByteArray) : ∀ (l : List GTask) (i : Nat), (i6 n l i).bind (fun y => match y with
   | .ret w0_4 => (some (w0_4))
   | .x0 => (some ((-1 : Int)))) = some (mh n l i)
 | [], i => rfl
 | t :: l, i => by
  unfold i6 mh
  have e : (t.f0.toList == n.toList) = iD t n := rfl
  rw [e]
  cases iD t n with
  | true => rfl
  | false => exact JB n l (i + 1)
theorem tG (x0 : GTask) (y0 : ByteArray) : Does E 71 [.agg (GTask.t .far x0), .im .far () [tS y0] 0] [(false, [tB (iD x0 y0)])] := by
 exact BO x0 y0 _ rfl
theorem e9 {q0 : Kd} (x0 : List GTask) (x1 : ByteArray) (h : x0.length ≤ 1050000) : Does E 63 [.one (.s .far () 5 (x0.map (GTask.t q0))), .one (tS x1)] [(false, [tI (av x0 x1)])] := by
 exact HC x0 x1 _ (by unfold uX; rw [if_pos (by omega)]; exact JB x1 x0 0)
inductive fz where
 | ret (v4 : Int)
 | x0 
def bw (q0 : Kd) (v0 : List GTask) (v1_0_0 : ByteArray) (v7 v8 : Int) : US := stL 19 [(0, .one (.s .far () 5 (v0.map (GTask.t q0)))), (1, .fni 71 [((), [tS v1_0_0])]), (7, .one (tI v7)), (8, .one (tI v8))]
def cR (q0 : Kd) (zv4 : Int) : US := stL 19 [(4, .one (tI zv4))]
def cW (q0 : Kd)  : US := stL 19 []
abbrev dn : US → Exit → US → Prop := Round E 49 (ax Tryz.f49 0)
def kQ {q0 : Kd} (v0 : List GTask) (v1_0_0 : ByteArray) (v7 v8 : Int) : fz → Prop
 | .ret zv4 => Loops E 49 (ax Tryz.f49 0) (bw q0 v0 v1_0_0 v7 v8) .ret (cR q0 zv4)
 | .x0 => Loops E 49 (ax Tryz.f49 0) (bw q0 v0 v1_0_0 v7 v8) (.exit 0) (cW q0)
noncomputable def bi (v1_0_0 : ByteArray) : List GTask → Nat → Option fz
 | [], i => some (.x0)
 | hd :: rest, i => cond (iD hd v1_0_0)
  (some (.ret (i : Int)))
  (bi v1_0_0 rest (i + 1))
theorem kP {q0 : Kd} (v0 : List GTask) (v1_0_0 : ByteArray) (rest : List GTask) : ∀ (i : Nat) , (v0).drop i = rest → v0.length ≤ 9223372036854775807 → Ans (bi v1_0_0 rest i) (kQ (q0 := q0) v0 v1_0_0 (v0.length : Int) (i : Int)) := by
 induction rest with
 | nil =>
  intro i hE hl
  have hb := bh hE
  unfold bi
  exact K5 (K7 (show dn (bw q0 v0 v1_0_0 (v0.length : Int) (i : Int)) (.exit 0) (cW q0) from K3 [.b false] _ (fun k => by kernel_rfl) (AC hb <| AN)) (by intro h; cases h))
 | cons hd rest ih =>
  intro i hE hl
  have hb := aS hE
  have hw := aT hE hl
  have hE2 := aG hE
  have hg := aX hE
  unfold bi
  refine K8 (fun h2 => ?_) (fun h2 => ?_)
  ·exact K5 (K7 (show dn (bw q0 v0 v1_0_0 (v0.length : Int) (i : Int)) .ret (cR q0 (i : Int)) from K3 [.b true, .row ((GTask.t q0) hd), rT] _ (fun k => by kernel_rfl) (AC hb <| AR (GTask.t q0) hg <| AD (Ld (tG hd v1_0_0) h2) <| AN)) (by intro h; cases h))
  ·exact (ih (i + 1) hE2 hl).mono fun y hy => by have r : dn (bw q0 v0 v1_0_0 (v0.length : Int) (i : Int)) .normal (bw q0 v0 v1_0_0 (v0.length : Int) (inc (i : Int))) := K3 [.b true, .row ((GTask.t q0) hd), rF] _ (fun k => by kernel_rfl) (AC hb <| AR (GTask.t q0) hg <| AD (Ld (tG hd v1_0_0) h2) <| AN); rw [hw] at r; cases y <;> exact K6 r hy
noncomputable def dv (x0 : List GTask) (c1_0 : ByteArray) : Option (Int) :=
  if x0.length ≤ 9223372036854775807 then (bi c1_0 x0 0).bind fun y => match y with
   | .ret w0_4 => (some (w0_4))
   | .x0 => (some ((-1 : Int))) else none
theorem k6 {q0 : Kd} (x0 : List GTask) (c1_0 : ByteArray) : Ans (dv x0 c1_0) (fun r => Does E 49 [.one (.s .far () 5 (x0.map (GTask.t q0))), .fni 71 [((), [tS c1_0])]] [(false, [tI r])]) := by
 unfold dv
 refine La (fun hl1 => ?_)
 refine K9 (fun y hy => ?_)
 replace hy := kP (q0 := q0) x0 c1_0 x0 0 rfl hl1 y hy
 cases y with
 | ret w0_4 =>
  have h0 := hy
  exact K5 (K4 (fn := Tryz.f49) [.val (.int .i64 (x0.length : Int)), .lp .ret (cR q0 w0_4)] _ rfl (fun _ => rfl) (fun k => by kernel_rfl) (ALn x0 (GTask.t q0) <| AL h0 <| AN))
 | x0 =>
  have h0 := hy
  exact K5 (K4 (fn := Tryz.f49) [.val (.int .i64 (x0.length : Int)), .lp (.exit 0) (cW q0)] _ rfl (fun _ => rfl) (fun k => by kernel_rfl) (ALn x0 (GTask.t q0) <| AL h0 <| AN))
theorem JA (n : ByteArray) : ∀ (l : List GTask) (i : Nat), (bi n l i).bind (fun y => match y with
   | .ret w0_4 => (some (w0_4))
   | .x0 => (some ((-1 : Int)))) = some (mh n l i)
 | [], i => rfl
 | t :: l, i => by
  unfold bi mh
  cases iD t n with
  | true => rfl
  | false => exact JA n l (i + 1)
theorem kS {q0 : Kd} (x0 : List GTask) (c1_0 : ByteArray) (h : x0.length ≤ 1050000) : Does E 49 [.one (.s .far () 5 (x0.map (GTask.t q0))), .fni 71 [((), [tS c1_0])]] [(false, [tI (av x0 c1_0)])] := by
 exact k6 x0 c1_0 _ (by unfold dv; rw [if_pos (by omega)]; exact JA c1_0 x0 0)
noncomputable def sb (x0 : GDag) (x1 : ByteArray) : Option (Int) :=
  if x0.f5.length ≤ 1050000 then some (av x0.f5 x1) else none
theorem FJ {q0 : Kd} (x0 : GDag) (x1 : ByteArray) : Ans (sb x0 x1) (fun r => Does E 48 [.agg (GDag.t .far q0 x0), .one (tS x1)] [(false, [tI r])]) := by
 unfold sb
 refine La (fun h0 => ?_)
 exact K5 (K4 (fn := Tryz.f48) [.ret [(false, [tI (av x0.f5 x1)])]] _ rfl (fun _ => rfl) (fun k => by kernel_rfl) (AV (ψ := fun k => E.C k 49 [.one (.s .far () 5 (x0.f5.map (GTask.t q0))), .fni 71 [((), [tS x1])]] = some [(false, [tI (av x0.f5 x1)])]) (kS x0.f5 x1 h0) <| AN))
def bF (d : GDag) (n : ByteArray) : Int := av d.f5 n
theorem eU {q0 : Kd} (x0 : GDag) (x1 : ByteArray) (h : x0.f5.length ≤ 1050000) : Does E 48 [.agg (GDag.t .far q0 x0), .one (tS x1)] [(false, [tI (bF x0 x1)])] := by
 exact FJ x0 x1 _ (by unfold sb; rw [if_pos h]; rfl)
end Go.Proofs.YtjfbofdmjihglaaGreatDoor.Am
namespace Go.Proofs.YtjfbofdmjihglaaGreatDoor.Am
open Go Go.Proofs Classical
set_option maxRecDepth 100000
set_option linter.unusedVariables false
set_option linter.unusedSimpArgs false
inductive qm where
 | ret (v6 : Bool)
 | x0 
def fw (q0 : Kd) (v0_0 v0_1 : ByteArray) (v0_2 v0_3 : Int) (v0_4 : Bool) (v0_5 : List GTask) (v2 : List Int) (v10 : List ByteArray) (v11 v12 : Int) : US := stL 25 [(0, .im .far () [tS v0_0, tS v0_1, tI v0_2, tI v0_3, tB v0_4, .s .far () 5 (v0_5.map (GTask.t q0))] 0), (2, .one (.s .far () 1 (v2.map etI))), (10, .one (.s .far () 1 (v10.map etS))), (11, .one (tI v11)), (12, .one (tI v12))]
def jS (q0 : Kd) (zv6 : Bool) : US := stL 25 [(6, .one (tB zv6))]
def kU (q0 : Kd)  : US := stL 25 []
abbrev mv : US → Exit → US → Prop := Round E 52 (ax Tryz.f52 0)
def xk {q0 : Kd} (v0_0 v0_1 : ByteArray) (v0_2 v0_3 : Int) (v0_4 : Bool) (v0_5 : List GTask) (v2 : List Int) (v10 : List ByteArray) (v11 v12 : Int) : qm → Prop
 | .ret zv6 => Loops E 52 (ax Tryz.f52 0) (fw q0 v0_0 v0_1 v0_2 v0_3 v0_4 v0_5 v2 v10 v11 v12) .ret (jS q0 zv6)
 | .x0 => Loops E 52 (ax Tryz.f52 0) (fw q0 v0_0 v0_1 v0_2 v0_3 v0_4 v0_5 v2 v10 v11 v12) (.exit 0) (kU q0)
noncomputable def ex (v0_0 v0_1 : ByteArray) (v0_2 v0_3 : Int) (v0_5 : List GTask) (v2 : List Int) : List ByteArray → Nat → Bool → Option qm
 | [], i, v0_4 => some (.x0)
 | hd :: rest, i, v0_4 => if (GDag.mk v0_0 v0_1 v0_2 v0_3 v0_4 v0_5).f5.length ≤ 1050000 then if v2.length ≤ 1050000 then cond (bQ v2 (bF (GDag.mk v0_0 v0_1 v0_2 v0_3 v0_4 v0_5) hd))
  (ex v0_0 v0_1 v0_2 v0_3 v0_5 v2 rest (i + 1) v0_4)
  (some (.ret false)) else none else none
theorem xj {q0 : Kd} (v0_0 v0_1 : ByteArray) (v0_2 v0_3 : Int) (v0_5 : List GTask) (v2 : List Int) (v10 : List ByteArray) (rest : List ByteArray) : ∀ (i : Nat) (v0_4 : Bool), (v10).drop i = rest → v10.length ≤ 9223372036854775807 → Ans (ex v0_0 v0_1 v0_2 v0_3 v0_5 v2 rest i v0_4) (xk (q0 := q0) v0_0 v0_1 v0_2 v0_3 v0_4 v0_5 v2 v10 (v10.length : Int) (i : Int)) := by
 induction rest with
 | nil =>
  intro i v0_4 hE hl
  have hb := bh hE
  unfold ex
  exact K5 (K7 (show mv (fw q0 v0_0 v0_1 v0_2 v0_3 v0_4 v0_5 v2 v10 (v10.length : Int) (i : Int)) (.exit 0) (kU q0) from K3 [.b false] _ (fun k => by kernel_rfl) (AC hb <| AN)) (by intro h; cases h))
 | cons hd rest ih =>
  intro i v0_4 hE hl
  have hb := aS hE
  have hw := aT hE hl
  have hE2 := aG hE
  have hg := aX hE
  unfold ex
  refine La (fun h2 => ?_)
  refine La (fun h3 => ?_)
  refine K8 (fun h4 => ?_) (fun h4 => ?_)
  ·exact (ih (i + 1) v0_4 hE2 hl).mono fun y hy => by have r : mv (fw q0 v0_0 v0_1 v0_2 v0_3 v0_4 v0_5 v2 v10 (v10.length : Int) (i : Int)) .normal (fw q0 v0_0 v0_1 v0_2 v0_3 v0_4 v0_5 v2 v10 (v10.length : Int) (inc (i : Int))) := K3 [.b true, .row (etS hd), .ret [(false, [tI (bF (GDag.mk v0_0 v0_1 v0_2 v0_3 v0_4 v0_5) hd)])], rT] _ (fun k => by kernel_rfl) (AC hb <| AR etS hg <| AV (ψ := fun k => E.C k 48 [.agg (GDag.t .far q0 (GDag.mk v0_0 v0_1 v0_2 v0_3 v0_4 v0_5)), .one (tS hd)] = some [(false, [tI (bF (GDag.mk v0_0 v0_1 v0_2 v0_3 v0_4 v0_5) hd)])]) (eU (GDag.mk v0_0 v0_1 v0_2 v0_3 v0_4 v0_5) hd h2) <| AD (Ld (cX v2 (bF (GDag.mk v0_0 v0_1 v0_2 v0_3 v0_4 v0_5) hd) h3) h4) <| AN); rw [hw] at r; cases y <;> exact K6 r hy
  ·exact K5 (K7 (show mv (fw q0 v0_0 v0_1 v0_2 v0_3 v0_4 v0_5 v2 v10 (v10.length : Int) (i : Int)) .ret (jS q0 false) from K3 [.b true, .row (etS hd), .ret [(false, [tI (bF (GDag.mk v0_0 v0_1 v0_2 v0_3 v0_4 v0_5) hd)])], rF] _ (fun k => by kernel_rfl) (AC hb <| AR etS hg <| AV (ψ := fun k => E.C k 48 [.agg (GDag.t .far q0 (GDag.mk v0_0 v0_1 v0_2 v0_3 v0_4 v0_5)), .one (tS hd)] = some [(false, [tI (bF (GDag.mk v0_0 v0_1 v0_2 v0_3 v0_4 v0_5) hd)])]) (eU (GDag.mk v0_0 v0_1 v0_2 v0_3 v0_4 v0_5) hd h2) <| AD (Ld (cX v2 (bF (GDag.mk v0_0 v0_1 v0_2 v0_3 v0_4 v0_5) hd) h3) h4) <| AN)) (by intro h; cases h))
noncomputable def ku (x0 : GDag) (x1 : GTask) (x2 : List Int) : Option (Bool) :=
  if x1.f4.length ≤ 9223372036854775807 then (ex x0.f0 x0.f1 x0.f2 x0.f3 x0.f5 x2 x1.f4 0 x0.f4).bind fun y => match y with
   | .ret w0_6 => (some (w0_6))
   | .x0 => (some (true)) else none
theorem ym {q0 : Kd} (x0 : GDag) (x1 : GTask) (x2 : List Int) : Ans (ku x0 x1 x2) (fun r => Does E 52 [.im .far () (GDag.t .far q0 x0) 0, .agg (GTask.t .far x1), .one (.s .far () 1 (x2.map etI))] [(false, [tB r])]) := by
 unfold ku
 refine La (fun hl1 => ?_)
 refine K9 (fun y hy => ?_)
 replace hy := xj (q0 := q0) x0.f0 x0.f1 x0.f2 x0.f3 x0.f5 x2 x1.f4 x1.f4 0 x0.f4 rfl hl1 y hy
 cases y with
 | ret w0_6 =>
  have h0 := hy
  exact K5 (K4 (fn := Tryz.f52) [.val (.int .i64 (x1.f4.length : Int)), .lp .ret (jS q0 w0_6)] _ rfl (fun _ => rfl) (fun k => by kernel_rfl) (ALn x1.f4 etS <| AL h0 <| AN))
 | x0 =>
  have h0 := hy
  exact K5 (K4 (fn := Tryz.f52) [.val (.int .i64 (x1.f4.length : Int)), .lp (.exit 0) (kU q0)] _ rfl (fun _ => rfl) (fun k => by kernel_rfl) (ALn x1.f4 etS <| AL h0 <| AN))
def qk (ts : List GTask) (o : List Int) (t : GTask) : Bool := t.f4.all fun n => bQ o (av ts n)
def ut (d : GDag) (t : GTask) (o : List Int) : Bool := qk d.f5 o t
theorem GV (a b : ByteArray) (c e : Int) (ts : List GTask) (o : List Int) (ht : ts.length ≤ 1050000) (ho : o.length ≤ 1050000) : ∀ (l : List ByteArray) (i : Nat) (z : Bool), ex a b c e ts o l i z = some (cond (l.all fun n => bQ o (av ts n)) .x0 (.ret false))
 | [], i, z => rfl
 | n :: l, i, z => by
  unfold ex
  rw [if_pos (show (GDag.mk a b c e z ts).f5.length ≤ 1050000 from ht), if_pos ho, List.all_cons, GV a b c e ts o ht ho l (i + 1) z]
  show cond (bQ o (av ts n)) _ _ = _
  cases bQ o (av ts n) <;> rfl
theorem JJ (d : GDag) (t : GTask) (o : List Int) (h1 : d.f5.length ≤ 1050000) (h2 : t.f4.length ≤ 1050000) (h3 : o.length ≤ 1050000) : ku d t o = some (ut d t o) := by
 unfold ku
 rw [if_pos (by omega), GV _ _ _ _ _ _ h1 h3]
 show _ = some (t.f4.all fun n => bQ o (av d.f5 n))
 cases t.f4.all fun n => bQ o (av d.f5 n) <;> rfl
theorem x5 {q0 : Kd} (x0 : GDag) (x1 : GTask) (x2 : List Int) (h1 : x0.f5.length ≤ 1050000) (h2 : x1.f4.length ≤ 1050000) (h3 : x2.length ≤ 1050000) : Does E 52 [.im .far () (GDag.t .far q0 x0) 0, .agg (GTask.t .far x1), .one (.s .far () 1 (x2.map etI))] [(false, [tB (ut x0 x1 x2)])] := by
 exact ym x0 x1 x2 _ (JJ x0 x1 x2 h1 h2 h3)
noncomputable def ou (x0 : GTask) (y0 : List Int) (y1 : GDag) : Option (Bool) :=
  if y1.f5.length ≤ 1050000 then if y0.length ≤ 1050000 then cond (bQ y0 (bF y1 x0.f0))
   (some (false))
   (if x0.f4.length ≤ 1050000 then some (ut y1 x0 y0) else none) else none else none
theorem z8 {qy1 : Kd} (x0 : GTask) (y0 : List Int) (y1 : GDag) : Ans (ou x0 y0 y1) (fun r => Does E 50 [.agg (GTask.t .far x0), .im .far () [.s .far () 1 (y0.map etI)] 0, .im .far () [tS y1.f0, tS y1.f1, tI y1.f2, tI y1.f3, tB y1.f4, .s .far () 5 (y1.f5.map (GTask.t qy1))] 0] [(false, [tB r])]) := by
 unfold ou
 refine La (fun h0 => ?_)
 refine La (fun h1 => ?_)
 refine K8 (fun h2 => ?_) (fun h2 => ?_)
 ·exact K5 (K4 (fn := Tryz.f50) [.ret [(false, [tI (bF y1 x0.f0)])], rT] _ rfl (fun _ => rfl) (fun k => by kernel_rfl) (AV (ψ := fun k => E.C k 48 [.agg (GDag.t .far qy1 y1), .one (tS x0.f0)] = some [(false, [tI (bF y1 x0.f0)])]) (eU y1 x0.f0 h0) <| AD (Ld (cX y0 (bF y1 x0.f0) h1) h2) <| AN))
 ·refine La (fun h3 => ?_)
  exact K5 (K4 (fn := Tryz.f50) [.ret [(false, [tI (bF y1 x0.f0)])], rF, .ret [(false, [tB (ut y1 x0 y0)])]] _ rfl (fun _ => rfl) (fun k => by kernel_rfl) (AV (ψ := fun k => E.C k 48 [.agg (GDag.t .far qy1 y1), .one (tS x0.f0)] = some [(false, [tI (bF y1 x0.f0)])]) (eU y1 x0.f0 h0) <| AD (Ld (cX y0 (bF y1 x0.f0) h1) h2) <| AV (ψ := fun k => E.C k 52 [.im .far () [tS y1.f0, tS y1.f1, tI y1.f2, tI y1.f3, tB y1.f4, .s .far () 5 (y1.f5.map (GTask.t qy1))] 0, .agg (GTask.t .far x0), .one (.s .far () 1 (y0.map etI))] = some [(false, [tB (ut y1 x0 y0)])]) (x5 y1 x0 y0 h0 h3 h1) <| AN))
def wy (t : GTask) (o : List Int) (d : GDag) : Bool := !bQ o (av d.f5 t.f0) && qk d.f5 o t
theorem sS {qy1 : Kd} (x0 : GTask) (y0 : List Int) (y1 : GDag) (h1 : y1.f5.length ≤ 1050000) (h2 : x0.f4.length ≤ 1050000) (h3 : y0.length ≤ 1050000) : Does E 50 [.agg (GTask.t .far x0), .im .far () [.s .far () 1 (y0.map etI)] 0, .im .far () [tS y1.f0, tS y1.f1, tI y1.f2, tI y1.f3, tB y1.f4, .s .far () 5 (y1.f5.map (GTask.t qy1))] 0] [(false, [tB (wy x0 y0 y1)])] := by
 exact z8 x0 y0 y1 _ (by
  unfold ou wy
  simp only [h1, h2, h3, if_true]
  show cond (bQ y0 (av y1.f5 x0.f0)) _ _ = _
  cases bQ y0 (av y1.f5 x0.f0) <;> rfl)
inductive fo where
 | ret (v4 : Int)
 | x0 
def bu (q0 : Kd) (qc1_1 : Kd) (v0 : List GTask) (v1_0_0 : List Int) (v1_1_0 v1_1_1 : ByteArray) (v1_1_2 v1_1_3 : Int) (v1_1_4 : Bool) (v1_1_5 : List GTask) (v7 v8 : Int) : US := stL 19 [(0, .one (.s .far () 5 (v0.map (GTask.t q0)))), (1, .fni 50 [((), [.s .far () 1 (v1_0_0.map etI)]), ((), [tS v1_1_0, tS v1_1_1, tI v1_1_2, tI v1_1_3, tB v1_1_4, .s .far () 5 (v1_1_5.map (GTask.t qc1_1))])]), (7, .one (tI v7)), (8, .one (tI v8))]
def cK (q0 : Kd) (qc1_1 : Kd) (zv4 : Int) : US := stL 19 [(4, .one (tI zv4))]
def cS (q0 : Kd) (qc1_1 : Kd)  : US := stL 19 []
abbrev c9 : US → Exit → US → Prop := Round E 49 (ax Tryz.f49 0)
def ki {q0 : Kd} {qc1_1 : Kd} (v0 : List GTask) (v1_0_0 : List Int) (v1_1_0 v1_1_1 : ByteArray) (v1_1_2 v1_1_3 : Int) (v1_1_4 : Bool) (v1_1_5 : List GTask) (v7 v8 : Int) : fo → Prop
 | .ret zv4 => Loops E 49 (ax Tryz.f49 0) (bu q0 qc1_1 v0 v1_0_0 v1_1_0 v1_1_1 v1_1_2 v1_1_3 v1_1_4 v1_1_5 v7 v8) .ret (cK q0 qc1_1 zv4)
 | .x0 => Loops E 49 (ax Tryz.f49 0) (bu q0 qc1_1 v0 v1_0_0 v1_1_0 v1_1_1 v1_1_2 v1_1_3 v1_1_4 v1_1_5 v7 v8) (.exit 0) (cS q0 qc1_1)
noncomputable def be (v1_0_0 : List Int) (v1_1_0 v1_1_1 : ByteArray) (v1_1_2 v1_1_3 : Int) (v1_1_5 : List GTask) : List GTask → Nat → Bool → Option fo
 | [], i, v1_1_4 => some (.x0)
 | hd :: rest, i, v1_1_4 => if (GDag.mk v1_1_0 v1_1_1 v1_1_2 v1_1_3 v1_1_4 v1_1_5).f5.length ≤ 1050000 then if hd.f4.length ≤ 1050000 then if v1_0_0.length ≤ 1050000 then cond (wy hd v1_0_0 (GDag.mk v1_1_0 v1_1_1 v1_1_2 v1_1_3 v1_1_4 v1_1_5))
  (some (.ret (i : Int)))
  (be v1_0_0 v1_1_0 v1_1_1 v1_1_2 v1_1_3 v1_1_5 rest (i + 1) v1_1_4) else none else none else none
theorem kh {q0 : Kd} {qc1_1 : Kd} (v0 : List GTask) (v1_0_0 : List Int) (v1_1_0 v1_1_1 : ByteArray) (v1_1_2 v1_1_3 : Int) (v1_1_5 : List GTask) (rest : List GTask) : ∀ (i : Nat) (v1_1_4 : Bool), (v0).drop i = rest → v0.length ≤ 9223372036854775807 → Ans (be v1_0_0 v1_1_0 v1_1_1 v1_1_2 v1_1_3 v1_1_5 rest i v1_1_4) (ki (q0 := q0) (qc1_1 := qc1_1) v0 v1_0_0 v1_1_0 v1_1_1 v1_1_2 v1_1_3 v1_1_4 v1_1_5 (v0.length : Int) (i : Int)) := by
 induction rest with
 | nil =>
  intro i v1_1_4 hE hl
  have hb := bh hE
  unfold be
  exact K5 (K7 (show c9 (bu q0 qc1_1 v0 v1_0_0 v1_1_0 v1_1_1 v1_1_2 v1_1_3 v1_1_4 v1_1_5 (v0.length : Int) (i : Int)) (.exit 0) (cS q0 qc1_1) from K3 [.b false] _ (fun k => by kernel_rfl) (AC hb <| AN)) (by intro h; cases h))
 | cons hd rest ih =>
  intro i v1_1_4 hE hl
  have hb := aS hE
  have hw := aT hE hl
  have hE2 := aG hE
  have hg := aX hE
  unfold be
  refine La (fun h2 => ?_)
  refine La (fun h3 => ?_)
  refine La (fun h4 => ?_)
  refine K8 (fun h5 => ?_) (fun h5 => ?_)
  ·exact K5 (K7 (show c9 (bu q0 qc1_1 v0 v1_0_0 v1_1_0 v1_1_1 v1_1_2 v1_1_3 v1_1_4 v1_1_5 (v0.length : Int) (i : Int)) .ret (cK q0 qc1_1 (i : Int)) from K3 [.b true, .row ((GTask.t q0) hd), rT] _ (fun k => by kernel_rfl) (AC hb <| AR (GTask.t q0) hg <| AV (ψ := fun k => E.C k 50 [.agg (GTask.t .far hd), .im .far () [.s .far () 1 (v1_0_0.map etI)] 0, .im .far () [tS v1_1_0, tS v1_1_1, tI v1_1_2, tI v1_1_3, tB v1_1_4, .s .far () 5 (v1_1_5.map (GTask.t qc1_1))] 0] = some [(false, [tB true])]) (Lb (sS hd v1_0_0 (GDag.mk v1_1_0 v1_1_1 v1_1_2 v1_1_3 v1_1_4 v1_1_5) h2 h3 h4) (by rw [h5])) <| AN)) (by intro h; cases h))
  ·exact (ih (i + 1) v1_1_4 hE2 hl).mono fun y hy => by have r : c9 (bu q0 qc1_1 v0 v1_0_0 v1_1_0 v1_1_1 v1_1_2 v1_1_3 v1_1_4 v1_1_5 (v0.length : Int) (i : Int)) .normal (bu q0 qc1_1 v0 v1_0_0 v1_1_0 v1_1_1 v1_1_2 v1_1_3 v1_1_4 v1_1_5 (v0.length : Int) (inc (i : Int))) := K3 [.b true, .row ((GTask.t q0) hd), rF] _ (fun k => by kernel_rfl) (AC hb <| AR (GTask.t q0) hg <| AV (ψ := fun k => E.C k 50 [.agg (GTask.t .far hd), .im .far () [.s .far () 1 (v1_0_0.map etI)] 0, .im .far () [tS v1_1_0, tS v1_1_1, tI v1_1_2, tI v1_1_3, tB v1_1_4, .s .far () 5 (v1_1_5.map (GTask.t qc1_1))] 0] = some [(false, [tB false])]) (Lb (sS hd v1_0_0 (GDag.mk v1_1_0 v1_1_1 v1_1_2 v1_1_3 v1_1_4 v1_1_5) h2 h3 h4) (by rw [h5])) <| AN); rw [hw] at r; cases y <;> exact K6 r hy
noncomputable def cj (x0 : List GTask) (c1_0 : List Int) (c1_1 : GDag) : Option (Int) :=
  if x0.length ≤ 9223372036854775807 then (be c1_0 c1_1.f0 c1_1.f1 c1_1.f2 c1_1.f3 c1_1.f5 x0 0 c1_1.f4).bind fun y => match y with
   | .ret w0_4 => (some (w0_4))
   | .x0 => (some ((-1 : Int))) else none
theorem kR {q0 : Kd} {qc1_1 : Kd} (x0 : List GTask) (c1_0 : List Int) (c1_1 : GDag) : Ans (cj x0 c1_0 c1_1) (fun r => Does E 49 [.one (.s .far () 5 (x0.map (GTask.t q0))), .fni 50 [((), [.s .far () 1 (c1_0.map etI)]), ((), [tS c1_1.f0, tS c1_1.f1, tI c1_1.f2, tI c1_1.f3, tB c1_1.f4, .s .far () 5 (c1_1.f5.map (GTask.t qc1_1))])]] [(false, [tI r])]) := by
 unfold cj
 refine La (fun hl1 => ?_)
 refine K9 (fun y hy => ?_)
 replace hy := kh (q0 := q0) (qc1_1 := qc1_1) x0 c1_0 c1_1.f0 c1_1.f1 c1_1.f2 c1_1.f3 c1_1.f5 x0 0 c1_1.f4 rfl hl1 y hy
 cases y with
 | ret w0_4 =>
  have h0 := hy
  exact K5 (K4 (fn := Tryz.f49) [.val (.int .i64 (x0.length : Int)), .lp .ret (cK q0 qc1_1 w0_4)] _ rfl (fun _ => rfl) (fun k => by kernel_rfl) (ALn x0 (GTask.t q0) <| AL h0 <| AN))
 | x0 =>
  have h0 := hy
  exact K5 (K4 (fn := Tryz.f49) [.val (.int .i64 (x0.length : Int)), .lp (.exit 0) (cS q0 qc1_1)] _ rfl (fun _ => rfl) (fun k => by kernel_rfl) (ALn x0 (GTask.t q0) <| AL h0 <| AN))
def eA (o : List Int) (ts : List GTask) : List GTask → Nat → Option Nat
 | [], _ => none
 | t :: r, i => if (!bQ o (av ts t.f0) && qk ts o t) = true then some i else eA o ts r (i + 1)
def ch (l : List GTask) (o : List Int) (d : GDag) : Int := match eA o d.f5 l 0 with | some i => (i : Int) | none => -1
theorem Hh (o : List Int) (a b : ByteArray) (c e : Int) (ts : List GTask) (ht : ts.length ≤ 1050000) (ho : o.length ≤ 1050000) : ∀ (l : List GTask) (i : Nat) (z : Bool), ao.sm l → be o a b c e ts l i z = some (match eA o ts l i with | some k => .ret (k : Int) | none => .x0)
 | [], i, z, _ => rfl
 | t :: l, i, z, hl => by
  unfold be eA
  have h4 : t.f4.length ≤ 1050000 := (hl.2 t (by simp)).2.2.1
  rw [if_pos (show (GDag.mk a b c e z ts).f5.length ≤ 1050000 from ht), if_pos h4, if_pos ho, Hh o a b c e ts ht ho l (i + 1) z ⟨by have := hl.1; simp at this; omega, fun y hy => hl.2 y (by simp [hy])⟩]
  show cond (!bQ o (av ts t.f0) && qk ts o t) _ _ = _
  cases (!bQ o (av ts t.f0) && qk ts o t) <;> rfl
theorem JS (l : List GTask) (o : List Int) (d : GDag) (h1 : ao.sm l) (h2 : d.f5.length ≤ 1050000) (h3 : o.length ≤ 1050000) : cj l o d = some (ch l o d) := by
 unfold cj ch
 rw [if_pos (by have := h1.1; omega), Hh o d.f0 d.f1 d.f2 d.f3 d.f5 h2 h3 l 0 d.f4 h1]
 cases eA o d.f5 l 0 <;> rfl
theorem fq {q0 : Kd} {qc1_1 : Kd} (x0 : List GTask) (c1_0 : List Int) (c1_1 : GDag) (h1 : ao.sm x0) (h2 : c1_1.f5.length ≤ 1050000) (h3 : c1_0.length ≤ 1050000) : Does E 49 [.one (.s .far () 5 (x0.map (GTask.t q0))), .fni 50 [((), [.s .far () 1 (c1_0.map etI)]), ((), [tS c1_1.f0, tS c1_1.f1, tI c1_1.f2, tI c1_1.f3, tB c1_1.f4, .s .far () 5 (c1_1.f5.map (GTask.t qc1_1))])]] [(false, [tI (ch x0 c1_0 c1_1)])] := by
 exact kR x0 c1_0 c1_1 _ (JS x0 c1_0 c1_1 h1 h2 h3)
inductive uo where
 | ret (v2 : List Int)
def my (q0 : Kd) (v1_0 v1_1 : ByteArray) (v1_2 v1_3 : Int) (v1_4 : Bool) (v1_5 : List GTask) (v3_0 : List Int) : US := stL 16 [(1, .box () [tS v1_0, tS v1_1, tI v1_2, tI v1_3, tB v1_4, .s .far () 5 (v1_5.map (GTask.t q0))]), (3, .box () [.s .own () 1 (v3_0.map etI)])]
def jD (q0 : Kd) (zv2 : List Int) : US := stL 16 [(2, .one (.s .own () 1 (zv2.map etI)))]
abbrev un : US → Exit → US → Prop := Round E 29 (ax Tryz.f29 0)
def BQ {q0 : Kd} (v1_0 v1_1 : ByteArray) (v1_2 v1_3 : Int) (v1_4 : Bool) (v1_5 : List GTask) (v3_0 : List Int) : uo → Prop
 | .ret zv2 => Loops E 29 (ax Tryz.f29 0) (my q0 v1_0 v1_1 v1_2 v1_3 v1_4 v1_5 v3_0) .ret (jD q0 zv2)
noncomputable def ik (v1_0 v1_1 : ByteArray) (v1_2 v1_3 : Int) (v1_5 : List GTask) : Nat → Bool → (List Int) → Option uo
 | 0, _, _ => none
 | n + 1, v1_4, v3_0 => if ao.sm v1_5 then if (GDag.mk v1_0 v1_1 v1_2 v1_3 v1_4 v1_5).f5.length ≤ 1050000 then if v3_0.length ≤ 1050000 then cond (decide ((ch v1_5 v3_0 (GDag.mk v1_0 v1_1 v1_2 v1_3 v1_4 v1_5)) < (0 : Int)))
  (some (.ret v3_0))
  (if (v3_0.length + ([ch v1_5 v3_0 (GDag.mk v1_0 v1_1 v1_2 v1_3 v1_4 v1_5)]).length) * 8 ≤ 140737488355328 ∧ v3_0.length + ([ch v1_5 v3_0 (GDag.mk v1_0 v1_1 v1_2 v1_3 v1_4 v1_5)]).length ≤ 4611686018427387904 then ik v1_0 v1_1 v1_2 v1_3 v1_5 n v1_4 (v3_0 ++ ([ch v1_5 v3_0 (GDag.mk v1_0 v1_1 v1_2 v1_3 v1_4 v1_5)])) else none) else none else none else none
theorem BP {q0 : Kd} (v1_0 v1_1 : ByteArray) (v1_2 v1_3 : Int) (v1_5 : List GTask) (n : Nat) : ∀ (v1_4 : Bool) (v3_0 : List Int), Ans (ik v1_0 v1_1 v1_2 v1_3 v1_5 n v1_4 v3_0) (BQ (q0 := q0) v1_0 v1_1 v1_2 v1_3 v1_4 v1_5 v3_0) := by
 induction n with
 | zero => intros; exact Ans.none
 | succ n ih =>
  intro v1_4 v3_0
  unfold ik
  refine La (fun h0 => ?_)
  refine La (fun h1 => ?_)
  refine La (fun h2 => ?_)
  refine K8 (fun h3 => ?_) (fun h3 => ?_)
  ·exact K5 (K7 (show un (my q0 v1_0 v1_1 v1_2 v1_3 v1_4 v1_5 v3_0) .ret (jD q0 v3_0) from Round.to (K3 (D' := stL 16 [(2, .one (.s .own () 1 (((v3_0.map etI).drop 0).take (v3_0.map etI).length)))]) [.ret [(false, [tI (ch v1_5 v3_0 (GDag.mk v1_0 v1_1 v1_2 v1_3 v1_4 v1_5))])], .b true] _ (fun k => by kernel_rfl) (AV (ψ := fun k => E.C k 49 [.one (.s .far () 5 (v1_5.map (GTask.t q0))), .fni 50 [((), [.s .far () 1 (v3_0.map etI)]), ((), [tS v1_0, tS v1_1, tI v1_2, tI v1_3, tB v1_4, .s .far () 5 (v1_5.map (GTask.t q0))])]] = some [(false, [tI (ch v1_5 v3_0 (GDag.mk v1_0 v1_1 v1_2 v1_3 v1_4 v1_5))])]) (fq v1_5 v3_0 (GDag.mk v1_0 v1_1 v1_2 v1_3 v1_4 v1_5) h0 h1 h2) <| AC h3 <| AN)) (by simp only [jD, List.take_length, List.drop_zero])) (by intro h; cases h))
  ·refine La (fun h4 => ?_)
   have r : un (my q0 v1_0 v1_1 v1_2 v1_3 v1_4 v1_5 v3_0) .normal (my q0 v1_0 v1_1 v1_2 v1_3 v1_4 v1_5 (v3_0 ++ ([ch v1_5 v3_0 (GDag.mk v1_0 v1_1 v1_2 v1_3 v1_4 v1_5)]))) := K3 [.ret [(false, [tI (ch v1_5 v3_0 (GDag.mk v1_0 v1_1 v1_2 v1_3 v1_4 v1_5))])], .b false, .rows ((v3_0 ++ ([ch v1_5 v3_0 (GDag.mk v1_0 v1_1 v1_2 v1_3 v1_4 v1_5)])).map etI)] _ (fun k => by kernel_rfl) (AV (ψ := fun k => E.C k 49 [.one (.s .far () 5 (v1_5.map (GTask.t q0))), .fni 50 [((), [.s .far () 1 (v3_0.map etI)]), ((), [tS v1_0, tS v1_1, tI v1_2, tI v1_3, tB v1_4, .s .far () 5 (v1_5.map (GTask.t q0))])]] = some [(false, [tI (ch v1_5 v3_0 (GDag.mk v1_0 v1_1 v1_2 v1_3 v1_4 v1_5))])]) (fq v1_5 v3_0 (GDag.mk v1_0 v1_1 v1_2 v1_3 v1_4 v1_5) h0 h1 h2) <| AC h3 <| AC (p := (((([ch v1_5 v3_0 (GDag.mk v1_0 v1_1 v1_2 v1_3 v1_4 v1_5)]).map etI).drop 0).take (([ch v1_5 v3_0 (GDag.mk v1_0 v1_1 v1_2 v1_3 v1_4 v1_5)]).map etI).length).all (fun r => r.all T.flat) = true ∧ ((((v3_0.map etI).drop 0).take (v3_0.map etI).length).length + (((([ch v1_5 v3_0 (GDag.mk v1_0 v1_1 v1_2 v1_3 v1_4 v1_5)]).map etI).drop 0).take (([ch v1_5 v3_0 (GDag.mk v1_0 v1_1 v1_2 v1_3 v1_4 v1_5)]).map etI).length).length) * 8 ≤ 140737488355328 ∧ (((v3_0.map etI).drop 0).take (v3_0.map etI).length).length + (((([ch v1_5 v3_0 (GDag.mk v1_0 v1_1 v1_2 v1_3 v1_4 v1_5)]).map etI).drop 0).take (([ch v1_5 v3_0 (GDag.mk v1_0 v1_1 v1_2 v1_3 v1_4 v1_5)]).map etI).length).length ≤ 4611686018427387904) (by simp only [List.take_length, List.drop_zero]; exact IJ (fun x => rfl) h4) <| AC (p := (((v3_0.map etI).drop 0).take (v3_0.map etI).length) ++ (((([ch v1_5 v3_0 (GDag.mk v1_0 v1_1 v1_2 v1_3 v1_4 v1_5)]).map etI).drop 0).take (([ch v1_5 v3_0 (GDag.mk v1_0 v1_1 v1_2 v1_3 v1_4 v1_5)]).map etI).length) = (v3_0 ++ ([ch v1_5 v3_0 (GDag.mk v1_0 v1_1 v1_2 v1_3 v1_4 v1_5)])).map etI) (by simp only [List.take_length, List.drop_zero]; exact Gq) <| AN); exact (ih v1_4 (v3_0 ++ ([ch v1_5 v3_0 (GDag.mk v1_0 v1_1 v1_2 v1_3 v1_4 v1_5)]))).mono fun y hy => by cases y <;> exact K6 r hy
noncomputable def nL (x0 : GDag) : Option ((List Int)) :=
  (ik x0.f0 x0.f1 x0.f2 x0.f3 x0.f5 9223372036854775808 x0.f4 ([])).bind fun y => match y with
   | .ret w0_2 => (some (w0_2))
theorem DO {q0 : Kd} (x0 : GDag) : Ans (nL x0) (fun r => Does E 29 [.agg (GDag.t .far q0 x0)] [(false, [.s .own () 1 (r.map etI)])]) := by
 unfold nL
 refine K9 (fun y hy => ?_)
 replace hy := BP (q0 := q0) x0.f0 x0.f1 x0.f2 x0.f3 x0.f5 9223372036854775808 x0.f4 ([]) y hy
 cases y with
 | ret w0_2 =>
  have h0 := hy
  exact K5 (K4 (fn := Tryz.f29) [.lp .ret (jD q0 w0_2)] _ rfl (fun _ => rfl) (fun k => by kernel_rfl) (AL h0 <| AN))
def co (ts : List GTask) : Prop := ts.length ≤ 4 ∧ ∀ (i : Nat) (t : GTask), ts[i]? = some t → av ts t.f0 = (i : Int)
def ir (ts : List GTask) : Nat → List Int → List Int
 | 0, o => o
 | k + 1, o => match eA o ts ts 0 with | none => o | some i => ir ts k (o ++ [(i : Int)])
def cy (ts : List GTask) : List Int := ir ts ts.length []
def dk (d : GDag) : List Int := cy d.f5
theorem nb {o : List Int} {x : Int} : bQ o x = true ↔ x ∈ o := by
 unfold bQ
 rw [List.any_eq_true]
 constructor
 ·rintro ⟨y, h, e⟩; rw [beq_iff_eq] at e; subst e; exact h
 ·intro h; exact ⟨x, h, by simp⟩
theorem oC {o : List Int} {ts : List GTask} : ∀ {l : List GTask} {i k : Nat}, eA o ts l i = some k → ∃ t j, k = i + j ∧ l[j]? = some t ∧ bQ o (av ts t.f0) = false ∧ qk ts o t = true
 | [], i, k, h => by cases h
 | t :: l, i, k, h => by
  unfold eA at h
  split at h
  ·rename_i q
   cases h
   simp only [Bool.and_eq_true, Bool.not_eq_true'] at q
   exact ⟨t, 0, rfl, rfl, q.1, q.2⟩
  ·obtain ⟨u, j, h1, h2, h3⟩ := oC h
   exact ⟨u, j + 1, by omega, h2, h3⟩
def vf (n : Nat) (o : List Int) : Nat := ((List.range n).filter fun i : Nat => !bQ o (i : Int)).length
theorem zm {α : Type} {p q : α → Bool} : ∀ {l : List α}, (∀ y, q y = true → p y = true) → (l.filter q).length ≤ (l.filter p).length
 | [], _ => by simp
 | z :: l, h => by
  have ih := zm (l := l) h
  rw [List.filter_cons, List.filter_cons]
  cases a : q z with
  | true => rw [h z a]; simpa using ih
  | false => cases p z <;> simp <;> omega
theorem zn {α : Type} {p q : α → Bool} {x : α} : ∀ {l : List α}, (∀ y, q y = true → p y = true) → x ∈ l → p x = true → q x = false → (l.filter q).length < (l.filter p).length
 | y :: l, h, hx, h1, h2 => by
  have le := zm (l := l) h
  rw [List.filter_cons, List.filter_cons]
  rcases List.mem_cons.1 hx with rfl | hx
  ·rw [h1, h2]; simp; omega
  ·have := zn (l := l) h hx h1 h2
   cases a : q y with
   | true => rw [h y a]; simpa using this
   | false => cases p y <;> simp <;> omega
theorem He {n i : Nat} {o : List Int} (hi : i < n) (h : bQ o (i : Int) = false) : vf n (o ++ [(i : Int)]) < vf n o := by
 unfold vf
 refine zn (p := fun i : Nat => !bQ o (i : Int)) (q := fun j : Nat => !bQ (o ++ [(i : Int)]) (j : Int)) (x := i) (fun y hy => ?_) (List.mem_range.2 hi) (by rw [h]; rfl) ?_
 ·rw [Bool.not_eq_true'] at hy ⊢
  rw [← Bool.not_eq_true, nb] at hy ⊢
  exact fun e => hy (by simp [e])
 ·have : bQ (o ++ [(i : Int)]) (i : Int) = true := nb.2 (by simp)
  rw [this]; rfl
theorem Iv (n : Nat) : vf n [] = n := by
 unfold vf
 have : (List.range n).filter (fun i : Nat => !bQ [] (i : Int)) = List.range n := List.filter_eq_self.2 fun a _ => rfl
 rw [this, List.length_range]
theorem ET (a b : ByteArray) (c e : Int) (ts : List GTask) (hs : ao.sm ts) (hg : co ts) : ∀ (k n : Nat) (o : List Int) (z : Bool), vf ts.length o ≤ k → k < n → o.length + k ≤ 1000 → ik a b c e ts n z o = some (.ret (ir ts k o))
 | k, 0, o, z, _, hn, _ => by omega
 | k, n + 1, o, z, hk, hn, hl => by
  unfold ik
  rw [if_pos hs, if_pos (show (GDag.mk a b c e z ts).f5.length ≤ 1050000 from hs.1), if_pos (by omega)]
  have hx : ch ts o (GDag.mk a b c e z ts) = match eA o ts ts 0 with | some i => (i : Int) | none => -1 := rfl
  rw [hx]
  cases q : eA o ts ts 0 with
  | none =>
   have : ir ts k o = o := by
    cases k with
    | zero => rfl
    | succ k => unfold ir; rw [q]
   rw [this]; rfl
  | some i =>
   obtain ⟨t, j, h1, h2, h3, h4⟩ := oC q
   have hij : i = j := by omega
   subst hij
   rw [hg.2 i t h2] at h3
   have hi : i < ts.length := by
    rcases Nat.lt_or_ge i ts.length with g | g
    ·exact g
    ·rw [List.getElem?_eq_none g] at h2; cases h2
   have less := He hi h3
   obtain ⟨k, rfl⟩ : ∃ m, k = m + 1 := ⟨k - 1, by omega⟩
   have ih := ET a b c e ts hs hg k n (o ++ [(i : Int)]) z (by omega) (by omega) (by simp; omega)
   simp only
   rw [decide_eq_false (by omega), cond_false, if_pos (by simp; omega), ih]
   conv => rhs; unfold ir
   rw [q]
theorem Hn (d : GDag) (h : ao.sm d) (hg : co d.f5) : nL d = some (dk d) := by
 have hs : ao.sm d.f5 := h.2.2
 unfold nL
 have := ET d.f0 d.f1 d.f2 d.f3 d.f5 hs hg d.f5.length 9223372036854775808 [] d.f4 (by rw [Iv]; exact Nat.le_refl _) (by have := hg.1; omega) (by have := hg.1; simp; omega)
 refine (congrArg (Option.bind · _) this).trans rfl
theorem qC {q0 : Kd} (x0 : GDag) (h : ao.sm x0) (hg : co x0.f5) : Does E 29 [.agg (GDag.t .far q0 x0)] [(false, [.s .own () 1 ((dk x0).map etI)])] := by
 exact DO x0 _ (Hn x0 h hg)
inductive tv where
 | x4 (v6 : Bool)
def fE (q0 : Kd) (v0 : List GTask) (v3 : List Int) (v4 v5 : Int) (v6 : Bool) (v7 : Int) : US := stL 57 [(0, .one (.s .far () 5 (v0.map (GTask.t q0)))), (3, .one (.s .own () 1 (v3.map etI))), (4, .one (tI v4)), (5, .one (tI v5)), (6, .one (tB v6)), (7, .one (tI v7))]
def gQ (q0 : Kd) (v0 : List GTask) (v3 : List Int) (v4 v5 : Int) (zv6 : Bool) : US := stL 57 [(0, .one (.s .far () 5 (v0.map (GTask.t q0)))), (3, .one (.s .own () 1 (v3.map etI))), (4, .one (tI v4)), (5, .one (tI v5)), (6, .one (tB zv6))]
abbrev lC : US → Exit → US → Prop := Round E 37 (ax Tryz.f37 2)
def AF {q0 : Kd} (v0 : List GTask) (v3 : List Int) (v4 v5 : Int) (v6 : Bool) (v7 : Int) : tv → Prop
 | .x4 zv6 => Loops E 37 (ax Tryz.f37 2) (fE q0 v0 v3 v4 v5 v6 v7) (.exit 4) (gQ q0 v0 v3 v4 v5 zv6)
noncomputable def eO (v0 : List GTask) (v3 : List Int) (v5 : Int) : Nat → Bool → Int → Option tv
 | 0, _, _ => none
 | n + 1, v6, v7 => match v6 with
  | true => (aI v0 v5).bind fun g0 => cond (decide (v7 < (g0.f4.length : Int)))
   ((aI g0.f4 v7).bind fun g1 => if v0.length ≤ 1050000 then if v3.length ≤ 1050000 then eO v0 v3 v5 n (bQ v3 (av v0 g1)) (inc v7) else none else none)
   (some (.x4 v6))
  | false => (aI v0 v5).bind fun g0 => cond (decide (v7 < (g0.f4.length : Int)))
   (eO v0 v3 v5 n false (inc v7))
   (some (.x4 v6))
theorem AA {q0 : Kd} (v0 : List GTask) (v3 : List Int) (v4 v5 : Int) (n : Nat) : ∀ (v6 : Bool) (v7 : Int), Ans (eO v0 v3 v5 n v6 v7) (AF (q0 := q0) v0 v3 v4 v5 v6 v7) := by
 induction n with
 | zero => intros; exact Ans.none
 | succ n ih =>
  intro v6 v7
  unfold eO
  cases v6 with
  | true =>
   refine K9 (fun g0 h0 => ?_)
   refine K8 (fun h1 => ?_) (fun h1 => ?_)
   ·refine K9 (fun g1 h2 => ?_)
    refine La (fun h3 => ?_)
    refine La (fun h4 => ?_)
    have r : lC (fE q0 v0 v3 v4 v5 true v7) .normal (fE q0 v0 v3 v4 v5 (bQ v3 (av v0 g1)) (inc v7)) := K3 [.row ((GTask.t q0) g0), .val (.int .i64 (g0.f4.length : Int)), .b true, .row ((GTask.t q0) g0), .row (etS g1), .ret [(false, [tI (av v0 g1)])], .ret [(false, [tB (bQ v3 (av v0 g1))])]] _ (fun k => by kernel_rfl) (AR (GTask.t q0) h0 <| ALn g0.f4 etS <| AC h1 <| AR (GTask.t q0) h0 <| AR etS h2 <| AV (ψ := fun k => E.C k 63 [.one (.s .far () 5 (v0.map (GTask.t q0))), .one (tS g1)] = some [(false, [tI (av v0 g1)])]) (e9 v0 g1 h3) <| AV (ψ := fun k => E.C k 62 [.one (.s .far () 1 (((v3.map etI).drop 0).take (v3.map etI).length)), .one (tI (av v0 g1))] = some [(false, [tB (bQ v3 (av v0 g1))])]) (Lc (by simp only [List.take_length, List.drop_zero]) (qf v3 (av v0 g1) h4)) <| AN); exact (ih (bQ v3 (av v0 g1)) (inc v7)).mono fun y hy => by cases y <;> exact K6 r hy
   ·exact K5 (K7 (show lC (fE q0 v0 v3 v4 v5 true v7) (.exit 4) (gQ q0 v0 v3 v4 v5 true) from K3 [.row ((GTask.t q0) g0), .val (.int .i64 (g0.f4.length : Int)), .b false] _ (fun k => by kernel_rfl) (AR (GTask.t q0) h0 <| ALn g0.f4 etS <| AC h1 <| AN)) (by intro h; cases h))
  | false =>
   refine K9 (fun g0 h0 => ?_)
   refine K8 (fun h1 => ?_) (fun h1 => ?_)
   ·have r : lC (fE q0 v0 v3 v4 v5 false v7) .normal (fE q0 v0 v3 v4 v5 false (inc v7)) := K3 [.row ((GTask.t q0) g0), .val (.int .i64 (g0.f4.length : Int)), .b true] _ (fun k => by kernel_rfl) (AR (GTask.t q0) h0 <| ALn g0.f4 etS <| AC h1 <| AN); exact (ih false (inc v7)).mono fun y hy => by cases y <;> exact K6 r hy
   ·exact K5 (K7 (show lC (fE q0 v0 v3 v4 v5 false v7) (.exit 4) (gQ q0 v0 v3 v4 v5 false) from K3 [.row ((GTask.t q0) g0), .val (.int .i64 (g0.f4.length : Int)), .b false] _ (fun k => by kernel_rfl) (AR (GTask.t q0) h0 <| ALn g0.f4 etS <| AC h1 <| AN)) (by intro h; cases h))
inductive tu where
 | x2 (v3 : List Int)
def eN (q0 : Kd) (v0 : List GTask) (v3 : List Int) (v4 v5 : Int) : US := stL 57 [(0, .one (.s .far () 5 (v0.map (GTask.t q0)))), (3, .one (.s .own () 1 (v3.map etI))), (4, .one (tI v4)), (5, .one (tI v5))]
def mZ (q0 : Kd) (v0 : List GTask) (v4 : Int) (zv3 : List Int) : US := stL 57 [(0, .one (.s .far () 5 (v0.map (GTask.t q0)))), (3, .one (.s .own () 1 (zv3.map etI))), (4, .one (tI v4))]
abbrev lB : US → Exit → US → Prop := Round E 37 (ax Tryz.f37 1)
def AE {q0 : Kd} (v0 : List GTask) (v3 : List Int) (v4 v5 : Int) : tu → Prop
 | .x2 zv3 => Loops E 37 (ax Tryz.f37 1) (eN q0 v0 v3 v4 v5) (.exit 2) (mZ q0 v0 v4 zv3)
noncomputable def di (v0 : List GTask) : Nat → (List Int) → Int → Option tu
 | 0, _, _ => none
 | n + 1, v3, v5 => cond (decide (v5 < (v0.length : Int)))
  (if v3.length ≤ 1050000 then cond (bQ v3 v5)
   (di v0 n v3 (inc v5))
   ((eO v0 v3 v5 9223372036854775808 true (0 : Int)).bind fun y => match y with
    | .x4 w0_6 => (match w0_6 with
     | true => if (v3.length + ([v5]).length) * 8 ≤ 140737488355328 ∧ v3.length + ([v5]).length ≤ 4611686018427387904 then di v0 n (v3 ++ ([v5])) (inc (v0.length : Int)) else none
     | false => di v0 n v3 (inc v5))) else none)
  (some (.x2 v3))
theorem Az {q0 : Kd} (v0 : List GTask) (v4 : Int) (n : Nat) : ∀ (v3 : List Int) (v5 : Int), Ans (di v0 n v3 v5) (AE (q0 := q0) v0 v3 v4 v5) := by
 induction n with
 | zero => intros; exact Ans.none
 | succ n ih =>
  intro v3 v5
  unfold di
  refine K8 (fun h0 => ?_) (fun h0 => ?_)
  ·refine La (fun h1 => ?_)
   refine K8 (fun h2 => ?_) (fun h2 => ?_)
   ·have r : lB (eN q0 v0 v3 v4 v5) .normal (eN q0 v0 v3 v4 (inc v5)) := K3 [.val (.int .i64 (v0.length : Int)), .b true, rT] _ (fun k => by kernel_rfl) (ALn v0 (GTask.t q0) <| AC h0 <| AV (ψ := fun k => E.C k 62 [.one (.s .far () 1 (((v3.map etI).drop 0).take (v3.map etI).length)), .one (tI v5)] = some [(false, [tB true])]) (Lc (by simp only [List.take_length, List.drop_zero]) (Lb (qf v3 v5 h1) (by rw [h2]))) <| AN); exact (ih v3 (inc v5)).mono fun y hy => by cases y <;> exact K6 r hy
   ·refine K9 (fun y hy => ?_)
    replace hy := AA (q0 := q0) v0 v3 v4 v5 9223372036854775808 true (0 : Int) y hy
    cases y with
    | x4 w0_6 =>
     have h3 := hy
     cases w0_6 with
     | true =>
      refine La (fun h4 => ?_)
      have r : lB (eN q0 v0 v3 v4 v5) .normal (eN q0 v0 (v3 ++ ([v5])) v4 (inc (v0.length : Int))) := K3 [.val (.int .i64 (v0.length : Int)), .b true, rF, .lp (.exit 4) (gQ q0 v0 v3 v4 v5 true), .rows ((v3 ++ ([v5])).map etI), .val (.int .i64 (v0.length : Int))] _ (fun k => by kernel_rfl) (ALn v0 (GTask.t q0) <| AC h0 <| AV (ψ := fun k => E.C k 62 [.one (.s .far () 1 (((v3.map etI).drop 0).take (v3.map etI).length)), .one (tI v5)] = some [(false, [tB false])]) (Lc (by simp only [List.take_length, List.drop_zero]) (Lb (qf v3 v5 h1) (by rw [h2]))) <| AL h3 <| AAp etI (fun _ => rfl) h4 <| ALn v0 (GTask.t q0) <| AN); exact (ih (v3 ++ ([v5])) (inc (v0.length : Int))).mono fun y hy => by cases y <;> exact K6 r hy
     | false =>
      have r : lB (eN q0 v0 v3 v4 v5) .normal (eN q0 v0 v3 v4 (inc v5)) := K3 [.val (.int .i64 (v0.length : Int)), .b true, rF, .lp (.exit 4) (gQ q0 v0 v3 v4 v5 false)] _ (fun k => by kernel_rfl) (ALn v0 (GTask.t q0) <| AC h0 <| AV (ψ := fun k => E.C k 62 [.one (.s .far () 1 (((v3.map etI).drop 0).take (v3.map etI).length)), .one (tI v5)] = some [(false, [tB false])]) (Lc (by simp only [List.take_length, List.drop_zero]) (Lb (qf v3 v5 h1) (by rw [h2]))) <| AL h3 <| AN); exact (ih v3 (inc v5)).mono fun y hy => by cases y <;> exact K6 r hy
  ·exact K5 (K7 (show lB (eN q0 v0 v3 v4 v5) (.exit 2) (mZ q0 v0 v4 v3) from K3 [.val (.int .i64 (v0.length : Int)), .b false] _ (fun k => by kernel_rfl) (ALn v0 (GTask.t q0) <| AC h0 <| AN)) (by intro h; cases h))
inductive tt where
 | x0 (v3 : List Int)
def lD (q0 : Kd) (v0 : List GTask) (v3 : List Int) (v4 : Int) : US := stL 57 [(0, .one (.s .far () 5 (v0.map (GTask.t q0)))), (3, .one (.s .own () 1 (v3.map etI))), (4, .one (tI v4))]
def mY (q0 : Kd) (zv3 : List Int) : US := stL 57 [(3, .one (.s .own () 1 (zv3.map etI)))]
abbrev tr : US → Exit → US → Prop := Round E 37 (ax Tryz.f37 0)
def AB {q0 : Kd} (v0 : List GTask) (v3 : List Int) (v4 : Int) : tt → Prop
 | .x0 zv3 => Loops E 37 (ax Tryz.f37 0) (lD q0 v0 v3 v4) (.exit 0) (mY q0 zv3)
noncomputable def fF (v0 : List GTask) : List GTask → Nat → (List Int) → Option tt
 | [], i, v3 => some (.x0 v3)
 | hd :: rest, i, v3 => (di v0 9223372036854775808 v3 (0 : Int)).bind fun y => match y with
  | .x2 w0_3 => (fF v0 rest (i + 1) w0_3)
theorem Ay {q0 : Kd} (v0 : List GTask) (rest : List GTask) : ∀ (i : Nat) (v3 : List Int), (v0).drop i = rest → v0.length ≤ 9223372036854775807 → Ans (fF v0 rest i v3) (AB (q0 := q0) v0 v3 (i : Int)) := by
 induction rest with
 | nil =>
  intro i v3 hE hl
  have hb := bh hE
  unfold fF
  exact K5 (K7 (show tr (lD q0 v0 v3 (i : Int)) (.exit 0) (mY q0 v3) from K3 [.val (.int .i64 (v0.length : Int)), .b false] _ (fun k => by kernel_rfl) (ALn v0 (GTask.t q0) <| AC hb <| AN)) (by intro h; cases h))
 | cons hd rest ih =>
  intro i v3 hE hl
  have hb := aS hE
  have hw := aT hE hl
  have hE2 := aG hE
  have hg := aX hE
  unfold fF
  refine K9 (fun y hy => ?_)
  replace hy := Az (q0 := q0) v0 (i : Int) 9223372036854775808 v3 (0 : Int) y hy
  cases y with
  | x2 w0_3 =>
   have h1 := hy
   exact (ih (i + 1) w0_3 hE2 hl).mono fun y hy => by have r : tr (lD q0 v0 v3 (i : Int)) .normal (lD q0 v0 w0_3 (inc (i : Int))) := K3 [.val (.int .i64 (v0.length : Int)), .b true, .lp (.exit 2) (mZ q0 v0 (i : Int) w0_3)] _ (fun k => by kernel_rfl) (ALn v0 (GTask.t q0) <| AC hb <| AL h1 <| AN); rw [hw] at r; cases y <;> exact K6 r hy
noncomputable def m0 (x0 : List GTask) : Option ((List Int)) :=
  if x0.length ≤ 9223372036854775807 then (fF x0 x0 0 ([])).bind fun y => match y with
   | .x0 w0_3 => (some (w0_3)) else none
theorem CU {q0 : Kd} (x0 : List GTask) : Ans (m0 x0) (fun r => Does E 37 [.one (.s .far () 5 (x0.map (GTask.t q0)))] [(false, [.s .own () 1 (r.map etI)])]) := by
 unfold m0
 refine La (fun hl1 => ?_)
 refine K9 (fun y hy => ?_)
 replace hy := Ay (q0 := q0) x0 x0 0 ([]) rfl hl1 y hy
 cases y with
 | x0 w0_3 =>
  have h0 := hy
  exact K5 (K4 (fn := Tryz.f37) [.lp (.exit 0) (mY q0 w0_3)] _ rfl (fun _ => rfl) (fun k => by kernel_rfl) (AL h0 <| AN))
theorem CK (ts : List GTask) (o : List Int) (i : Nat) (t : GTask) (ht : ts.length ≤ 1050000) (ho : o.length ≤ 1050000) (hi : ts[i]? = some t) (hf : t.f4.length ≤ 1050000) : ∀ (m k n : Nat) (b : Bool), k + m = t.f4.length → m < n →
  eO ts o (i : Int) n b (k : Int) = some (.x4 (b && ((t.f4.drop k).all fun x => bQ o (av ts x))))
 | m, k, 0, b, _, hn => by omega
 | m, k, n + 1, b, hk, hn => by
  have hg : aI ts (i : Int) = some t := by rw [eR]; exact hi
  unfold eO
  cases m with
  | zero =>
   have hd : t.f4.drop k = [] := List.drop_eq_nil_of_le (by omega)
   rw [hd]
   cases b <;> (simp only [hg, Option.bind_some]; rw [decide_eq_false (by omega)]; rfl)
  | succ m =>
   have hx : ∃ x, t.f4[k]? = some x := ⟨t.f4[k]'(by omega), List.getElem?_eq_getElem (by omega)⟩
   obtain ⟨x, hx⟩ := hx
   have hd : t.f4.drop k = x :: t.f4.drop (k + 1) := by
    rw [List.drop_eq_getElem_cons (by omega : k < t.f4.length)]
    rw [List.getElem?_eq_getElem (by omega)] at hx
    rw [Option.some.inj hx]
   have e : inc (k : Int) = ((k + 1 : Nat) : Int) := by rw [il _ (by omega) (by omega)]; omega
   rw [hd, List.all_cons]
   cases b with
   | false =>
    simp only [hg, Option.bind_some]
    rw [decide_eq_true (by omega), cond_true, e, CK ts o i t ht ho hi hf m (k + 1) n false (by omega) (by omega)]; rfl
   | true =>
    have hy : aI t.f4 (k : Int) = some x := by rw [eR]; exact hx
    simp only [hg, Option.bind_some]
    rw [decide_eq_true (by omega), cond_true, hy, Option.bind_some, if_pos ht, if_pos ho, e, CK ts o i t ht ho hi hf m (k + 1) n _ (by omega) (by omega)]; rfl
theorem EU (ts : List GTask) (hs : ao.sm ts) (hg : co ts) (o : List Int) (ho : o.length ≤ 1000) : ∀ (m i n : Nat), i + m = ts.length → m + 1 < n →
  di ts n o (i : Int) = some (.x2 (match eA o ts (ts.drop i) i with | some k => o ++ [(k : Int)] | none => o))
 | m, i, 0, _, hn => by omega
 | m, i, n + 1, hi, hn => by
  have h4 := hg.1
  unfold di
  cases m with
  | zero =>
   have hd : ts.drop i = [] := List.drop_eq_nil_of_le (by omega)
   rw [hd, decide_eq_false (by omega)]; rfl
  | succ m =>
   have hlt : i < ts.length := by omega
   have ht : ts[i]? = some ts[i] := List.getElem?_eq_getElem hlt
   have hd : ts.drop i = ts[i] :: ts.drop (i + 1) := List.drop_eq_getElem_cons hlt
   have hf : ts[i].f4.length ≤ 1050000 := (hs.2 ts[i] (List.getElem_mem _)).2.2.1
   have e : inc (i : Int) = ((i + 1 : Nat) : Int) := by rw [il _ (by omega) (by omega)]; omega
   have hn' := hg.2 i _ ht
   have fr := CK ts o i ts[i] hs.1 (by omega) ht hf ts[i].f4.length 0 9223372036854775808 true (by omega) (by omega)
   have ih := EU ts hs hg o ho m (i + 1) n (by omega) (by omega)
   rw [List.drop_zero, Bool.true_and] at fr
   have fr' : eO ts o (i : Int) 9223372036854775808 true (0 : Int) = some (.x4 (qk ts o ts[i])) := fr
   rw [decide_eq_true (by omega), cond_true, if_pos (by omega), hd, fr', e]
   unfold eA
   rw [hn']
   cases bQ o (i : Int) with
   | true => rw [cond_true, ih]; rfl
   | false =>
    rw [cond_false, Option.bind_some]
    cases qk ts o ts[i] with
    | false =>
     simp only [ih]; rfl
    | true =>
     have stop : ∀ w, di ts n w (inc (ts.length : Int)) = some (.x2 w) := fun w => by
      obtain ⟨n, rfl⟩ : ∃ j, n = j + 1 := ⟨n - 1, by omega⟩
      unfold di
      rw [il _ (by omega) (by omega), decide_eq_false (by omega)]; rfl
     simp only [stop]
     rw [if_pos (by simp; omega)]; rfl
theorem wE (ts : List GTask) (hs : ao.sm ts) (hg : co ts) : ∀ (l : List GTask) (i : Nat) (o : List Int), o.length + l.length ≤ 1000 → fF ts l i o = some (.x0 (ir ts l.length o))
 | [], i, o, _ => rfl
 | x :: l, i, o, hl => by
  have h4 := hg.1
  simp only [List.length_cons] at hl
  unfold fF
  have r := EU ts hs hg o (by omega) ts.length 0 9223372036854775808 (by omega) (by omega)
  rw [List.drop_zero] at r
  refine (congrArg (Option.bind · _) r).trans ?_
  rw [Option.bind_some]
  simp only [List.length_cons]
  unfold ir
  cases q : eA o ts ts 0 with
  | none =>
   simp only
   rw [wE ts hs hg l (i + 1) o (by omega)]
   have : ∀ k, ir ts k o = o := fun k => by
    cases k with
    | zero => rfl
    | succ k => unfold ir; rw [q]
   rw [this]
  | some k =>
   simp only
   exact wE ts hs hg l (i + 1) _ (by simp; omega)
theorem Jm (ts : List GTask) (hs : ao.sm ts) (hg : co ts) : m0 ts = some (cy ts) := by
 have h4 := hg.1
 unfold m0
 rw [if_pos (by omega), wE ts hs hg ts 0 [] (by simp; omega)]
 rfl
theorem pp {q0 : Kd} (x0 : List GTask) (h : ao.sm x0) (hg : co x0) : Does E 37 [.one (.s .far () 5 (x0.map (GTask.t q0)))] [(false, [.s .own () 1 ((cy x0).map etI)])] := by
 exact CU x0 _ (Jm x0 h hg)
end Go.Proofs.YtjfbofdmjihglaaGreatDoor.Am
namespace Go.Proofs.YtjfbofdmjihglaaGreatDoor.Am
open Go Go.Proofs Classical
set_option maxRecDepth 100000
set_option linter.unusedVariables false
set_option linter.unusedSimpArgs false
inductive vD where
 | ret (v2 : Bool)
 | x0 
def eW (v1_0 v1_1 : ByteArray) (v1_2 : Int) (v1_3 : Bool) (v1_4 v28 : List ByteArray) (v29 v30 : Int) : US := stL 54 [(1, .box () [tS v1_0, tS v1_1, tI v1_2, tB v1_3, .s .far () 1 (v1_4.map etS)]), (28, .one (.s .far () 1 (v28.map etS))), (29, .one (tI v29)), (30, .one (tI v30))]
def kz (zv2 : Bool) : US := stL 54 [(2, .one (tB zv2))]
def ov  : US := stL 54 []
abbrev lf : US → Exit → US → Prop := Round E 47 (ax Tryz.f47 0)
def DR (v1_0 v1_1 : ByteArray) (v1_2 : Int) (v1_3 : Bool) (v1_4 v28 : List ByteArray) (v29 v30 : Int) : vD → Prop
 | .ret zv2 => Loops E 47 (ax Tryz.f47 0) (eW v1_0 v1_1 v1_2 v1_3 v1_4 v28 v29 v30) .ret (kz zv2)
 | .x0 => Loops E 47 (ax Tryz.f47 0) (eW v1_0 v1_1 v1_2 v1_3 v1_4 v28 v29 v30) (.exit 0) (ov)
noncomputable def fN (v1_0 : ByteArray) (v1_4 : List ByteArray) : List ByteArray → Nat → Bool → Option vD
 | [], i, v1_3 => some (.x0)
 | hd :: rest, i, v1_3 => cond (hd.toList == v1_0.toList)
  (some (.ret false))
  (cond (decide ((i : Int) > (0 : Int)))
   ((aI v1_4 (IntKind.wrap .i64 ((i : Int) - (1 : Int)))).bind fun g1 => cond (Op.bytesLess hd.toList g1.toList || hd.toList == g1.toList)
    (some (.ret false))
    (fN v1_0 v1_4 rest (i + 1) v1_3))
   (fN v1_0 v1_4 rest (i + 1) v1_3))
theorem DQ (v1_0 v1_1 : ByteArray) (v1_2 : Int) (v1_4 v28 : List ByteArray) (rest : List ByteArray) : ∀ (i : Nat) (v1_3 : Bool), (v28).drop i = rest → v28.length ≤ 9223372036854775807 → Ans (fN v1_0 v1_4 rest i v1_3) (DR v1_0 v1_1 v1_2 v1_3 v1_4 v28 (v28.length : Int) (i : Int)) := by
 induction rest with
 | nil =>
  intro i v1_3 hE hl
  have hb := bh hE
  unfold fN
  exact K5 (K7 (show lf (eW v1_0 v1_1 v1_2 v1_3 v1_4 v28 (v28.length : Int) (i : Int)) (.exit 0) (ov) from K3 [.b false] _ (fun k => by kernel_rfl) (AC hb <| AN)) (by intro h; cases h))
 | cons hd rest ih =>
  intro i v1_3 hE hl
  have hb := aS hE
  have hw := aT hE hl
  have hE2 := aG hE
  have hg := aX hE
  unfold fN
  refine K8 (fun h2 => ?_) (fun h2 => ?_)
  ·exact K5 (K7 (show lf (eW v1_0 v1_1 v1_2 v1_3 v1_4 v28 (v28.length : Int) (i : Int)) .ret (kz false) from K3 [.b true, .row (etS hd), .b true] _ (fun k => by kernel_rfl) (AC hb <| AR etS hg <| AC h2 <| AN)) (by intro h; cases h))
  ·refine K8 (fun h3 => ?_) (fun h3 => ?_)
   ·refine K9 (fun g1 h4 => ?_)
    refine K8 (fun h5 => ?_) (fun h5 => ?_)
    ·exact K5 (K7 (show lf (eW v1_0 v1_1 v1_2 v1_3 v1_4 v28 (v28.length : Int) (i : Int)) .ret (kz false) from K3 [.b true, .row (etS hd), .b false, .b true, .row (etS g1), .b true] _ (fun k => by kernel_rfl) (AC hb <| AR etS hg <| AC h2 <| AC h3 <| AR etS h4 <| AC h5 <| AN)) (by intro h; cases h))
    ·exact (ih (i + 1) v1_3 hE2 hl).mono fun y hy => by have r : lf (eW v1_0 v1_1 v1_2 v1_3 v1_4 v28 (v28.length : Int) (i : Int)) .normal (eW v1_0 v1_1 v1_2 v1_3 v1_4 v28 (v28.length : Int) (inc (i : Int))) := K3 [.b true, .row (etS hd), .b false, .b true, .row (etS g1), .b false] _ (fun k => by kernel_rfl) (AC hb <| AR etS hg <| AC h2 <| AC h3 <| AR etS h4 <| AC h5 <| AN); rw [hw] at r; cases y <;> exact K6 r hy
   ·exact (ih (i + 1) v1_3 hE2 hl).mono fun y hy => by have r : lf (eW v1_0 v1_1 v1_2 v1_3 v1_4 v28 (v28.length : Int) (i : Int)) .normal (eW v1_0 v1_1 v1_2 v1_3 v1_4 v28 (v28.length : Int) (inc (i : Int))) := K3 [.b true, .row (etS hd), .b false, .b false] _ (fun k => by kernel_rfl) (AC hb <| AR etS hg <| AC h2 <| AC h3 <| AN); rw [hw] at r; cases y <;> exact K6 r hy
noncomputable def oY (x0 : GTask) : Option (Bool) :=
  if x0.f0.size ≤ 2000000 then cond (dK x0.f0)
   (cond ((bP x0.f1) == (0 : Int))
    (some (false))
    (cond (aH x0.f2 (0 : Int) (3 : Int))
     (cond (decide ((x0.f4.length : Int) > (4 : Int)))
      (some (false))
      (if x0.f4.length ≤ 9223372036854775807 then (fN x0.f0 x0.f4 x0.f4 0 x0.f3).bind fun y => match y with
       | .ret w0_2 => (some (w0_2))
       | .x0 => (some (true)) else none))
     (some (false))))
   (some (false)) else none
theorem FR (x0 : GTask) : Ans (oY x0) (fun r => Does E 47 [.agg (GTask.t .far x0)] [(false, [tB r])]) := by
 unfold oY
 refine La (fun h0 => ?_)
 refine K8 (fun h1 => ?_) (fun h1 => ?_)
 ·refine K8 (fun h2 => ?_) (fun h2 => ?_)
  ·exact K5 (K4 (fn := Tryz.f47) [rT, .ret [(false, [tI (bP x0.f1)])], .b true] _ rfl (fun _ => rfl) (fun k => by kernel_rfl) (AD (Ld (cT x0.f0 h0) h1) <| AD (jJ x0.f1) <| AC h2 <| AN))
  ·refine K8 (fun h3 => ?_) (fun h3 => ?_)
   ·refine K8 (fun h4 => ?_) (fun h4 => ?_)
    ·exact K5 (K4 (fn := Tryz.f47) [rT, .ret [(false, [tI (bP x0.f1)])], .b false, rT, .val (.int .i64 (x0.f4.length : Int)), .b true] _ rfl (fun _ => rfl) (fun k => by kernel_rfl) (AD (Ld (cT x0.f0 h0) h1) <| AD (jJ x0.f1) <| AC h2 <| AD (Ld (cM x0.f2 (0 : Int) (3 : Int)) h3) <| ALn x0.f4 etS <| AC h4 <| AN))
    ·refine La (fun hl5 => ?_)
     refine K9 (fun y hy => ?_)
     replace hy := DQ x0.f0 x0.f1 x0.f2 x0.f4 x0.f4 x0.f4 0 x0.f3 rfl hl5 y hy
     cases y with
     | ret w0_2 =>
      have h5 := hy
      exact K5 (K4 (fn := Tryz.f47) [rT, .ret [(false, [tI (bP x0.f1)])], .b false, rT, .val (.int .i64 (x0.f4.length : Int)), .b false, .val (.int .i64 (x0.f4.length : Int)), .lp .ret (kz w0_2)] _ rfl (fun _ => rfl) (fun k => by kernel_rfl) (AD (Ld (cT x0.f0 h0) h1) <| AD (jJ x0.f1) <| AC h2 <| AD (Ld (cM x0.f2 (0 : Int) (3 : Int)) h3) <| ALn x0.f4 etS <| AC h4 <| ALn x0.f4 etS <| AL h5 <| AN))
     | x0 =>
      have h5 := hy
      exact K5 (K4 (fn := Tryz.f47) [rT, .ret [(false, [tI (bP x0.f1)])], .b false, rT, .val (.int .i64 (x0.f4.length : Int)), .b false, .val (.int .i64 (x0.f4.length : Int)), .lp (.exit 0) (ov)] _ rfl (fun _ => rfl) (fun k => by kernel_rfl) (AD (Ld (cT x0.f0 h0) h1) <| AD (jJ x0.f1) <| AC h2 <| AD (Ld (cM x0.f2 (0 : Int) (3 : Int)) h3) <| ALn x0.f4 etS <| AC h4 <| ALn x0.f4 etS <| AL h5 <| AN))
   ·exact K5 (K4 (fn := Tryz.f47) [rT, .ret [(false, [tI (bP x0.f1)])], .b false, rF] _ rfl (fun _ => rfl) (fun k => by kernel_rfl) (AD (Ld (cT x0.f0 h0) h1) <| AD (jJ x0.f1) <| AC h2 <| AD (Ld (cM x0.f2 (0 : Int) (3 : Int)) h3) <| AN))
 ·exact K5 (K4 (fn := Tryz.f47) [rF] _ rfl (fun _ => rfl) (fun k => by kernel_rfl) (AD (Ld (cT x0.f0 h0) h1) <| AN))
inductive uZ where
 | ret (v4 : Bool)
 | x0 
def bE (q0 : Kd) (v0 : List GTask) (v5_0 v5_1 : ByteArray) (v5_2 : Int) (v5_3 : Bool) (v5_4 : List ByteArray) (v6 : Int) : US := stL 78 [(0, .one (.s .far () 5 (v0.map (GTask.t q0)))), (5, .box () [tS v5_0, tS v5_1, tI v5_2, tB v5_3, .s .far () 1 (v5_4.map etS)]), (6, .one (tI v6))]
def dA (q0 : Kd) (zv4 : Bool) : US := stL 78 [(4, .one (tB zv4))]
def kO (q0 : Kd)  : US := stL 78 []
abbrev cJ : US → Exit → US → Prop := Round E 58 (ax Tryz.f58 0)
def CW {q0 : Kd} (v0 : List GTask) (v5_0 v5_1 : ByteArray) (v5_2 : Int) (v5_3 : Bool) (v5_4 : List ByteArray) (v6 : Int) : uZ → Prop
 | .ret zv4 => Loops E 58 (ax Tryz.f58 0) (bE q0 v0 v5_0 v5_1 v5_2 v5_3 v5_4 v6) .ret (dA q0 zv4)
 | .x0 => Loops E 58 (ax Tryz.f58 0) (bE q0 v0 v5_0 v5_1 v5_2 v5_3 v5_4 v6) (.exit 0) (kO q0)
theorem yW {q0 : Kd} (v0 : List GTask) (v5_0 v5_1 : ByteArray) (v5_2 : Int) (v5_3 : Bool) (v5_4 : List ByteArray) (v6 : Int) (g0 : ByteArray) (h0 : (decide (v6 < (v5_4.length : Int))) = true) (h1 : aI v5_4 v6 = some g0) (h2 : v0.length ≤ 1050000) (h3 : (decide ((av v0 g0) < (0 : Int))) = true) : cJ (bE q0 v0 v5_0 v5_1 v5_2 v5_3 v5_4 v6) .ret (dA q0 false) :=
 K3 [.val (.int .i64 (v5_4.length : Int)), .b true, .row (etS g0), .ret [(false, [tI (av v0 g0)])], .b true] _ (fun k => by kernel_rfl) (ALn v5_4 etS <| AC h0 <| AR etS h1 <| AV (ψ := fun k => E.C k 63 [.one (.s .far () 5 (v0.map (GTask.t q0))), .one (tS g0)] = some [(false, [tI (av v0 g0)])]) (e9 v0 g0 h2) <| AC h3 <| AN)
theorem yX {q0 : Kd} (v0 : List GTask) (v5_0 v5_1 : ByteArray) (v5_2 : Int) (v5_3 : Bool) (v5_4 : List ByteArray) (v6 : Int) (g0 : ByteArray) (h0 : (decide (v6 < (v5_4.length : Int))) = true) (h1 : aI v5_4 v6 = some g0) (h2 : v0.length ≤ 1050000) (h3 : (decide ((av v0 g0) < (0 : Int))) = false) (h4 : (g0.toList == v5_0.toList) = true) : cJ (bE q0 v0 v5_0 v5_1 v5_2 v5_3 v5_4 v6) .ret (dA q0 false) :=
 K3 [.val (.int .i64 (v5_4.length : Int)), .b true, .row (etS g0), .ret [(false, [tI (av v0 g0)])], .b false, .row (etS g0), .b true] _ (fun k => by kernel_rfl) (ALn v5_4 etS <| AC h0 <| AR etS h1 <| AV (ψ := fun k => E.C k 63 [.one (.s .far () 5 (v0.map (GTask.t q0))), .one (tS g0)] = some [(false, [tI (av v0 g0)])]) (e9 v0 g0 h2) <| AC h3 <| AR etS h1 <| AC h4 <| AN)
theorem yY {q0 : Kd} (v0 : List GTask) (v5_0 v5_1 : ByteArray) (v5_2 : Int) (v5_3 : Bool) (v5_4 : List ByteArray) (v6 : Int) (g0 g1 : ByteArray) (h0 : (decide (v6 < (v5_4.length : Int))) = true) (h1 : aI v5_4 v6 = some g0) (h2 : v0.length ≤ 1050000) (h3 : (decide ((av v0 g0) < (0 : Int))) = false) (h4 : (g0.toList == v5_0.toList) = false) (h5 : (decide (v6 > (0 : Int))) = true) (h6 : aI v5_4 (IntKind.wrap .i64 (v6 - (1 : Int))) = some g1) (h7 : (!Op.bytesLess g1.toList g0.toList) = true) : cJ (bE q0 v0 v5_0 v5_1 v5_2 v5_3 v5_4 v6) .ret (dA q0 false) :=
 K3 [.val (.int .i64 (v5_4.length : Int)), .b true, .row (etS g0), .ret [(false, [tI (av v0 g0)])], .b false, .row (etS g0), .b false, .b true, .row (etS g1), .row (etS g0), .b true] _ (fun k => by kernel_rfl) (ALn v5_4 etS <| AC h0 <| AR etS h1 <| AV (ψ := fun k => E.C k 63 [.one (.s .far () 5 (v0.map (GTask.t q0))), .one (tS g0)] = some [(false, [tI (av v0 g0)])]) (e9 v0 g0 h2) <| AC h3 <| AR etS h1 <| AC h4 <| AC h5 <| AR etS h6 <| AR etS h1 <| AC h7 <| AN)
theorem yZ {q0 : Kd} (v0 : List GTask) (v5_0 v5_1 : ByteArray) (v5_2 : Int) (v5_3 : Bool) (v5_4 : List ByteArray) (v6 : Int) (g0 g1 : ByteArray) (h0 : (decide (v6 < (v5_4.length : Int))) = true) (h1 : aI v5_4 v6 = some g0) (h2 : v0.length ≤ 1050000) (h3 : (decide ((av v0 g0) < (0 : Int))) = false) (h4 : (g0.toList == v5_0.toList) = false) (h5 : (decide (v6 > (0 : Int))) = true) (h6 : aI v5_4 (IntKind.wrap .i64 (v6 - (1 : Int))) = some g1) (h7 : (!Op.bytesLess g1.toList g0.toList) = false) : cJ (bE q0 v0 v5_0 v5_1 v5_2 v5_3 v5_4 v6) .normal (bE q0 v0 v5_0 v5_1 v5_2 v5_3 v5_4 (inc v6)) :=
 K3 [.val (.int .i64 (v5_4.length : Int)), .b true, .row (etS g0), .ret [(false, [tI (av v0 g0)])], .b false, .row (etS g0), .b false, .b true, .row (etS g1), .row (etS g0), .b false] _ (fun k => by kernel_rfl) (ALn v5_4 etS <| AC h0 <| AR etS h1 <| AV (ψ := fun k => E.C k 63 [.one (.s .far () 5 (v0.map (GTask.t q0))), .one (tS g0)] = some [(false, [tI (av v0 g0)])]) (e9 v0 g0 h2) <| AC h3 <| AR etS h1 <| AC h4 <| AC h5 <| AR etS h6 <| AR etS h1 <| AC h7 <| AN)
theorem y3 {q0 : Kd} (v0 : List GTask) (v5_0 v5_1 : ByteArray) (v5_2 : Int) (v5_3 : Bool) (v5_4 : List ByteArray) (v6 : Int) (g0 : ByteArray) (h0 : (decide (v6 < (v5_4.length : Int))) = true) (h1 : aI v5_4 v6 = some g0) (h2 : v0.length ≤ 1050000) (h3 : (decide ((av v0 g0) < (0 : Int))) = false) (h4 : (g0.toList == v5_0.toList) = false) (h5 : (decide (v6 > (0 : Int))) = false) : cJ (bE q0 v0 v5_0 v5_1 v5_2 v5_3 v5_4 v6) .normal (bE q0 v0 v5_0 v5_1 v5_2 v5_3 v5_4 (inc v6)) :=
 K3 [.val (.int .i64 (v5_4.length : Int)), .b true, .row (etS g0), .ret [(false, [tI (av v0 g0)])], .b false, .row (etS g0), .b false, .b false] _ (fun k => by kernel_rfl) (ALn v5_4 etS <| AC h0 <| AR etS h1 <| AV (ψ := fun k => E.C k 63 [.one (.s .far () 5 (v0.map (GTask.t q0))), .one (tS g0)] = some [(false, [tI (av v0 g0)])]) (e9 v0 g0 h2) <| AC h3 <| AR etS h1 <| AC h4 <| AC h5 <| AN)
theorem y4 {q0 : Kd} (v0 : List GTask) (v5_0 v5_1 : ByteArray) (v5_2 : Int) (v5_3 : Bool) (v5_4 : List ByteArray) (v6 : Int) (h0 : (decide (v6 < (v5_4.length : Int))) = false) : cJ (bE q0 v0 v5_0 v5_1 v5_2 v5_3 v5_4 v6) (.exit 0) (kO q0) :=
 K3 [.val (.int .i64 (v5_4.length : Int)), .b false] _ (fun k => by kernel_rfl) (ALn v5_4 etS <| AC h0 <| AN)
noncomputable def fk (v0 : List GTask) (v5_0 : ByteArray) (v5_4 : List ByteArray) : List ByteArray → Nat → Bool → Option uZ
 | [], i, v5_3 => some (.x0)
 | hd :: rest, i, v5_3 => if v0.length ≤ 1050000 then cond (decide ((av v0 hd) < (0 : Int)))
  (some (.ret false))
  (cond (hd.toList == v5_0.toList)
   (some (.ret false))
   (cond (decide ((i : Int) > (0 : Int)))
    ((aI v5_4 (IntKind.wrap .i64 ((i : Int) - (1 : Int)))).bind fun g1 => cond (!Op.bytesLess g1.toList hd.toList)
     (some (.ret false))
     (fk v0 v5_0 v5_4 rest (i + 1) v5_3))
    (fk v0 v5_0 v5_4 rest (i + 1) v5_3))) else none
theorem CV {q0 : Kd} (v0 : List GTask) (v5_0 v5_1 : ByteArray) (v5_2 : Int) (v5_4 : List ByteArray) (rest : List ByteArray) : ∀ (i : Nat) (v5_3 : Bool), (v5_4).drop i = rest → v5_4.length ≤ 9223372036854775807 → Ans (fk v0 v5_0 v5_4 rest i v5_3) (CW (q0 := q0) v0 v5_0 v5_1 v5_2 v5_3 v5_4 (i : Int)) := by
 induction rest with
 | nil =>
  intro i v5_3 hE hl
  have hb := bh hE
  unfold fk
  exact K5 (K7 (show cJ (bE q0 v0 v5_0 v5_1 v5_2 v5_3 v5_4 (i : Int)) (.exit 0) (kO q0) from y4 (q0 := q0) v0 v5_0 v5_1 v5_2 v5_3 v5_4 (i : Int) hb) (by intro h; cases h))
 | cons hd rest ih =>
  intro i v5_3 hE hl
  have hb := aS hE
  have hw := aT hE hl
  have hE2 := aG hE
  have hg := aX hE
  unfold fk
  refine La (fun h2 => ?_)
  refine K8 (fun h3 => ?_) (fun h3 => ?_)
  ·exact K5 (K7 (show cJ (bE q0 v0 v5_0 v5_1 v5_2 v5_3 v5_4 (i : Int)) .ret (dA q0 false) from yW (q0 := q0) v0 v5_0 v5_1 v5_2 v5_3 v5_4 (i : Int) hd hb hg h2 h3) (by intro h; cases h))
  ·refine K8 (fun h4 => ?_) (fun h4 => ?_)
   ·exact K5 (K7 (show cJ (bE q0 v0 v5_0 v5_1 v5_2 v5_3 v5_4 (i : Int)) .ret (dA q0 false) from yX (q0 := q0) v0 v5_0 v5_1 v5_2 v5_3 v5_4 (i : Int) hd hb hg h2 h3 h4) (by intro h; cases h))
   ·refine K8 (fun h5 => ?_) (fun h5 => ?_)
    ·refine K9 (fun g1 h6 => ?_)
     refine K8 (fun h7 => ?_) (fun h7 => ?_)
     ·exact K5 (K7 (show cJ (bE q0 v0 v5_0 v5_1 v5_2 v5_3 v5_4 (i : Int)) .ret (dA q0 false) from yY (q0 := q0) v0 v5_0 v5_1 v5_2 v5_3 v5_4 (i : Int) hd g1 hb hg h2 h3 h4 h5 h6 h7) (by intro h; cases h))
     ·exact (ih (i + 1) v5_3 hE2 hl).mono fun y hy => by have r : cJ (bE q0 v0 v5_0 v5_1 v5_2 v5_3 v5_4 (i : Int)) .normal (bE q0 v0 v5_0 v5_1 v5_2 v5_3 v5_4 (inc (i : Int))) := yZ (q0 := q0) v0 v5_0 v5_1 v5_2 v5_3 v5_4 (i : Int) hd g1 hb hg h2 h3 h4 h5 h6 h7; rw [hw] at r; cases y <;> exact K6 r hy
    ·exact (ih (i + 1) v5_3 hE2 hl).mono fun y hy => by have r : cJ (bE q0 v0 v5_0 v5_1 v5_2 v5_3 v5_4 (i : Int)) .normal (bE q0 v0 v5_0 v5_1 v5_2 v5_3 v5_4 (inc (i : Int))) := y3 (q0 := q0) v0 v5_0 v5_1 v5_2 v5_3 v5_4 (i : Int) hd hb hg h2 h3 h4 h5; rw [hw] at r; cases y <;> exact K6 r hy
noncomputable def nV (x0 : List GTask) (x1 : Int) : Option (Bool) :=
  (aI x0 x1).bind fun g0 => if g0.f0.size ≤ 2000000 then cond (dK g0.f0)
   (if x0.length ≤ 1050000 then cond ((av x0 g0.f0) != x1)
    (some (false))
    (cond ((bP g0.f1) == (0 : Int))
     (some (false))
     (cond (aH g0.f2 (0 : Int) (3 : Int))
      (if g0.f4.length ≤ 9223372036854775807 then (fk x0 g0.f0 g0.f4 g0.f4 0 g0.f3).bind fun y => match y with
       | .ret w0_4 => (some (w0_4))
       | .x0 => (some (true)) else none)
      (some (false)))) else none)
   (some (false)) else none
theorem El {q0 : Kd} (x0 : List GTask) (x1 : Int) : Ans (nV x0 x1) (fun r => Does E 58 [.one (.s .far () 5 (x0.map (GTask.t q0))), .one (tI x1)] [(false, [tB r])]) := by
 unfold nV
 refine K9 (fun g0 h0 => ?_)
 refine La (fun h1 => ?_)
 refine K8 (fun h2 => ?_) (fun h2 => ?_)
 ·refine La (fun h3 => ?_)
  refine K8 (fun h4 => ?_) (fun h4 => ?_)
  ·exact K5 (K4 (fn := Tryz.f58) [.row ((GTask.t q0) g0), rT, .ret [(false, [tI (av x0 g0.f0)])], .b true] _ rfl (fun _ => rfl) (fun k => by kernel_rfl) (AR (GTask.t q0) h0 <| AD (Ld (cz g0.f0 h1) h2) <| AV (ψ := fun k => E.C k 63 [.one (.s .far () 5 (x0.map (GTask.t q0))), .one (tS g0.f0)] = some [(false, [tI (av x0 g0.f0)])]) (e9 x0 g0.f0 h3) <| AC h4 <| AN))
  ·refine K8 (fun h5 => ?_) (fun h5 => ?_)
   ·exact K5 (K4 (fn := Tryz.f58) [.row ((GTask.t q0) g0), rT, .ret [(false, [tI (av x0 g0.f0)])], .b false, .ret [(false, [tI (bP g0.f1)])], .b true] _ rfl (fun _ => rfl) (fun k => by kernel_rfl) (AR (GTask.t q0) h0 <| AD (Ld (cz g0.f0 h1) h2) <| AV (ψ := fun k => E.C k 63 [.one (.s .far () 5 (x0.map (GTask.t q0))), .one (tS g0.f0)] = some [(false, [tI (av x0 g0.f0)])]) (e9 x0 g0.f0 h3) <| AC h4 <| AD (mf g0.f1) <| AC h5 <| AN))
   ·refine K8 (fun h6 => ?_) (fun h6 => ?_)
    ·refine La (fun hl5 => ?_)
     refine K9 (fun y hy => ?_)
     replace hy := CV (q0 := q0) x0 g0.f0 g0.f1 g0.f2 g0.f4 g0.f4 0 g0.f3 rfl hl5 y hy
     cases y with
     | ret w0_4 =>
      have h7 := hy
      exact K5 (K4 (fn := Tryz.f58) [.row ((GTask.t q0) g0), rT, .ret [(false, [tI (av x0 g0.f0)])], .b false, .ret [(false, [tI (bP g0.f1)])], .b false, rT, .lp .ret (dA q0 w0_4)] _ rfl (fun _ => rfl) (fun k => by kernel_rfl) (AR (GTask.t q0) h0 <| AD (Ld (cz g0.f0 h1) h2) <| AV (ψ := fun k => E.C k 63 [.one (.s .far () 5 (x0.map (GTask.t q0))), .one (tS g0.f0)] = some [(false, [tI (av x0 g0.f0)])]) (e9 x0 g0.f0 h3) <| AC h4 <| AD (mf g0.f1) <| AC h5 <| AD (Ld (bq g0.f2 (0 : Int) (3 : Int)) h6) <| AL h7 <| AN))
     | x0 =>
      have h7 := hy
      exact K5 (K4 (fn := Tryz.f58) [.row ((GTask.t q0) g0), rT, .ret [(false, [tI (av x0 g0.f0)])], .b false, .ret [(false, [tI (bP g0.f1)])], .b false, rT, .lp (.exit 0) (kO q0)] _ rfl (fun _ => rfl) (fun k => by kernel_rfl) (AR (GTask.t q0) h0 <| AD (Ld (cz g0.f0 h1) h2) <| AV (ψ := fun k => E.C k 63 [.one (.s .far () 5 (x0.map (GTask.t q0))), .one (tS g0.f0)] = some [(false, [tI (av x0 g0.f0)])]) (e9 x0 g0.f0 h3) <| AC h4 <| AD (mf g0.f1) <| AC h5 <| AD (Ld (bq g0.f2 (0 : Int) (3 : Int)) h6) <| AL h7 <| AN))
    ·exact K5 (K4 (fn := Tryz.f58) [.row ((GTask.t q0) g0), rT, .ret [(false, [tI (av x0 g0.f0)])], .b false, .ret [(false, [tI (bP g0.f1)])], .b false, rF] _ rfl (fun _ => rfl) (fun k => by kernel_rfl) (AR (GTask.t q0) h0 <| AD (Ld (cz g0.f0 h1) h2) <| AV (ψ := fun k => E.C k 63 [.one (.s .far () 5 (x0.map (GTask.t q0))), .one (tS g0.f0)] = some [(false, [tI (av x0 g0.f0)])]) (e9 x0 g0.f0 h3) <| AC h4 <| AD (mf g0.f1) <| AC h5 <| AD (Ld (bq g0.f2 (0 : Int) (3 : Int)) h6) <| AN))
 ·exact K5 (K4 (fn := Tryz.f58) [.row ((GTask.t q0) g0), rF] _ rfl (fun _ => rfl) (fun k => by kernel_rfl) (AR (GTask.t q0) h0 <| AD (Ld (cz g0.f0 h1) h2) <| AN))
def asc (self : ByteArray) : List ByteArray → Option ByteArray → Bool
 | [], _ => true
 | x :: l, p => !(x.toList == self.toList) && (match p with | some y => Op.bytesLess y.toList x.toList | none => true) && asc self l (some x)
theorem B9 : ∀ a b : List UInt8, (Op.bytesLess a b || a == b) = !Op.bytesLess b a
 | [], [] => rfl
 | [], _ :: _ => rfl
 | _ :: _, [] => rfl
 | x :: a, y :: b => by
  have ih := B9 a b
  unfold Op.bytesLess
  have e : (x :: a == y :: b) = (x == y && a == b) := rfl
  rw [e]
  rcases Nat.lt_trichotomy x.toNat y.toNat with h | h | h
  ·have h1 : x < y := UInt8.lt_iff_toNat_lt.2 h
   have h2 : ¬ y < x := fun q => by have := UInt8.lt_iff_toNat_lt.1 q; omega
   have h3 : (y == x) = false := by rw [beq_eq_false_iff_ne]; intro q; subst q; omega
   simp [h1, h2, h3]
  ·have h0 : x = y := UInt8.toNat_inj.1 h
   subst h0
   have h2 : ¬ x < x := fun q => by have := UInt8.lt_iff_toNat_lt.1 q; omega
   simp only [h2, decide_false, Bool.false_or, beq_self_eq_true, Bool.true_and]
   exact ih
  ·have h1 : y < x := UInt8.lt_iff_toNat_lt.2 h
   have h2 : ¬ x < y := fun q => by have := UInt8.lt_iff_toNat_lt.1 q; omega
   have h3 : (x == y) = false := by rw [beq_eq_false_iff_ne]; intro q; subst q; omega
   simp [h1, h2, h3]
theorem vG : ∀ a : List UInt8, Op.bytesLess a a = false
 | [] => rfl
 | x :: a => by
  unfold Op.bytesLess
  have h2 : ¬ x < x := fun q => by have := UInt8.lt_iff_toNat_lt.1 q; omega
  simp [h2, vG a]
theorem xy : ∀ {a b c : List UInt8}, Op.bytesLess a b = true → Op.bytesLess b c = true → Op.bytesLess a c = true
 | [], [], _, h, _ => by cases h
 | [], _ :: _, [], _, h => by cases h
 | [], _ :: _, _ :: _, _, _ => rfl
 | _ :: _, [], _, h, _ => by cases h
 | _ :: _, _ :: _, [], _, h => by cases h
 | x :: a, y :: b, z :: c, h1, h2 => by
  unfold Op.bytesLess at *
  simp only [Bool.or_eq_true, decide_eq_true_eq, Bool.and_eq_true, beq_iff_eq, UInt8.lt_iff_toNat_lt] at *
  rcases h1 with h1 | ⟨rfl, h1⟩
  ·rcases h2 with h2 | ⟨rfl, h2⟩
   ·exact .inl (by omega)
   ·exact .inl h1
  ·rcases h2 with h2 | ⟨rfl, h2⟩
   ·exact .inl h2
   ·exact .inr ⟨rfl, xy h1 h2⟩
theorem qg (self : ByteArray) : ∀ (l : List ByteArray) (p : Option ByteArray), asc self l p = true → (l.map tx).Nodup ∧ ∀ y, p = some y → ∀ x ∈ l, Op.bytesLess (tx y) (tx x) = true
 | [], p, _ => ⟨by simp, fun y _ x hx => by cases hx⟩
 | z :: l, p, h => by
  unfold asc at h
  simp only [Bool.and_eq_true] at h
  obtain ⟨h1, h2⟩ := qg self l (some z) h.2
  have h3 := h2 z rfl
  refine ⟨?_, fun y e x hx => ?_⟩
  ·rw [List.map_cons, List.nodup_cons]
   refine ⟨fun q => ?_, h1⟩
   obtain ⟨w, hw, e⟩ := List.mem_map.1 q
   have := h3 w hw
   rw [e, vG] at this
   cases this
  ·subst e
   have h4 : Op.bytesLess (tx y) (tx z) = true := by have := h.1.2; simp only [x9] at this; exact this
   rcases List.mem_cons.1 hx with rfl | hx
   ·exact h4
   ·exact xy h4 (h3 x hx)
theorem E0 {α : Type} [DecidableEq α] : ∀ {l m : List α}, l.Nodup → (∀ x ∈ l, x ∈ m) → l.length ≤ m.length
 | [], _, _, _ => Nat.zero_le _
 | x :: l, m, h, hm => by
  rw [List.nodup_cons] at h
  have hx := hm x (by simp)
  have := E0 (l := l) (m := m.erase x) h.2 fun y hy => (List.mem_erase_of_ne (fun e => h.1 (by rw [← e]; exact hy))).2 (hm y (by simp [hy]))
  rw [List.length_erase_of_mem hx] at this
  have : 0 < m.length := List.length_pos_of_mem hx
  simp only [List.length_cons]
  omega
theorem IK (self : ByteArray) (aU : List ByteArray) (hl : aU.length ≤ 1050000) : ∀ (rest : List ByteArray) (i : Nat) (z : Bool), aU.drop i = rest → fN self aU rest i z = some (cond (asc self rest (if i = 0 then none else aU[i - 1]?)) .x0 (.ret false))
 | [], i, z, _ => rfl
 | x :: rest, i, z, h => by
  have ih := IK self aU hl rest (i + 1) z (aG h)
  have hp : (if i + 1 = 0 then none else aU[i + 1 - 1]?) = some x := by
   rw [if_neg (by omega)]
   show aU[i]? = some x
   rw [← List.head?_drop, h]; rfl
  rw [hp] at ih
  unfold fN asc
  rw [ih]
  cases x.toList == self.toList with
  | true => rfl
  | false =>
   rw [cond_false]
   by_cases q : i = 0
   ·subst q
    rw [decide_eq_false (by omega), if_pos rfl, cond_false]; rfl
   ·have hi : i - 1 < aU.length := by
     rcases Nat.lt_or_ge i aU.length with g | g
     ·omega
     ·rw [List.drop_eq_nil_of_le g] at h; cases h
    have hi2 : i ≤ aU.length := by
     rcases Nat.lt_or_ge i aU.length with g | g
     ·omega
     ·rw [List.drop_eq_nil_of_le g] at h; cases h
    have hy : aU[i - 1]? = some aU[i - 1] := List.getElem?_eq_getElem hi
    have hg : aI aU (IntKind.wrap .i64 ((i : Int) - 1)) = some aU[i - 1] := by
     rw [cP _ (by omega) (by omega), show ((i : Int) - 1) = ((i - 1 : Nat) : Int) by omega, eR, hy]
    rw [decide_eq_true (by omega), if_neg q, cond_true, hg, Option.bind_some, hy, B9]
    simp only [Bool.not_false, Bool.true_and]
    cases Op.bytesLess aU[i - 1].toList x.toList <;> rfl
theorem IL (ts : List GTask) (ht : ts.length ≤ 1050000) (self : ByteArray) (aU : List ByteArray) (hl : aU.length ≤ 1050000) : ∀ (rest : List ByteArray) (i : Nat) (z : Bool), aU.drop i = rest → fk ts self aU rest i z = some (cond (asc self rest (if i = 0 then none else aU[i - 1]?) && rest.all fun n => decide (0 ≤ av ts n)) .x0 (.ret false))
 | [], i, z, _ => rfl
 | x :: rest, i, z, h => by
  have ih := IL ts ht self aU hl rest (i + 1) z (aG h)
  have hp : (if i + 1 = 0 then none else aU[i + 1 - 1]?) = some x := by
   rw [if_neg (by omega)]
   show aU[i]? = some x
   rw [← List.head?_drop, h]; rfl
  rw [hp] at ih
  unfold fk asc
  rw [ih, if_pos ht, List.all_cons]
  by_cases w : av ts x < 0
  ·rw [decide_eq_true w, decide_eq_false (by omega : ¬ 0 ≤ av ts x), Bool.false_and, Bool.and_false]; rfl
  ·rw [decide_eq_false w, decide_eq_true (by omega : 0 ≤ av ts x), Bool.true_and, cond_false]
   cases x.toList == self.toList with
   | true => rfl
   | false =>
    rw [cond_false]
    by_cases q : i = 0
    ·subst q
     rw [decide_eq_false (by omega), if_pos rfl, cond_false]; rfl
    ·have hi : i - 1 < aU.length := by
      rcases Nat.lt_or_ge i aU.length with g | g
      ·omega
      ·rw [List.drop_eq_nil_of_le g] at h; cases h
     have hi2 : i ≤ aU.length := by
      rcases Nat.lt_or_ge i aU.length with g | g
      ·omega
      ·rw [List.drop_eq_nil_of_le g] at h; cases h
     have hy : aU[i - 1]? = some aU[i - 1] := List.getElem?_eq_getElem hi
     have hg : aI aU (IntKind.wrap .i64 ((i : Int) - 1)) = some aU[i - 1] := by
      rw [cP _ (by omega) (by omega), show ((i : Int) - 1) = ((i - 1 : Nat) : Int) by omega, eR, hy]
     rw [decide_eq_true (by omega), if_neg q, cond_true, hg, Option.bind_some, hy]
     simp only [Bool.not_false, Bool.true_and]
     cases Op.bytesLess aU[i - 1].toList x.toList <;> rfl
noncomputable def oi (t : GTask) : Bool := dK t.f0 && ((bP t.f1 != 0) && (aH t.f2 0 3 && (decide (t.f4.length ≤ 4) && asc t.f0 t.f4 none)))
noncomputable def ia (ts : List GTask) (i : Int) (t : GTask) : Bool := dK t.f0 && ((av ts t.f0 == i) && ((bP t.f1 != 0) && (aH t.f2 0 3 && (asc t.f0 t.f4 none && t.f4.all fun n => decide (0 ≤ av ts n)))))
noncomputable def mc (ts : List GTask) (i : Int) : Bool := match aI ts i with | some t => ia ts i t | none => false
theorem EZ {t : GTask} (h : ao.sm t) : t.f0.size ≤ 2000000 := by
 have : t.f0.size ≤ 1050000 := h.1
 omega
theorem IF (t : GTask) (h : ao.sm t) : oY t = some (oi t) := by
 have h4 : t.f4.length ≤ 1050000 := h.2.2.1
 unfold oY oi
 rw [if_pos (EZ h)]
 cases dK t.f0 with
 | false => rfl
 | true =>
  have e : (bP t.f1 != 0) = !(bP t.f1 == 0) := rfl
  rw [cond_true, Bool.true_and, e]
  cases bP t.f1 == 0 with
  | true => rfl
  | false =>
   rw [cond_false, Bool.not_false, Bool.true_and]
   cases aH t.f2 0 3 with
   | false => rfl
   | true =>
    rw [cond_true, Bool.true_and]
    by_cases q : t.f4.length ≤ 4
    ·rw [decide_eq_false (by omega), cond_false, decide_eq_true q, if_pos (by omega), IK t.f0 t.f4 h4 t.f4 0 t.f3 rfl, if_pos rfl, Bool.true_and]
     cases asc t.f0 t.f4 none <;> rfl
    ·rw [decide_eq_true (by omega), decide_eq_false q]; rfl
theorem Et (ts : List GTask) (i : Int) (h : ao.sm ts) (hi : 0 ≤ i ∧ i < (ts.length : Int)) : nV ts i = some (mc ts i) := by
 obtain ⟨t, hg, hm⟩ := l4 hi
 have ht := h.2 t hm
 have h4 : t.f4.length ≤ 1050000 := ht.2.2.1
 unfold nV mc ia
 rw [hg, Option.bind_some, if_pos (EZ ht)]
 simp only
 cases dK t.f0 with
 | false => rfl
 | true =>
  have e1 : (av ts t.f0 != i) = !(av ts t.f0 == i) := rfl
  have e : (bP t.f1 != 0) = !(bP t.f1 == 0) := rfl
  rw [cond_true, Bool.true_and, if_pos h.1, e1, e]
  cases av ts t.f0 == i with
  | false => rfl
  | true =>
   rw [Bool.not_true, cond_false, Bool.true_and]
   cases bP t.f1 == 0 with
   | true => rfl
   | false =>
    rw [cond_false, Bool.not_false, Bool.true_and]
    cases aH t.f2 0 3 with
    | false => rfl
    | true =>
     rw [cond_true, Bool.true_and, if_pos (by omega), IL ts h.1 t.f0 t.f4 h4 t.f4 0 t.f3 rfl, if_pos rfl]
     cases (asc t.f0 t.f4 none && t.f4.all fun n => decide (0 ≤ av ts n)) <;> rfl
theorem xT (ts : List GTask) (h4 : ts.length ≤ 4) (i : Int) (t : GTask) : ia ts i t = (oi t && ((av ts t.f0 == i) && t.f4.all fun n => decide (0 ≤ av ts n))) := by
 unfold ia oi
 by_cases q : asc t.f0 t.f4 none = true ∧ (t.f4.all fun n => decide (0 ≤ av ts n)) = true
 ·have hl : t.f4.length ≤ 4 := by
   have := E0 (l := t.f4.map tx) (m := ts.map fun u => tx u.f0) (qg t.f0 t.f4 none q.1).1 (fun x hx => by
    obtain ⟨n, hn, rfl⟩ := List.mem_map.1 hx
    have := List.all_eq_true.1 q.2 n hn
    obtain ⟨u, hu, e⟩ := Es (of_decide_eq_true this)
    exact List.mem_map.2 ⟨u, hu, e⟩)
   simp only [List.length_map] at this
   omega
  rw [decide_eq_true hl, q.1, q.2]
  cases dK t.f0 <;> cases av ts t.f0 == i <;> cases bP t.f1 != 0 <;> cases aH t.f2 0 3 <;> rfl
 ·have hf : (asc t.f0 t.f4 none && t.f4.all fun n => decide (0 ≤ av ts n)) = false := by
   rw [← Bool.not_eq_true, Bool.and_eq_true]; exact q
  rw [hf]
  revert hf
  generalize (t.f4.all fun n => decide (0 ≤ av ts n)) = B
  generalize asc t.f0 t.f4 none = A
  generalize decide (t.f4.length ≤ 4) = C
  intro hf
  cases A <;> cases B <;> simp at hf <;> cases dK t.f0 <;> cases av ts t.f0 == i <;> cases bP t.f1 != 0 <;> cases aH t.f2 0 3 <;> cases C <;> rfl
theorem oP (x0 : GTask) (h : ao.sm x0) : Does E 47 [.agg (GTask.t .far x0)] [(false, [tB (oi x0)])] := by
 exact FR x0 _ (IF x0 h)
theorem vn {q0 : Kd} (x0 : List GTask) (x1 : Int) (h : ao.sm x0) (hi : 0 ≤ x1 ∧ x1 < (x0.length : Int)) : Does E 58 [.one (.s .far () 5 (x0.map (GTask.t q0))), .one (tI x1)] [(false, [tB (mc x0 x1)])] := by
 exact El x0 x1 _ (Et x0 x1 h hi)
noncomputable def oV (x0 : ByteArray) : Option (Bool) :=
  cond ((aw x0).2)
   (if ao.sm ((aw x0).1) then some (((bg ((aw x0).1)).1).toList == x0.toList) else none)
   (if ao.sm ((aw x0).1) then some (false) else none)
theorem FL (x0 : ByteArray) : Ans (oV x0) (fun r => Does E 45 [.one (tS x0)] [(false, [tB r])]) := by
 unfold oV
 refine K8 (fun h0 => ?_) (fun h0 => ?_)
 ·refine La (fun h1 => ?_)
  exact K5 (K4 (fn := Tryz.f45) [.ret [(true, GCron.t .own ((aw x0).1)), (false, [tB true])], .ret [(false, [tS ((bg ((aw x0).1)).1)]), (false, [tB ((bg ((aw x0).1)).2)])]] _ rfl (fun _ => rfl) (fun k => by kernel_rfl) (AD (qd x0 h0) <| AD (tF ((aw x0).1) h1) <| AN))
 ·refine La (fun h1 => ?_)
  exact K5 (K4 (fn := Tryz.f45) [.ret [(true, GCron.t .own ((aw x0).1)), (false, [tB false])], .ret [(false, [tS ((bg ((aw x0).1)).1)]), (false, [tB ((bg ((aw x0).1)).2)])]] _ rfl (fun _ => rfl) (fun k => by kernel_rfl) (AD (qd x0 h0) <| AD (tF ((aw x0).1) h1) <| AN))
noncomputable def iN (s : ByteArray) : Bool := (aw s).2 && ((bg (aw s).1).1.toList == s.toList)
theorem H0 (s : ByteArray) : oV s = some (iN s) := by
 unfold oV iN
 simp only [Cl s, if_true]
 cases (aw s).2 <;> rfl
theorem iL (x0 : ByteArray) : Does E 45 [.one (tS x0)] [(false, [tB (iN x0)])] := by
 exact FL x0 _ (H0 x0)
inductive xK where
 | ret (v2 : Bool)
 | x0 
def kF (q0 : Kd) (v1_0 v1_1 : ByteArray) (v1_2 v1_3 : Int) (v1_4 : Bool) (v1_5 : List GTask) (v7 : Int) : US := stL 74 [(1, .box () [tS v1_0, tS v1_1, tI v1_2, tI v1_3, tB v1_4, .s .far () 5 (v1_5.map (GTask.t q0))]), (7, .one (tI v7))]
def oF (q0 : Kd) (zv2 : Bool) : US := stL 74 [(2, .one (tB zv2))]
def pS (q0 : Kd) (v1_0 v1_1 : ByteArray) (v1_2 v1_3 : Int) (v1_4 : Bool) (v1_5 : List GTask) : US := stL 74 [(1, .box () [tS v1_0, tS v1_1, tI v1_2, tI v1_3, tB v1_4, .s .far () 5 (v1_5.map (GTask.t q0))])]
abbrev sJ : US → Exit → US → Prop := Round E 32 (ax Tryz.f32 0)
def F9 {q0 : Kd} (v1_0 v1_1 : ByteArray) (v1_2 v1_3 : Int) (v1_4 : Bool) (v1_5 : List GTask) (v7 : Int) : xK → Prop
 | .ret zv2 => Loops E 32 (ax Tryz.f32 0) (kF q0 v1_0 v1_1 v1_2 v1_3 v1_4 v1_5 v7) .ret (oF q0 zv2)
 | .x0 => Loops E 32 (ax Tryz.f32 0) (kF q0 v1_0 v1_1 v1_2 v1_3 v1_4 v1_5 v7) (.exit 0) (pS q0 v1_0 v1_1 v1_2 v1_3 v1_4 v1_5)
noncomputable def iX (v1_5 : List GTask) : List GTask → Nat → Bool → Option xK
 | [], i, v1_4 => some (.x0)
 | hd :: rest, i, v1_4 => if ao.sm v1_5 then if 0 ≤ (i : Int) ∧ (i : Int) < (v1_5.length : Int) then cond (mc v1_5 (i : Int))
  (iX v1_5 rest (i + 1) v1_4)
  (some (.ret false)) else none else none
theorem F8 {q0 : Kd} (v1_0 v1_1 : ByteArray) (v1_2 v1_3 : Int) (v1_5 : List GTask) (rest : List GTask) : ∀ (i : Nat) (v1_4 : Bool), (v1_5).drop i = rest → v1_5.length ≤ 9223372036854775807 → Ans (iX v1_5 rest i v1_4) (F9 (q0 := q0) v1_0 v1_1 v1_2 v1_3 v1_4 v1_5 (i : Int)) := by
 induction rest with
 | nil =>
  intro i v1_4 hE hl
  have hb := bh hE
  unfold iX
  exact K5 (K7 (show sJ (kF q0 v1_0 v1_1 v1_2 v1_3 v1_4 v1_5 (i : Int)) (.exit 0) (pS q0 v1_0 v1_1 v1_2 v1_3 v1_4 v1_5) from K3 [.val (.int .i64 (v1_5.length : Int)), .b false] _ (fun k => by kernel_rfl) (ALn v1_5 (GTask.t q0) <| AC hb <| AN)) (by intro h; cases h))
 | cons hd rest ih =>
  intro i v1_4 hE hl
  have hb := aS hE
  have hw := aT hE hl
  have hE2 := aG hE
  have hg := aX hE
  unfold iX
  refine La (fun h1 => ?_)
  refine La (fun h2 => ?_)
  refine K8 (fun h3 => ?_) (fun h3 => ?_)
  ·exact (ih (i + 1) v1_4 hE2 hl).mono fun y hy => by have r : sJ (kF q0 v1_0 v1_1 v1_2 v1_3 v1_4 v1_5 (i : Int)) .normal (kF q0 v1_0 v1_1 v1_2 v1_3 v1_4 v1_5 (inc (i : Int))) := K3 [.val (.int .i64 (v1_5.length : Int)), .b true, rT] _ (fun k => by kernel_rfl) (ALn v1_5 (GTask.t q0) <| AC hb <| AV (ψ := fun k => E.C k 58 [.one (.s .far () 5 (v1_5.map (GTask.t q0))), .one (tI (i : Int))] = some [(false, [tB true])]) (Lb (vn v1_5 (i : Int) h1 h2) (by rw [h3])) <| AN); rw [hw] at r; cases y <;> exact K6 r hy
  ·exact K5 (K7 (show sJ (kF q0 v1_0 v1_1 v1_2 v1_3 v1_4 v1_5 (i : Int)) .ret (oF q0 false) from K3 [.val (.int .i64 (v1_5.length : Int)), .b true, rF] _ (fun k => by kernel_rfl) (ALn v1_5 (GTask.t q0) <| AC hb <| AV (ψ := fun k => E.C k 58 [.one (.s .far () 5 (v1_5.map (GTask.t q0))), .one (tI (i : Int))] = some [(false, [tB false])]) (Lb (vn v1_5 (i : Int) h1 h2) (by rw [h3])) <| AN)) (by intro h; cases h))
noncomputable def qw (x0 : GDag) : Option (Bool) :=
  cond ((aw x0.f1).2)
   (if ao.sm ((aw x0.f1).1) then if x0.f0.size ≤ 2000000 then cond (dK x0.f0)
    (cond (!(((bg ((aw x0.f1).1)).1).toList == x0.f1.toList))
     (some (false))
     (cond (aH x0.f3 (0 : Int) (68374079 : Int))
      (cond (aH x0.f2 (0 : Int) x0.f3)
       (cond (aH (x0.f5.length : Int) (1 : Int) (4 : Int))
        (if x0.f5.length ≤ 9223372036854775807 then (iX x0.f5 x0.f5 0 x0.f4).bind fun y => match y with
         | .ret w0_2 => (some (w0_2))
         | .x0 => (if ao.sm x0.f5 then if co x0.f5 then some (((cy x0.f5).length : Int) == (x0.f5.length : Int)) else none else none) else none)
        (some (false)))
       (some (false)))
      (some (false))))
    (some (false)) else none else none)
   (if ao.sm ((aw x0.f1).1) then if x0.f0.size ≤ 2000000 then cond (dK x0.f0)
    (some (false))
    (some (false)) else none else none)
theorem Hy {q0 : Kd} (x0 : GDag) : Ans (qw x0) (fun r => Does E 32 [.agg (GDag.t .far q0 x0)] [(false, [tB r])]) := by
 unfold qw
 refine K8 (fun f1 => ?_) (fun f1 => ?_)
 ·refine La (fun f2 => ?_)
  refine La (fun f3 => ?_)
  refine K8 (fun f4 => ?_) (fun f4 => ?_)
  ·refine K8 (fun h4 => ?_) (fun h4 => ?_)
   ·exact K5 (K4 (fn := Tryz.f32) [.ret [(true, GCron.t .own ((aw x0.f1).1)), (false, [tB true])], .ret [(false, [tS ((bg ((aw x0.f1).1)).1)]), (false, [tB ((bg ((aw x0.f1).1)).2)])], rT, .b true] _ rfl (fun _ => rfl) (fun k => by kernel_rfl) (AD (en x0.f1 f1) <| AD (ep ((aw x0.f1).1) f2) <| AD (Ld (cz x0.f0 f3) f4) <| AC h4 <| AN))
   ·refine K8 (fun h5 => ?_) (fun h5 => ?_)
    ·refine K8 (fun h6 => ?_) (fun h6 => ?_)
     ·refine K8 (fun h7 => ?_) (fun h7 => ?_)
      ·refine La (fun hl7 => ?_)
       refine K9 (fun y hy => ?_)
       replace hy := F8 (q0 := q0) x0.f0 x0.f1 x0.f2 x0.f3 x0.f5 x0.f5 0 x0.f4 rfl hl7 y hy
       cases y with
       | ret w0_2 =>
        have h8 := hy
        exact K5 (K4 (fn := Tryz.f32) [.ret [(true, GCron.t .own ((aw x0.f1).1)), (false, [tB true])], .ret [(false, [tS ((bg ((aw x0.f1).1)).1)]), (false, [tB ((bg ((aw x0.f1).1)).2)])], rT, .b false, rT, rT, .val (.int .i64 (x0.f5.length : Int)), rT, .lp .ret (oF q0 w0_2)] _ rfl (fun _ => rfl) (fun k => by kernel_rfl) (AD (en x0.f1 f1) <| AD (ep ((aw x0.f1).1) f2) <| AD (Ld (cz x0.f0 f3) f4) <| AC h4 <| AD (Ld (bq x0.f3 (0 : Int) (68374079 : Int)) h5) <| AD (Ld (bq x0.f2 (0 : Int) x0.f3) h6) <| ALn x0.f5 (GTask.t q0) <| AD (Ld (bq (x0.f5.length : Int) (1 : Int) (4 : Int)) h7) <| AL h8 <| AN))
       | x0 =>
        have h8 := hy
        refine La (fun h9 => ?_)
        refine La (fun h10 => ?_)
        exact K5 (K4 (fn := Tryz.f32) [.ret [(true, GCron.t .own ((aw x0.f1).1)), (false, [tB true])], .ret [(false, [tS ((bg ((aw x0.f1).1)).1)]), (false, [tB ((bg ((aw x0.f1).1)).2)])], rT, .b false, rT, rT, .val (.int .i64 (x0.f5.length : Int)), rT, .lp (.exit 0) (pS q0 x0.f0 x0.f1 x0.f2 x0.f3 x0.f4 x0.f5), .ret [(false, [.s .own () 1 ((cy x0.f5).map etI)])], .val (.int .i64 ((cy x0.f5).length : Int)), .val (.int .i64 (x0.f5.length : Int))] _ rfl (fun _ => rfl) (fun k => by kernel_rfl) (AD (en x0.f1 f1) <| AD (ep ((aw x0.f1).1) f2) <| AD (Ld (cz x0.f0 f3) f4) <| AC h4 <| AD (Ld (bq x0.f3 (0 : Int) (68374079 : Int)) h5) <| AD (Ld (bq x0.f2 (0 : Int) x0.f3) h6) <| ALn x0.f5 (GTask.t q0) <| AD (Ld (bq (x0.f5.length : Int) (1 : Int) (4 : Int)) h7) <| AL h8 <| AV (ψ := fun k => E.C k 37 [.one (.s .far () 5 (x0.f5.map (GTask.t q0)))] = some [(false, [.s .own () 1 ((cy x0.f5).map etI)])]) (pp x0.f5 h9 h10) <| ALn (cy x0.f5) etI <| ALn x0.f5 (GTask.t q0) <| AN))
      ·exact K5 (K4 (fn := Tryz.f32) [.ret [(true, GCron.t .own ((aw x0.f1).1)), (false, [tB true])], .ret [(false, [tS ((bg ((aw x0.f1).1)).1)]), (false, [tB ((bg ((aw x0.f1).1)).2)])], rT, .b false, rT, rT, .val (.int .i64 (x0.f5.length : Int)), rF] _ rfl (fun _ => rfl) (fun k => by kernel_rfl) (AD (en x0.f1 f1) <| AD (ep ((aw x0.f1).1) f2) <| AD (Ld (cz x0.f0 f3) f4) <| AC h4 <| AD (Ld (bq x0.f3 (0 : Int) (68374079 : Int)) h5) <| AD (Ld (bq x0.f2 (0 : Int) x0.f3) h6) <| ALn x0.f5 (GTask.t q0) <| AD (Ld (bq (x0.f5.length : Int) (1 : Int) (4 : Int)) h7) <| AN))
     ·exact K5 (K4 (fn := Tryz.f32) [.ret [(true, GCron.t .own ((aw x0.f1).1)), (false, [tB true])], .ret [(false, [tS ((bg ((aw x0.f1).1)).1)]), (false, [tB ((bg ((aw x0.f1).1)).2)])], rT, .b false, rT, rF] _ rfl (fun _ => rfl) (fun k => by kernel_rfl) (AD (en x0.f1 f1) <| AD (ep ((aw x0.f1).1) f2) <| AD (Ld (cz x0.f0 f3) f4) <| AC h4 <| AD (Ld (bq x0.f3 (0 : Int) (68374079 : Int)) h5) <| AD (Ld (bq x0.f2 (0 : Int) x0.f3) h6) <| AN))
    ·exact K5 (K4 (fn := Tryz.f32) [.ret [(true, GCron.t .own ((aw x0.f1).1)), (false, [tB true])], .ret [(false, [tS ((bg ((aw x0.f1).1)).1)]), (false, [tB ((bg ((aw x0.f1).1)).2)])], rT, .b false, rF] _ rfl (fun _ => rfl) (fun k => by kernel_rfl) (AD (en x0.f1 f1) <| AD (ep ((aw x0.f1).1) f2) <| AD (Ld (cz x0.f0 f3) f4) <| AC h4 <| AD (Ld (bq x0.f3 (0 : Int) (68374079 : Int)) h5) <| AN))
  ·exact K5 (K4 (fn := Tryz.f32) [.ret [(true, GCron.t .own ((aw x0.f1).1)), (false, [tB ((aw x0.f1).2)])], .ret [(false, [tS ((bg ((aw x0.f1).1)).1)]), (false, [tB ((bg ((aw x0.f1).1)).2)])], rF] _ rfl (fun _ => rfl) (fun k => by kernel_rfl) (AD (ol x0.f1) <| AD (ep ((aw x0.f1).1) f2) <| AD (Ld (cz x0.f0 f3) f4) <| AN))
 ·refine La (fun f5 => ?_)
  refine La (fun f6 => ?_)
  refine K8 (fun f7 => ?_) (fun f7 => ?_)
  ·exact K5 (K4 (fn := Tryz.f32) [.ret [(true, GCron.t .own ((aw x0.f1).1)), (false, [tB false])], .ret [(false, [tS ((bg ((aw x0.f1).1)).1)]), (false, [tB ((bg ((aw x0.f1).1)).2)])], rT] _ rfl (fun _ => rfl) (fun k => by kernel_rfl) (AD (en x0.f1 f1) <| AD (ep ((aw x0.f1).1) f5) <| AD (Ld (cz x0.f0 f6) f7) <| AN))
  ·exact K5 (K4 (fn := Tryz.f32) [.ret [(true, GCron.t .own ((aw x0.f1).1)), (false, [tB ((aw x0.f1).2)])], .ret [(false, [tS ((bg ((aw x0.f1).1)).1)]), (false, [tB ((bg ((aw x0.f1).1)).2)])], rF] _ rfl (fun _ => rfl) (fun k => by kernel_rfl) (AD (ol x0.f1) <| AD (ep ((aw x0.f1).1) f5) <| AD (Ld (cz x0.f0 f6) f7) <| AN))
inductive xi where
 | ret (v2 : Bool)
 | x2 
def kr (q0 : Kd) (v1_0 v1_1 : ByteArray) (v1_2 v1_3 : Int) (v1_4 : Bool) (v1_5 v40 : List GTask) (v41 v42 : Int) (v59 : List ByteArray) (v60 v61 : Int) : US := stL 78 [(1, .box () [tS v1_0, tS v1_1, tI v1_2, tI v1_3, tB v1_4, .s .far () 5 (v1_5.map (GTask.t q0))]), (40, .one (.s .far () 5 (v40.map (GTask.t q0)))), (41, .one (tI v41)), (42, .one (tI v42)), (59, .one (.s .far () 1 (v59.map etS))), (60, .one (tI v60)), (61, .one (tI v61))]
def oq (q0 : Kd) (zv2 : Bool) : US := stL 78 [(2, .one (tB zv2))]
def pD (q0 : Kd) (v1_0 v1_1 : ByteArray) (v1_2 v1_3 : Int) (v1_4 : Bool) (v1_5 v40 : List GTask) (v41 v42 : Int) : US := stL 78 [(1, .box () [tS v1_0, tS v1_1, tI v1_2, tI v1_3, tB v1_4, .s .far () 5 (v1_5.map (GTask.t q0))]), (40, .one (.s .far () 5 (v40.map (GTask.t q0)))), (41, .one (tI v41)), (42, .one (tI v42))]
abbrev sa : US → Exit → US → Prop := Round E 28 (ax Tryz.f28 1)
def FH {q0 : Kd} (v1_0 v1_1 : ByteArray) (v1_2 v1_3 : Int) (v1_4 : Bool) (v1_5 v40 : List GTask) (v41 v42 : Int) (v59 : List ByteArray) (v60 v61 : Int) : xi → Prop
 | .ret zv2 => Loops E 28 (ax Tryz.f28 1) (kr q0 v1_0 v1_1 v1_2 v1_3 v1_4 v1_5 v40 v41 v42 v59 v60 v61) .ret (oq q0 zv2)
 | .x2 => Loops E 28 (ax Tryz.f28 1) (kr q0 v1_0 v1_1 v1_2 v1_3 v1_4 v1_5 v40 v41 v42 v59 v60 v61) (.exit 2) (pD q0 v1_0 v1_1 v1_2 v1_3 v1_4 v1_5 v40 v41 v42)
noncomputable def iP (v1_0 v1_1 : ByteArray) (v1_2 v1_3 : Int) (v1_5 : List GTask) : List ByteArray → Nat → Bool → Option xi
 | [], i, v1_4 => some (.x2)
 | hd :: rest, i, v1_4 => if (GDag.mk v1_0 v1_1 v1_2 v1_3 v1_4 v1_5).f5.length ≤ 1050000 then cond (decide ((bF (GDag.mk v1_0 v1_1 v1_2 v1_3 v1_4 v1_5) hd) < (0 : Int)))
  (some (.ret false))
  (iP v1_0 v1_1 v1_2 v1_3 v1_5 rest (i + 1) v1_4) else none
theorem FF {q0 : Kd} (v1_0 v1_1 : ByteArray) (v1_2 v1_3 : Int) (v1_5 v40 : List GTask) (v41 v42 : Int) (v59 : List ByteArray) (rest : List ByteArray) : ∀ (i : Nat) (v1_4 : Bool), (v59).drop i = rest → v59.length ≤ 9223372036854775807 → Ans (iP v1_0 v1_1 v1_2 v1_3 v1_5 rest i v1_4) (FH (q0 := q0) v1_0 v1_1 v1_2 v1_3 v1_4 v1_5 v40 v41 v42 v59 (v59.length : Int) (i : Int)) := by
 induction rest with
 | nil =>
  intro i v1_4 hE hl
  have hb := bh hE
  unfold iP
  exact K5 (K7 (show sa (kr q0 v1_0 v1_1 v1_2 v1_3 v1_4 v1_5 v40 v41 v42 v59 (v59.length : Int) (i : Int)) (.exit 2) (pD q0 v1_0 v1_1 v1_2 v1_3 v1_4 v1_5 v40 v41 v42) from K3 [.b false] _ (fun k => by kernel_rfl) (AC hb <| AN)) (by intro h; cases h))
 | cons hd rest ih =>
  intro i v1_4 hE hl
  have hb := aS hE
  have hw := aT hE hl
  have hE2 := aG hE
  have hg := aX hE
  unfold iP
  refine La (fun h2 => ?_)
  refine K8 (fun h3 => ?_) (fun h3 => ?_)
  ·exact K5 (K7 (show sa (kr q0 v1_0 v1_1 v1_2 v1_3 v1_4 v1_5 v40 v41 v42 v59 (v59.length : Int) (i : Int)) .ret (oq q0 false) from K3 [.b true, .row (etS hd), .ret [(false, [tI (bF (GDag.mk v1_0 v1_1 v1_2 v1_3 v1_4 v1_5) hd)])], .b true] _ (fun k => by kernel_rfl) (AC hb <| AR etS hg <| AV (ψ := fun k => E.C k 48 [.agg (GDag.t .far q0 (GDag.mk v1_0 v1_1 v1_2 v1_3 v1_4 v1_5)), .one (tS hd)] = some [(false, [tI (bF (GDag.mk v1_0 v1_1 v1_2 v1_3 v1_4 v1_5) hd)])]) (eU (GDag.mk v1_0 v1_1 v1_2 v1_3 v1_4 v1_5) hd h2) <| AC h3 <| AN)) (by intro h; cases h))
  ·exact (ih (i + 1) v1_4 hE2 hl).mono fun y hy => by have r : sa (kr q0 v1_0 v1_1 v1_2 v1_3 v1_4 v1_5 v40 v41 v42 v59 (v59.length : Int) (i : Int)) .normal (kr q0 v1_0 v1_1 v1_2 v1_3 v1_4 v1_5 v40 v41 v42 v59 (v59.length : Int) (inc (i : Int))) := K3 [.b true, .row (etS hd), .ret [(false, [tI (bF (GDag.mk v1_0 v1_1 v1_2 v1_3 v1_4 v1_5) hd)])], .b false] _ (fun k => by kernel_rfl) (AC hb <| AR etS hg <| AV (ψ := fun k => E.C k 48 [.agg (GDag.t .far q0 (GDag.mk v1_0 v1_1 v1_2 v1_3 v1_4 v1_5)), .one (tS hd)] = some [(false, [tI (bF (GDag.mk v1_0 v1_1 v1_2 v1_3 v1_4 v1_5) hd)])]) (eU (GDag.mk v1_0 v1_1 v1_2 v1_3 v1_4 v1_5) hd h2) <| AC h3 <| AN); rw [hw] at r; cases y <;> exact K6 r hy
inductive xh where
 | ret (v2 : Bool)
 | x0 
def gJ (q0 : Kd) (v1_0 v1_1 : ByteArray) (v1_2 v1_3 : Int) (v1_4 : Bool) (v1_5 v40 : List GTask) (v41 v42 : Int) : US := stL 78 [(1, .box () [tS v1_0, tS v1_1, tI v1_2, tI v1_3, tB v1_4, .s .far () 5 (v1_5.map (GTask.t q0))]), (40, .one (.s .far () 5 (v40.map (GTask.t q0)))), (41, .one (tI v41)), (42, .one (tI v42))]
def jd (q0 : Kd) (zv2 : Bool) : US := stL 78 [(2, .one (tB zv2))]
def pC (q0 : Kd) (v1_0 v1_1 : ByteArray) (v1_2 v1_3 : Int) (v1_4 : Bool) (v1_5 : List GTask) : US := stL 78 [(1, .box () [tS v1_0, tS v1_1, tI v1_2, tI v1_3, tB v1_4, .s .far () 5 (v1_5.map (GTask.t q0))])]
abbrev mt : US → Exit → US → Prop := Round E 28 (ax Tryz.f28 0)
def FG {q0 : Kd} (v1_0 v1_1 : ByteArray) (v1_2 v1_3 : Int) (v1_4 : Bool) (v1_5 v40 : List GTask) (v41 v42 : Int) : xh → Prop
 | .ret zv2 => Loops E 28 (ax Tryz.f28 0) (gJ q0 v1_0 v1_1 v1_2 v1_3 v1_4 v1_5 v40 v41 v42) .ret (jd q0 zv2)
 | .x0 => Loops E 28 (ax Tryz.f28 0) (gJ q0 v1_0 v1_1 v1_2 v1_3 v1_4 v1_5 v40 v41 v42) (.exit 0) (pC q0 v1_0 v1_1 v1_2 v1_3 v1_4 v1_5)
noncomputable def iO (v1_0 v1_1 : ByteArray) (v1_2 v1_3 : Int) (v1_5 : List GTask) : List GTask → Nat → Bool → Option xh
 | [], i, v1_4 => some (.x0)
 | hd :: rest, i, v1_4 => if ao.sm hd then cond (oi hd)
  (if (GDag.mk v1_0 v1_1 v1_2 v1_3 v1_4 v1_5).f5.length ≤ 1050000 then cond ((bF (GDag.mk v1_0 v1_1 v1_2 v1_3 v1_4 v1_5) hd.f0) != (i : Int))
   (some (.ret false))
   (if hd.f4.length ≤ 9223372036854775807 then (iP v1_0 v1_1 v1_2 v1_3 v1_5 hd.f4 0 v1_4).bind fun y => match y with
    | .ret w0_2 => (some (.ret w0_2))
    | .x2 => (iO v1_0 v1_1 v1_2 v1_3 v1_5 rest (i + 1) v1_4) else none) else none)
  (some (.ret false)) else none
theorem FE {q0 : Kd} (v1_0 v1_1 : ByteArray) (v1_2 v1_3 : Int) (v1_5 v40 : List GTask) (rest : List GTask) : ∀ (i : Nat) (v1_4 : Bool), (v40).drop i = rest → v40.length ≤ 9223372036854775807 → Ans (iO v1_0 v1_1 v1_2 v1_3 v1_5 rest i v1_4) (FG (q0 := q0) v1_0 v1_1 v1_2 v1_3 v1_4 v1_5 v40 (v40.length : Int) (i : Int)) := by
 induction rest with
 | nil =>
  intro i v1_4 hE hl
  have hb := bh hE
  unfold iO
  exact K5 (K7 (show mt (gJ q0 v1_0 v1_1 v1_2 v1_3 v1_4 v1_5 v40 (v40.length : Int) (i : Int)) (.exit 0) (pC q0 v1_0 v1_1 v1_2 v1_3 v1_4 v1_5) from K3 [.b false] _ (fun k => by kernel_rfl) (AC hb <| AN)) (by intro h; cases h))
 | cons hd rest ih =>
  intro i v1_4 hE hl
  have hb := aS hE
  have hw := aT hE hl
  have hE2 := aG hE
  have hg := aX hE
  unfold iO
  refine La (fun h2 => ?_)
  refine K8 (fun h3 => ?_) (fun h3 => ?_)
  ·refine La (fun h4 => ?_)
   refine K8 (fun h5 => ?_) (fun h5 => ?_)
   ·exact K5 (K7 (show mt (gJ q0 v1_0 v1_1 v1_2 v1_3 v1_4 v1_5 v40 (v40.length : Int) (i : Int)) .ret (jd q0 false) from K3 [.b true, .row ((GTask.t q0) hd), rT, .ret [(false, [tI (bF (GDag.mk v1_0 v1_1 v1_2 v1_3 v1_4 v1_5) hd.f0)])], .b true] _ (fun k => by kernel_rfl) (AC hb <| AR (GTask.t q0) hg <| AD (Ld (oP hd h2) h3) <| AV (ψ := fun k => E.C k 48 [.agg (GDag.t .far q0 (GDag.mk v1_0 v1_1 v1_2 v1_3 v1_4 v1_5)), .one (tS hd.f0)] = some [(false, [tI (bF (GDag.mk v1_0 v1_1 v1_2 v1_3 v1_4 v1_5) hd.f0)])]) (eU (GDag.mk v1_0 v1_1 v1_2 v1_3 v1_4 v1_5) hd.f0 h4) <| AC h5 <| AN)) (by intro h; cases h))
   ·refine La (fun hl4 => ?_)
    refine K9 (fun y hy => ?_)
    replace hy := FF (q0 := q0) v1_0 v1_1 v1_2 v1_3 v1_5 v40 (v40.length : Int) (i : Int) hd.f4 hd.f4 0 v1_4 rfl hl4 y hy
    cases y with
    | ret w0_2 =>
     have h6 := hy
     exact K5 (K7 (show mt (gJ q0 v1_0 v1_1 v1_2 v1_3 v1_4 v1_5 v40 (v40.length : Int) (i : Int)) .ret (jd q0 w0_2) from K3 [.b true, .row ((GTask.t q0) hd), rT, .ret [(false, [tI (bF (GDag.mk v1_0 v1_1 v1_2 v1_3 v1_4 v1_5) hd.f0)])], .b false, .val (.int .i64 (hd.f4.length : Int)), .lp .ret (oq q0 w0_2)] _ (fun k => by kernel_rfl) (AC hb <| AR (GTask.t q0) hg <| AD (Ld (oP hd h2) h3) <| AV (ψ := fun k => E.C k 48 [.agg (GDag.t .far q0 (GDag.mk v1_0 v1_1 v1_2 v1_3 v1_4 v1_5)), .one (tS hd.f0)] = some [(false, [tI (bF (GDag.mk v1_0 v1_1 v1_2 v1_3 v1_4 v1_5) hd.f0)])]) (eU (GDag.mk v1_0 v1_1 v1_2 v1_3 v1_4 v1_5) hd.f0 h4) <| AC h5 <| ALn hd.f4 etS <| AL h6 <| AN)) (by intro h; cases h))
    | x2 =>
     have h6 := hy
     exact (ih (i + 1) v1_4 hE2 hl).mono fun y hy => by have r : mt (gJ q0 v1_0 v1_1 v1_2 v1_3 v1_4 v1_5 v40 (v40.length : Int) (i : Int)) .normal (gJ q0 v1_0 v1_1 v1_2 v1_3 v1_4 v1_5 v40 (v40.length : Int) (inc (i : Int))) := K3 [.b true, .row ((GTask.t q0) hd), rT, .ret [(false, [tI (bF (GDag.mk v1_0 v1_1 v1_2 v1_3 v1_4 v1_5) hd.f0)])], .b false, .val (.int .i64 (hd.f4.length : Int)), .lp (.exit 2) (pD q0 v1_0 v1_1 v1_2 v1_3 v1_4 v1_5 v40 (v40.length : Int) (i : Int))] _ (fun k => by kernel_rfl) (AC hb <| AR (GTask.t q0) hg <| AD (Ld (oP hd h2) h3) <| AV (ψ := fun k => E.C k 48 [.agg (GDag.t .far q0 (GDag.mk v1_0 v1_1 v1_2 v1_3 v1_4 v1_5)), .one (tS hd.f0)] = some [(false, [tI (bF (GDag.mk v1_0 v1_1 v1_2 v1_3 v1_4 v1_5) hd.f0)])]) (eU (GDag.mk v1_0 v1_1 v1_2 v1_3 v1_4 v1_5) hd.f0 h4) <| AC h5 <| ALn hd.f4 etS <| AL h6 <| AN); rw [hw] at r; cases y <;> exact K6 r hy
  ·exact K5 (K7 (show mt (gJ q0 v1_0 v1_1 v1_2 v1_3 v1_4 v1_5 v40 (v40.length : Int) (i : Int)) .ret (jd q0 false) from K3 [.b true, .row ((GTask.t q0) hd), rF] _ (fun k => by kernel_rfl) (AC hb <| AR (GTask.t q0) hg <| AD (Ld (oP hd h2) h3) <| AN)) (by intro h; cases h))
noncomputable def ql (x0 : GDag) : Option (Bool) :=
  if x0.f0.size ≤ 2000000 then cond (dK x0.f0)
   (cond (iN x0.f1)
    (cond (decide (x0.f2 < (0 : Int)))
     (some (false))
     (cond (decide (x0.f2 > x0.f3))
      (some (false))
      (cond (decide (x0.f3 > (68374079 : Int)))
       (some (false))
       (cond (aH (x0.f5.length : Int) (1 : Int) (4 : Int))
        (if x0.f5.length ≤ 9223372036854775807 then (iO x0.f0 x0.f1 x0.f2 x0.f3 x0.f5 x0.f5 0 x0.f4).bind fun y => match y with
         | .ret w0_2 => (some (w0_2))
         | .x0 => (if ao.sm x0 then if co x0.f5 then some (((dk x0).length : Int) == (x0.f5.length : Int)) else none else none) else none)
        (some (false))))))
    (some (false)))
   (some (false)) else none
theorem GW {q0 : Kd} (x0 : GDag) : Ans (ql x0) (fun r => Does E 28 [.agg (GDag.t .far q0 x0)] [(false, [tB r])]) := by
 unfold ql
 refine La (fun h0 => ?_)
 refine K8 (fun h1 => ?_) (fun h1 => ?_)
 ·refine K8 (fun h2 => ?_) (fun h2 => ?_)
  ·refine K8 (fun h3 => ?_) (fun h3 => ?_)
   ·exact K5 (K4 (fn := Tryz.f28) [rT, rT, .b true] _ rfl (fun _ => rfl) (fun k => by kernel_rfl) (AD (Ld (cT x0.f0 h0) h1) <| AD (Ld (iL x0.f1) h2) <| AC h3 <| AN))
   ·refine K8 (fun h4 => ?_) (fun h4 => ?_)
    ·exact K5 (K4 (fn := Tryz.f28) [rT, rT, .b false, .b true] _ rfl (fun _ => rfl) (fun k => by kernel_rfl) (AD (Ld (cT x0.f0 h0) h1) <| AD (Ld (iL x0.f1) h2) <| AC h3 <| AC h4 <| AN))
    ·refine K8 (fun h5 => ?_) (fun h5 => ?_)
     ·exact K5 (K4 (fn := Tryz.f28) [rT, rT, .b false, .b false, .b true] _ rfl (fun _ => rfl) (fun k => by kernel_rfl) (AD (Ld (cT x0.f0 h0) h1) <| AD (Ld (iL x0.f1) h2) <| AC h3 <| AC h4 <| AC h5 <| AN))
     ·refine K8 (fun h6 => ?_) (fun h6 => ?_)
      ·refine La (fun hl7 => ?_)
       refine K9 (fun y hy => ?_)
       replace hy := FE (q0 := q0) x0.f0 x0.f1 x0.f2 x0.f3 x0.f5 x0.f5 x0.f5 0 x0.f4 rfl hl7 y hy
       cases y with
       | ret w0_2 =>
        have h7 := hy
        exact K5 (K4 (fn := Tryz.f28) [rT, rT, .b false, .b false, .b false, .val (.int .i64 (x0.f5.length : Int)), rT, .val (.int .i64 (x0.f5.length : Int)), .lp .ret (jd q0 w0_2)] _ rfl (fun _ => rfl) (fun k => by kernel_rfl) (AD (Ld (cT x0.f0 h0) h1) <| AD (Ld (iL x0.f1) h2) <| AC h3 <| AC h4 <| AC h5 <| ALn x0.f5 (GTask.t q0) <| AD (Ld (cM (x0.f5.length : Int) (1 : Int) (4 : Int)) h6) <| ALn x0.f5 (GTask.t q0) <| AL h7 <| AN))
       | x0 =>
        have h7 := hy
        refine La (fun h8 => ?_)
        refine La (fun h9 => ?_)
        exact K5 (K4 (fn := Tryz.f28) [rT, rT, .b false, .b false, .b false, .val (.int .i64 (x0.f5.length : Int)), rT, .val (.int .i64 (x0.f5.length : Int)), .lp (.exit 0) (pC q0 x0.f0 x0.f1 x0.f2 x0.f3 x0.f4 x0.f5), .ret [(false, [.s .own () 1 ((dk x0).map etI)])], .val (.int .i64 ((dk x0).length : Int)), .val (.int .i64 (x0.f5.length : Int))] _ rfl (fun _ => rfl) (fun k => by kernel_rfl) (AD (Ld (cT x0.f0 h0) h1) <| AD (Ld (iL x0.f1) h2) <| AC h3 <| AC h4 <| AC h5 <| ALn x0.f5 (GTask.t q0) <| AD (Ld (cM (x0.f5.length : Int) (1 : Int) (4 : Int)) h6) <| ALn x0.f5 (GTask.t q0) <| AL h7 <| AV (ψ := fun k => E.C k 29 [.agg (GDag.t .far q0 x0)] = some [(false, [.s .own () 1 ((dk x0).map etI)])]) (qC x0 h8 h9) <| ALn (dk x0) etI <| ALn x0.f5 (GTask.t q0) <| AN))
      ·exact K5 (K4 (fn := Tryz.f28) [rT, rT, .b false, .b false, .b false, .val (.int .i64 (x0.f5.length : Int)), rF] _ rfl (fun _ => rfl) (fun k => by kernel_rfl) (AD (Ld (cT x0.f0 h0) h1) <| AD (Ld (iL x0.f1) h2) <| AC h3 <| AC h4 <| AC h5 <| ALn x0.f5 (GTask.t q0) <| AD (Ld (cM (x0.f5.length : Int) (1 : Int) (4 : Int)) h6) <| AN))
  ·exact K5 (K4 (fn := Tryz.f28) [rT, rF] _ rfl (fun _ => rfl) (fun k => by kernel_rfl) (AD (Ld (cT x0.f0 h0) h1) <| AD (Ld (iL x0.f1) h2) <| AN))
 ·exact K5 (K4 (fn := Tryz.f28) [rF] _ rfl (fun _ => rfl) (fun k => by kernel_rfl) (AD (Ld (cT x0.f0 h0) h1) <| AN))
noncomputable def dz (ts : List GTask) : List GTask → Nat → Bool
 | [], _ => true
 | t :: r, i => ia ts (i : Int) t && dz ts r (i + 1)
noncomputable def bA (d : GDag) : Bool :=
 dK d.f0 && (iN d.f1 && (aH d.f3 0 68374079 && (aH d.f2 0 d.f3 && (aH (d.f5.length : Int) 1 4 && (dz d.f5 d.f5 0 && ((cy d.f5).length : Int) == (d.f5.length : Int))))))
theorem o9 (ts : List GTask) : ∀ (rest : List GTask) (i : Nat), ts.drop i = rest → dz ts rest i = true → ∀ (k : Nat) (t : GTask), i ≤ k → ts[k]? = some t → ia ts (k : Int) t = true
 | [], i, h, _, k, t, hk, hg => by
  have : ts.length ≤ i := List.drop_eq_nil_iff.1 h
  rw [List.getElem?_eq_none (by omega)] at hg; cases hg
 | x :: rest, i, h, hr, k, t, hk, hg => by
  unfold dz at hr
  rw [Bool.and_eq_true] at hr
  by_cases e : k = i
  ·subst e
   have : ts[k]? = some x := by rw [← List.head?_drop, h]; rfl
   rw [this] at hg
   cases hg
   exact hr.1
  ·exact o9 ts rest (i + 1) (aG h) hr.2 k t (by omega) hg
theorem r9 {ts : List GTask} (h4 : ts.length ≤ 4) (h : dz ts ts 0 = true) : co ts := by
 refine ⟨h4, fun i t hg => ?_⟩
 have := o9 ts ts 0 rfl h i t (Nat.zero_le _) hg
 unfold ia at this
 simp only [Bool.and_eq_true, beq_iff_eq] at this
 exact this.2.1
theorem Gy (ts : List GTask) (hs : ao.sm ts) : ∀ (rest : List GTask) (i : Nat) (z : Bool), ts.drop i = rest → iX ts rest i z = some (cond (dz ts rest i) .x0 (.ret false))
 | [], i, z, _ => rfl
 | x :: rest, i, z, h => by
  have hi := oc h
  have hg := aX h
  have e : mc ts (i : Int) = ia ts (i : Int) x := by unfold mc; rw [hg]
  unfold iX dz
  rw [Gy ts hs rest (i + 1) z (aG h), if_pos hs, if_pos (by omega), e]
  cases ia ts (i : Int) x <;> rfl
theorem J5 (d : GDag) (h : ao.sm d) : qw d = some (bA d) := by
 have hs : ao.sm d.f5 := h.2.2
 have hn : d.f0.size ≤ 2000000 := by have : d.f0.size ≤ 1050000 := h.1; omega
 unfold qw bA iN
 simp only [hn, Cl, if_true]
 cases (aw d.f1).2 with
 | false => cases dK d.f0 <;> rfl
 | true =>
  rw [cond_true]
  cases dK d.f0 with
  | false => rfl
  | true =>
   rw [cond_true, Bool.true_and, Bool.true_and]
   cases (bg (aw d.f1).1).1.toList == d.f1.toList with
   | false => rfl
   | true =>
    rw [Bool.not_true, cond_false, Bool.true_and]
    cases aH d.f3 0 68374079 with
    | false => rfl
    | true =>
     rw [cond_true, Bool.true_and]
     cases aH d.f2 0 d.f3 with
     | false => rfl
     | true =>
      rw [cond_true, Bool.true_and]
      cases q : aH (d.f5.length : Int) 1 4 with
      | false => rfl
      | true =>
       have h4 : d.f5.length ≤ 4 := by unfold aH at q; simp at q; omega
       rw [cond_true, Bool.true_and, if_pos (by omega), Gy d.f5 hs d.f5 0 d.f4 rfl]
       cases w : dz d.f5 d.f5 0 with
       | false => rfl
       | true =>
        rw [cond_true, Option.bind_some, Bool.true_and]
        simp only
        rw [if_pos hs, if_pos (r9 h4 w)]
theorem Gx (a b : ByteArray) (c e : Int) (ts : List GTask) (ht : ts.length ≤ 1050000) : ∀ (l : List ByteArray) (i : Nat) (z : Bool), iP a b c e ts l i z = some (cond (l.all fun n => decide (0 ≤ av ts n)) .x2 (.ret false))
 | [], i, z => rfl
 | n :: l, i, z => by
  unfold iP
  rw [if_pos (show (GDag.mk a b c e z ts).f5.length ≤ 1050000 from ht), Gx a b c e ts ht l (i + 1) z, List.all_cons]
  show cond (decide (av ts n < 0)) _ _ = _
  by_cases w : av ts n < 0
  ·rw [decide_eq_true w, decide_eq_false (by omega : ¬ 0 ≤ av ts n)]; rfl
  ·rw [decide_eq_false w, decide_eq_true (by omega : 0 ≤ av ts n)]; rfl
theorem Gw (a b : ByteArray) (c e : Int) (ts : List GTask) (hs : ao.sm ts) (h4 : ts.length ≤ 4) : ∀ (l : List GTask) (i : Nat) (z : Bool), (∀ y ∈ l, ao.sm y) → iO a b c e ts l i z = some (cond (dz ts l i) .x0 (.ret false))
 | [], i, z, _ => rfl
 | t :: l, i, z, hl => by
  have ht := hl t (by simp)
  have hf : t.f4.length ≤ 1050000 := ht.2.2.1
  unfold iO dz
  rw [if_pos ht, if_pos (show (GDag.mk a b c e z ts).f5.length ≤ 1050000 from hs.1), if_pos (by omega), Gx a b c e ts hs.1, Gw a b c e ts hs h4 l (i + 1) z (fun y hy => hl y (by simp [hy])), xT ts h4]
  have e1 : (bF (GDag.mk a b c e z ts) t.f0 != (i : Int)) = !(av ts t.f0 == (i : Int)) := rfl
  rw [e1]
  cases oi t <;> cases av ts t.f0 == (i : Int) <;> cases (t.f4.all fun n => decide (0 ≤ av ts n)) <;> cases dz ts l (i + 1) <;> rfl
theorem J4 (d : GDag) (h : ao.sm d) : ql d = some (bA d) := by
 have hs : ao.sm d.f5 := h.2.2
 have hn : d.f0.size ≤ 2000000 := by have : d.f0.size ≤ 1050000 := h.1; omega
 unfold ql bA
 rw [if_pos hn]
 cases dK d.f0 with
 | false => rfl
 | true =>
  rw [cond_true, Bool.true_and]
  cases iN d.f1 with
  | false => rfl
  | true =>
   rw [cond_true, Bool.true_and]
   by_cases w0 : d.f2 < 0
   ·have : aH d.f2 0 d.f3 = false := by unfold aH; rw [decide_eq_false (by omega)]; rfl
    rw [decide_eq_true w0, this, Bool.false_and, Bool.and_false]; rfl
   ·rw [decide_eq_false w0, cond_false]
    by_cases w1 : d.f2 > d.f3
    ·have : aH d.f2 0 d.f3 = false := by unfold aH; rw [decide_eq_false (by omega : ¬ d.f2 ≤ d.f3), Bool.and_false]
     rw [decide_eq_true w1, this, Bool.false_and, Bool.and_false]; rfl
    ·rw [decide_eq_false w1, cond_false]
     have e1 : aH d.f2 0 d.f3 = true := by unfold aH; rw [decide_eq_true (by omega), decide_eq_true (by omega)]; rfl
     by_cases w2 : d.f3 > 68374079
     ·have : aH d.f3 0 68374079 = false := by unfold aH; rw [decide_eq_false (by omega : ¬ d.f3 ≤ 68374079), Bool.and_false]
      rw [decide_eq_true w2, this, Bool.false_and]; rfl
     ·have e2 : aH d.f3 0 68374079 = true := by unfold aH; rw [decide_eq_true (by omega), decide_eq_true (by omega)]; rfl
      rw [decide_eq_false w2, cond_false, e1, e2, Bool.true_and, Bool.true_and]
      cases q : aH (d.f5.length : Int) 1 4 with
      | false => rfl
      | true =>
       have h4 : d.f5.length ≤ 4 := by unfold aH at q; simp at q; omega
       rw [cond_true, Bool.true_and, if_pos (by omega), Gw d.f0 d.f1 d.f2 d.f3 d.f5 hs h4 d.f5 0 d.f4 hs.2]
       cases w : dz d.f5 d.f5 0 with
       | false => rfl
       | true =>
        rw [cond_true, Option.bind_some, Bool.true_and]
        simp only
        rw [if_pos h, if_pos (r9 h4 w)]
        rfl
theorem eI {q0 : Kd} (x0 : GDag) (h : ao.sm x0) : Does E 32 [.agg (GDag.t .far q0 x0)] [(false, [tB (bA x0)])] := by
 exact Hy x0 _ (J5 x0 h)
theorem fK {q0 : Kd} (x0 : GDag) (h : ao.sm x0) : Does E 28 [.agg (GDag.t .far q0 x0)] [(false, [tB (bA x0)])] := by
 exact GW x0 _ (J4 x0 h)
end Go.Proofs.YtjfbofdmjihglaaGreatDoor.Am
