/- Plans. -/
import Derived.Test.YtfbhcpmlihdmcaaGreatDoorRules
namespace Go.Proofs.YtfbhcpmlihdmcaaGreatDoor.Am
open Go Go.Proofs Classical
set_option maxRecDepth 100000
set_option linter.unusedVariables false
set_option linter.unusedSimpArgs false
inductive sK where
 | ret (v2 : Bool)
 | x0 
def cn (v0 : ByteArray) (v3 : Int) : US := stL 46 [(0, .one (tS v0)), (3, .one (tI v3))]
def eN (zv2 : Bool) : US := stL 46 [(2, .one (tB zv2))]
def l5  : US := stL 46 []
abbrev eG : US → Exit → US → Prop := Round E 12 (aB Tryz.f12 0)
def Cz (v0 : ByteArray) (v3 : Int) : sK → Prop
 | .ret zv2 => Loops E 12 (aB Tryz.f12 0) (cn v0 v3) .ret (eN zv2)
 | .x0 => Loops E 12 (aB Tryz.f12 0) (cn v0 v3) (.exit 0) (l5)
theorem yQ (v0 : ByteArray) (v3 : Int) (h0 : (decide (v3 < (v0.size : Int))) = true) (h1 : 0 ≤ v3 ∧ v3 < (v0.size : Int)) (h2 : (decide ((aA v0 v3) < (97 : Int))) = true) (h3 : (decide ((aA v0 v3) < (48 : Int))) = true) : eG (cn v0 v3) .ret (eN false) :=
 IV [.b true, .b true, .b true] _ (fun k => by kernel_rfl) (AC h0 <| AC h1 <| AC h2 <| AC h1 <| AC h3 <| AN)
theorem yR (v0 : ByteArray) (v3 : Int) (h0 : (decide (v3 < (v0.size : Int))) = true) (h1 : 0 ≤ v3 ∧ v3 < (v0.size : Int)) (h2 : (decide ((aA v0 v3) < (97 : Int))) = true) (h3 : (decide ((aA v0 v3) < (48 : Int))) = false) (h4 : (decide ((aA v0 v3) > (57 : Int))) = true) : eG (cn v0 v3) .ret (eN false) :=
 IV [.b true, .b true, .b false, .b true] _ (fun k => by kernel_rfl) (AC h0 <| AC h1 <| AC h2 <| AC h1 <| AC h3 <| AC h1 <| AC h4 <| AN)
theorem yS (v0 : ByteArray) (v3 : Int) (h0 : (decide (v3 < (v0.size : Int))) = true) (h1 : 0 ≤ v3 ∧ v3 < (v0.size : Int)) (h2 : (decide ((aA v0 v3) < (97 : Int))) = true) (h3 : (decide ((aA v0 v3) < (48 : Int))) = false) (h4 : (decide ((aA v0 v3) > (57 : Int))) = false) : eG (cn v0 v3) .normal (cn v0 (inc v3)) :=
 IV [.b true, .b true, .b false, .b false] _ (fun k => by kernel_rfl) (AC h0 <| AC h1 <| AC h2 <| AC h1 <| AC h3 <| AC h1 <| AC h4 <| AN)
theorem yT (v0 : ByteArray) (v3 : Int) (h0 : (decide (v3 < (v0.size : Int))) = true) (h1 : 0 ≤ v3 ∧ v3 < (v0.size : Int)) (h2 : (decide ((aA v0 v3) < (97 : Int))) = false) (h3 : (decide ((aA v0 v3) > (122 : Int))) = true) (h4 : (decide ((aA v0 v3) < (48 : Int))) = true) : eG (cn v0 v3) .ret (eN false) :=
 IV [.b true, .b false, .b true, .b true] _ (fun k => by kernel_rfl) (AC h0 <| AC h1 <| AC h2 <| AC h1 <| AC h3 <| AC h1 <| AC h4 <| AN)
theorem yU (v0 : ByteArray) (v3 : Int) (h0 : (decide (v3 < (v0.size : Int))) = true) (h1 : 0 ≤ v3 ∧ v3 < (v0.size : Int)) (h2 : (decide ((aA v0 v3) < (97 : Int))) = false) (h3 : (decide ((aA v0 v3) > (122 : Int))) = true) (h4 : (decide ((aA v0 v3) < (48 : Int))) = false) (h5 : (decide ((aA v0 v3) > (57 : Int))) = true) : eG (cn v0 v3) .ret (eN false) :=
 IV [.b true, .b false, .b true, .b false, .b true] _ (fun k => by kernel_rfl) (AC h0 <| AC h1 <| AC h2 <| AC h1 <| AC h3 <| AC h1 <| AC h4 <| AC h1 <| AC h5 <| AN)
theorem yV (v0 : ByteArray) (v3 : Int) (h0 : (decide (v3 < (v0.size : Int))) = true) (h1 : 0 ≤ v3 ∧ v3 < (v0.size : Int)) (h2 : (decide ((aA v0 v3) < (97 : Int))) = false) (h3 : (decide ((aA v0 v3) > (122 : Int))) = true) (h4 : (decide ((aA v0 v3) < (48 : Int))) = false) (h5 : (decide ((aA v0 v3) > (57 : Int))) = false) : eG (cn v0 v3) .normal (cn v0 (inc v3)) :=
 IV [.b true, .b false, .b true, .b false, .b false] _ (fun k => by kernel_rfl) (AC h0 <| AC h1 <| AC h2 <| AC h1 <| AC h3 <| AC h1 <| AC h4 <| AC h1 <| AC h5 <| AN)
theorem yW (v0 : ByteArray) (v3 : Int) (h0 : (decide (v3 < (v0.size : Int))) = true) (h1 : 0 ≤ v3 ∧ v3 < (v0.size : Int)) (h2 : (decide ((aA v0 v3) < (97 : Int))) = false) (h3 : (decide ((aA v0 v3) > (122 : Int))) = false) : eG (cn v0 v3) .normal (cn v0 (inc v3)) :=
 IV [.b true, .b false, .b false] _ (fun k => by kernel_rfl) (AC h0 <| AC h1 <| AC h2 <| AC h1 <| AC h3 <| AN)
theorem yX (v0 : ByteArray) (v3 : Int) (h0 : (decide (v3 < (v0.size : Int))) = false) : eG (cn v0 v3) (.exit 0) (l5) :=
 IV [.b false] _ (fun k => by kernel_rfl) (AC h0 <| AN)
noncomputable def dT  : List Int → Nat → Option sK
 | [], i => some (.x0)
 | hd :: rest, i => cond (decide (hd < (97 : Int)))
  (cond (decide (hd < (48 : Int)))
   (some (.ret false))
   (cond (decide (hd > (57 : Int)))
    (some (.ret false))
    (dT rest (i + 1))))
  (cond (decide (hd > (122 : Int)))
   (cond (decide (hd < (48 : Int)))
    (some (.ret false))
    (cond (decide (hd > (57 : Int)))
     (some (.ret false))
     (dT rest (i + 1))))
   (dT rest (i + 1)))
theorem Cy (v0 : ByteArray) (rest : List Int) : ∀ (i : Nat) , (bu v0).drop i = rest → v0.size ≤ 9223372036854775807 → Ans (dT rest i) (Cz v0 (i : Int)) := by
 induction rest with
 | nil =>
  intro i hE hl
  have hb := mI hE
  unfold dT
  exact IX (IZ (yX v0 (i : Int) hb) (by intro h; cases h))
 | cons hd rest ih =>
  intro i hE hl
  have hb := lN hE
  have hw := lO hE hl
  have hE2 := aK hE
  have hp := og hE
  obtain rfl := of hE
  unfold dT
  refine I3 (fun h2 => ?_) (fun h2 => ?_)
  ·refine I3 (fun h3 => ?_) (fun h3 => ?_)
   ·exact IX (IZ (yQ v0 (i : Int) hb hp h2 h3) (by intro h; cases h))
   ·refine I3 (fun h4 => ?_) (fun h4 => ?_)
    ·exact IX (IZ (yR v0 (i : Int) hb hp h2 h3 h4) (by intro h; cases h))
    ·exact (ih (i + 1) hE2 hl).mono fun y hy => by have r := yS v0 (i : Int) hb hp h2 h3 h4; rw [hw] at r; cases y <;> exact IY r hy
  ·refine I3 (fun h3 => ?_) (fun h3 => ?_)
   ·refine I3 (fun h4 => ?_) (fun h4 => ?_)
    ·exact IX (IZ (yT v0 (i : Int) hb hp h2 h3 h4) (by intro h; cases h))
    ·refine I3 (fun h5 => ?_) (fun h5 => ?_)
     ·exact IX (IZ (yU v0 (i : Int) hb hp h2 h3 h4 h5) (by intro h; cases h))
     ·exact (ih (i + 1) hE2 hl).mono fun y hy => by have r := yV v0 (i : Int) hb hp h2 h3 h4 h5; rw [hw] at r; cases y <;> exact IY r hy
   ·exact (ih (i + 1) hE2 hl).mono fun y hy => by have r := yW v0 (i : Int) hb hp h2 h3; rw [hw] at r; cases y <;> exact IY r hy
noncomputable def mq (x0 : ByteArray) : Option (Bool) :=
  cond (aD (x0.size : Int) (1 : Int) (8 : Int))
   (if 0 ≤ (0 : Int) ∧ (0 : Int) < (x0.size : Int) then cond (decide ((aA x0 (0 : Int)) < (97 : Int)))
    (some (false))
    (cond (decide ((aA x0 (0 : Int)) > (122 : Int)))
     (some (false))
     (if x0.size ≤ 9223372036854775807 then (dT (bu x0) 0).bind fun y => match y with
      | .ret w0_2 => (some (w0_2))
      | .x0 => (some (true)) else none)) else none)
   (some (false))
theorem Eh (x0 : ByteArray) : Ans (mq x0) (fun r => Does E 12 [.one (tS x0)] [(false, [tB r])]) := by
 unfold mq
 refine I3 (fun h0 => ?_) (fun h0 => ?_)
 ·refine I5 (fun h1 => ?_)
  refine I3 (fun h2 => ?_) (fun h2 => ?_)
  ·exact IX (IW (fn := Tryz.f12) [rT, .b true] _ rfl (fun _ => rfl) (fun k => by kernel_rfl) (AD (I8 (bf (x0.size : Int) (1 : Int) (8 : Int)) h0) <| AC h1 <| AC h2 <| AN))
  ·refine I3 (fun h3 => ?_) (fun h3 => ?_)
   ·exact IX (IW (fn := Tryz.f12) [rT, .b false, .b true] _ rfl (fun _ => rfl) (fun k => by kernel_rfl) (AD (I8 (bf (x0.size : Int) (1 : Int) (8 : Int)) h0) <| AC h1 <| AC h2 <| AC h1 <| AC h3 <| AN))
   ·refine I5 (fun hl4 => ?_)
    refine I4 (fun y hy => ?_)
    replace hy := Cy x0 (bu x0) 0 rfl hl4 y hy
    cases y with
    | ret w0_2 =>
     have h4 := hy
     exact IX (IW (fn := Tryz.f12) [rT, .b false, .b false, .lp .ret (eN w0_2)] _ rfl (fun _ => rfl) (fun k => by kernel_rfl) (AD (I8 (bf (x0.size : Int) (1 : Int) (8 : Int)) h0) <| AC h1 <| AC h2 <| AC h1 <| AC h3 <| AL h4 <| AN))
    | x0 =>
     have h4 := hy
     exact IX (IW (fn := Tryz.f12) [rT, .b false, .b false, .lp (.exit 0) (l5)] _ rfl (fun _ => rfl) (fun k => by kernel_rfl) (AD (I8 (bf (x0.size : Int) (1 : Int) (8 : Int)) h0) <| AC h1 <| AC h2 <| AC h1 <| AC h3 <| AL h4 <| AN))
 ·exact IX (IW (fn := Tryz.f12) [rF] _ rfl (fun _ => rfl) (fun k => by kernel_rfl) (AD (I8 (bf (x0.size : Int) (1 : Int) (8 : Int)) h0) <| AN))
inductive sn where
 | ret (v2 : Bool)
 | x0 
def bS (v0 : ByteArray) (v3 : Int) : US := stL 42 [(0, .one (tS v0)), (3, .one (tI v3))]
def dk (zv2 : Bool) : US := stL 42 [(2, .one (tB zv2))]
def lV (v0 : ByteArray) : US := stL 42 [(0, .one (tS v0))]
abbrev dr : US → Exit → US → Prop := Round E 17 (aB Tryz.f17 0)
def Cg (v0 : ByteArray) (v3 : Int) : sn → Prop
 | .ret zv2 => Loops E 17 (aB Tryz.f17 0) (bS v0 v3) .ret (dk zv2)
 | .x0 => Loops E 17 (aB Tryz.f17 0) (bS v0 v3) (.exit 0) (lV v0)
theorem yr (v0 : ByteArray) (v3 : Int) (h0 : (decide (v3 < (v0.size : Int))) = true) (h1 : 0 ≤ v3 ∧ v3 < (v0.size : Int)) (h2 : (decide ((aA v0 v3) ≥ (97 : Int))) = true) (h3 : (decide ((aA v0 v3) ≤ (122 : Int))) = true) : dr (bS v0 v3) .normal (bS v0 (inc v3)) :=
 IV [.b true, .b true, .b true] _ (fun k => by kernel_rfl) (AC h0 <| AC h1 <| AC h2 <| AC h1 <| AC h3 <| AN)
theorem yt (v0 : ByteArray) (v3 : Int) (h0 : (decide (v3 < (v0.size : Int))) = true) (h1 : 0 ≤ v3 ∧ v3 < (v0.size : Int)) (h2 : (decide ((aA v0 v3) ≥ (97 : Int))) = true) (h3 : (decide ((aA v0 v3) ≤ (122 : Int))) = false) (h4 : (v3 == (0 : Int)) = true) : dr (bS v0 v3) .ret (dk false) :=
 IV [.b true, .b true, .b false, .b true] _ (fun k => by kernel_rfl) (AC h0 <| AC h1 <| AC h2 <| AC h1 <| AC h3 <| AC h4 <| AN)
theorem yu (v0 : ByteArray) (v3 : Int) (h0 : (decide (v3 < (v0.size : Int))) = true) (h1 : 0 ≤ v3 ∧ v3 < (v0.size : Int)) (h2 : (decide ((aA v0 v3) ≥ (97 : Int))) = true) (h3 : (decide ((aA v0 v3) ≤ (122 : Int))) = false) (h4 : (v3 == (0 : Int)) = false) (h5 : (decide ((aA v0 v3) < (48 : Int))) = true) : dr (bS v0 v3) .ret (dk false) :=
 IV [.b true, .b true, .b false, .b false, .b true] _ (fun k => by kernel_rfl) (AC h0 <| AC h1 <| AC h2 <| AC h1 <| AC h3 <| AC h4 <| AC h1 <| AC h5 <| AN)
theorem yv (v0 : ByteArray) (v3 : Int) (h0 : (decide (v3 < (v0.size : Int))) = true) (h1 : 0 ≤ v3 ∧ v3 < (v0.size : Int)) (h2 : (decide ((aA v0 v3) ≥ (97 : Int))) = true) (h3 : (decide ((aA v0 v3) ≤ (122 : Int))) = false) (h4 : (v3 == (0 : Int)) = false) (h5 : (decide ((aA v0 v3) < (48 : Int))) = false) (h6 : (decide ((aA v0 v3) > (57 : Int))) = true) : dr (bS v0 v3) .ret (dk false) :=
 IV [.b true, .b true, .b false, .b false, .b false, .b true] _ (fun k => by kernel_rfl) (AC h0 <| AC h1 <| AC h2 <| AC h1 <| AC h3 <| AC h4 <| AC h1 <| AC h5 <| AC h1 <| AC h6 <| AN)
theorem yw (v0 : ByteArray) (v3 : Int) (h0 : (decide (v3 < (v0.size : Int))) = true) (h1 : 0 ≤ v3 ∧ v3 < (v0.size : Int)) (h2 : (decide ((aA v0 v3) ≥ (97 : Int))) = true) (h3 : (decide ((aA v0 v3) ≤ (122 : Int))) = false) (h4 : (v3 == (0 : Int)) = false) (h5 : (decide ((aA v0 v3) < (48 : Int))) = false) (h6 : (decide ((aA v0 v3) > (57 : Int))) = false) : dr (bS v0 v3) .normal (bS v0 (inc v3)) :=
 IV [.b true, .b true, .b false, .b false, .b false, .b false] _ (fun k => by kernel_rfl) (AC h0 <| AC h1 <| AC h2 <| AC h1 <| AC h3 <| AC h4 <| AC h1 <| AC h5 <| AC h1 <| AC h6 <| AN)
theorem yy (v0 : ByteArray) (v3 : Int) (h0 : (decide (v3 < (v0.size : Int))) = true) (h1 : 0 ≤ v3 ∧ v3 < (v0.size : Int)) (h2 : (decide ((aA v0 v3) ≥ (97 : Int))) = false) (h3 : (v3 == (0 : Int)) = true) : dr (bS v0 v3) .ret (dk false) :=
 IV [.b true, .b false, .b true] _ (fun k => by kernel_rfl) (AC h0 <| AC h1 <| AC h2 <| AC h3 <| AN)
theorem yz (v0 : ByteArray) (v3 : Int) (h0 : (decide (v3 < (v0.size : Int))) = true) (h1 : 0 ≤ v3 ∧ v3 < (v0.size : Int)) (h2 : (decide ((aA v0 v3) ≥ (97 : Int))) = false) (h3 : (v3 == (0 : Int)) = false) (h4 : (decide ((aA v0 v3) < (48 : Int))) = true) : dr (bS v0 v3) .ret (dk false) :=
 IV [.b true, .b false, .b false, .b true] _ (fun k => by kernel_rfl) (AC h0 <| AC h1 <| AC h2 <| AC h3 <| AC h1 <| AC h4 <| AN)
theorem yA (v0 : ByteArray) (v3 : Int) (h0 : (decide (v3 < (v0.size : Int))) = true) (h1 : 0 ≤ v3 ∧ v3 < (v0.size : Int)) (h2 : (decide ((aA v0 v3) ≥ (97 : Int))) = false) (h3 : (v3 == (0 : Int)) = false) (h4 : (decide ((aA v0 v3) < (48 : Int))) = false) (h5 : (decide ((aA v0 v3) > (57 : Int))) = true) : dr (bS v0 v3) .ret (dk false) :=
 IV [.b true, .b false, .b false, .b false, .b true] _ (fun k => by kernel_rfl) (AC h0 <| AC h1 <| AC h2 <| AC h3 <| AC h1 <| AC h4 <| AC h1 <| AC h5 <| AN)
theorem yB (v0 : ByteArray) (v3 : Int) (h0 : (decide (v3 < (v0.size : Int))) = true) (h1 : 0 ≤ v3 ∧ v3 < (v0.size : Int)) (h2 : (decide ((aA v0 v3) ≥ (97 : Int))) = false) (h3 : (v3 == (0 : Int)) = false) (h4 : (decide ((aA v0 v3) < (48 : Int))) = false) (h5 : (decide ((aA v0 v3) > (57 : Int))) = false) : dr (bS v0 v3) .normal (bS v0 (inc v3)) :=
 IV [.b true, .b false, .b false, .b false, .b false] _ (fun k => by kernel_rfl) (AC h0 <| AC h1 <| AC h2 <| AC h3 <| AC h1 <| AC h4 <| AC h1 <| AC h5 <| AN)
theorem yC (v0 : ByteArray) (v3 : Int) (h0 : (decide (v3 < (v0.size : Int))) = false) : dr (bS v0 v3) (.exit 0) (lV v0) :=
 IV [.b false] _ (fun k => by kernel_rfl) (AC h0 <| AN)
noncomputable def dt  : List Int → Nat → Option sn
 | [], i => some (.x0)
 | hd :: rest, i => cond (decide (hd ≥ (97 : Int)))
  (cond (decide (hd ≤ (122 : Int)))
   (dt rest (i + 1))
   (cond ((i : Int) == (0 : Int))
    (some (.ret false))
    (cond (decide (hd < (48 : Int)))
     (some (.ret false))
     (cond (decide (hd > (57 : Int)))
      (some (.ret false))
      (dt rest (i + 1))))))
  (cond ((i : Int) == (0 : Int))
   (some (.ret false))
   (cond (decide (hd < (48 : Int)))
    (some (.ret false))
    (cond (decide (hd > (57 : Int)))
     (some (.ret false))
     (dt rest (i + 1)))))
theorem Cf (v0 : ByteArray) (rest : List Int) : ∀ (i : Nat) , (bu v0).drop i = rest → v0.size ≤ 9223372036854775807 → Ans (dt rest i) (Cg v0 (i : Int)) := by
 induction rest with
 | nil =>
  intro i hE hl
  have hb := mI hE
  unfold dt
  exact IX (IZ (yC v0 (i : Int) hb) (by intro h; cases h))
 | cons hd rest ih =>
  intro i hE hl
  have hb := lN hE
  have hw := lO hE hl
  have hE2 := aK hE
  have hp := og hE
  obtain rfl := of hE
  unfold dt
  refine I3 (fun h2 => ?_) (fun h2 => ?_)
  ·refine I3 (fun h3 => ?_) (fun h3 => ?_)
   ·exact (ih (i + 1) hE2 hl).mono fun y hy => by have r := yr v0 (i : Int) hb hp h2 h3; rw [hw] at r; cases y <;> exact IY r hy
   ·refine I3 (fun h4 => ?_) (fun h4 => ?_)
    ·exact IX (IZ (yt v0 (i : Int) hb hp h2 h3 h4) (by intro h; cases h))
    ·refine I3 (fun h5 => ?_) (fun h5 => ?_)
     ·exact IX (IZ (yu v0 (i : Int) hb hp h2 h3 h4 h5) (by intro h; cases h))
     ·refine I3 (fun h6 => ?_) (fun h6 => ?_)
      ·exact IX (IZ (yv v0 (i : Int) hb hp h2 h3 h4 h5 h6) (by intro h; cases h))
      ·exact (ih (i + 1) hE2 hl).mono fun y hy => by have r := yw v0 (i : Int) hb hp h2 h3 h4 h5 h6; rw [hw] at r; cases y <;> exact IY r hy
  ·refine I3 (fun h3 => ?_) (fun h3 => ?_)
   ·exact IX (IZ (yy v0 (i : Int) hb hp h2 h3) (by intro h; cases h))
   ·refine I3 (fun h4 => ?_) (fun h4 => ?_)
    ·exact IX (IZ (yz v0 (i : Int) hb hp h2 h3 h4) (by intro h; cases h))
    ·refine I3 (fun h5 => ?_) (fun h5 => ?_)
     ·exact IX (IZ (yA v0 (i : Int) hb hp h2 h3 h4 h5) (by intro h; cases h))
     ·exact (ih (i + 1) hE2 hl).mono fun y hy => by have r := yB v0 (i : Int) hb hp h2 h3 h4 h5; rw [hw] at r; cases y <;> exact IY r hy
noncomputable def mi (x0 : ByteArray) : Option (Bool) :=
  if x0.size ≤ 9223372036854775807 then (dt (bu x0) 0).bind fun y => match y with
   | .ret w0_2 => (some (w0_2))
   | .x0 => (some (aD (x0.size : Int) (1 : Int) (8 : Int))) else none
theorem DO (x0 : ByteArray) : Ans (mi x0) (fun r => Does E 17 [.one (tS x0)] [(false, [tB r])]) := by
 unfold mi
 refine I5 (fun hl1 => ?_)
 refine I4 (fun y hy => ?_)
 replace hy := Cf x0 (bu x0) 0 rfl hl1 y hy
 cases y with
 | ret w0_2 =>
  have h0 := hy
  exact IX (IW (fn := Tryz.f17) [.lp .ret (dk w0_2)] _ rfl (fun _ => rfl) (fun k => by kernel_rfl) (AL h0 <| AN))
 | x0 =>
  have h0 := hy
  exact IX (IW (fn := Tryz.f17) [.lp (.exit 0) (lV x0), .ret [(false, [tB (aD (x0.size : Int) (1 : Int) (8 : Int))])]] _ rfl (fun _ => rfl) (fun k => by kernel_rfl) (AL h0 <| AD (cC (x0.size : Int) (1 : Int) (8 : Int)) <| AN))
def nN (h : Int) : Bool := decide (97 ≤ h ∧ h ≤ 122)
def lfI (h : Int) : Bool := decide (97 ≤ h ∧ h ≤ 122 ∨ 48 ≤ h ∧ h ≤ 57)
def GC : List Int → Bool
 | [] => true
 | h :: l => nN h && l.all lfI
def cY (s : ByteArray) : Bool := aD (s.size : Int) 1 8 && GC (bu s)
theorem Ht {α : Type} (h : Int) (A B : α) : cond (decide (h < 97)) (cond (decide (h < 48)) A (cond (decide (h > 57)) A B)) (cond (decide (h > 122)) (cond (decide (h < 48)) A (cond (decide (h > 57)) A B)) B) = cond (lfI h) B A := by
 unfold lfI
 simp only [Bool.cond_decide]
 repeat' split
 all_goals first | rfl | (exfalso; omega)
theorem GX {α : Type} (h : Int) (A B : α) : cond (decide (h ≥ 97)) (cond (decide (h ≤ 122)) B (cond (decide (h < 48)) A (cond (decide (h > 57)) A B))) (cond (decide (h < 48)) A (cond (decide (h > 57)) A B)) = cond (lfI h) B A := by
 unfold lfI
 simp only [Bool.cond_decide]
 repeat' split
 all_goals first | rfl | (exfalso; omega)
theorem GW {α : Type} (h : Int) (A B : α) : cond (decide (h ≥ 97)) (cond (decide (h ≤ 122)) B A) A = cond (nN h) B A := by
 unfold nN
 simp only [Bool.cond_decide]
 repeat' split
 all_goals first | rfl | (exfalso; omega)
theorem Hs {h : Int} (q : nN h = true) : lfI h = true := by
 unfold nN at q
 unfold lfI
 simp only [decide_eq_true_eq] at q ⊢
 exact .inl q
theorem CZ : ∀ (l : List Int) (i : Nat), dT l i = some (cond (l.all lfI) .x0 (.ret false))
 | [], i => rfl
 | h :: l, i => by
  unfold dT
  rw [CZ l (i + 1), List.all_cons, Ht]
  cases lfI h <;> rfl
theorem CY : ∀ (l : List Int) (i : Nat), dt l (i + 1) = some (cond (l.all lfI) .x0 (.ret false))
 | [], i => rfl
 | h :: l, i => by
  unfold dt
  have e : (((i + 1 : Nat) : Int) == 0) = false := by rw [beq_eq_false_iff_ne]; omega
  rw [CY l (i + 1), List.all_cons, e]
  simp only [cond_false]
  rw [GX]
  cases lfI h <;> rfl
theorem Hw (s : ByteArray) (hs : s.size ≤ 2000000) : mq s = some (cY s) := by
 unfold mq cY
 cases q : aD (s.size : Int) 1 8 with
 | false => rfl
 | true =>
  have hr : 1 ≤ (s.size : Int) ∧ (s.size : Int) ≤ 8 := by unfold aD at q; simpa using q
  rw [cond_true, if_pos (by omega), if_pos (by omega), Bool.true_and, CZ]
  have h0 := nT s 0 (by omega)
  cases e : bu s with
  | nil => rw [e] at h0; cases h0
  | cons h l =>
   rw [e] at h0
   have hb : h = aA s (0 : Int) := Option.some.inj h0
   rw [← hb]
   show _ = some (nN h && l.all lfI)
   rw [List.all_cons]
   have k : ∀ (X : Option Bool), cond (decide (h < 97)) (some false) (cond (decide (h > 122)) (some false) X) = cond (nN h) X (some false) := fun X => by
    unfold nN
    simp only [Bool.cond_decide]
    repeat' split
    all_goals first | rfl | (exfalso; omega)
   rw [k]
   cases q2 : nN h with
   | false => rfl
   | true =>
    rw [Hs q2]
    cases l.all lfI <;> rfl
theorem Hv (s : ByteArray) (hs : s.size ≤ 2000000) : mi s = some (cY s) := by
 unfold mi cY
 rw [if_pos (by omega)]
 cases e : bu s with
 | nil =>
  show some (aD (s.size : Int) 1 8) = some (aD (s.size : Int) 1 8 && true)
  rw [Bool.and_true]
 | cons h l =>
  unfold dt GC
  have e0 : (((0 : Nat) : Int) == 0) = true := rfl
  rw [CY l 0, e0]
  simp only [cond_true]
  rw [GW]
  cases nN h with
  | false => rw [Bool.false_and, Bool.and_false]; rfl
  | true =>
   rw [cond_true, Bool.true_and, Option.bind_some]
   cases l.all lfI with
   | false => rw [Bool.and_false]; rfl
   | true => rw [Bool.and_true]; rfl
theorem ce (x0 : ByteArray) (h : x0.size ≤ 2000000) : Does E 12 [.one (tS x0)] [(false, [tB (cY x0)])] := by
 exact Eh x0 _ (Hw x0 h)
theorem ct (x0 : ByteArray) (h : x0.size ≤ 2000000) : Does E 17 [.one (tS x0)] [(false, [tB (cY x0)])] := by
 exact DO x0 _ (Hv x0 h)
noncomputable def iE (x0 : ByteArray) : Option (Int) :=
  cond (x0.toList == (⟨#[111, 110, 101]⟩ : ByteArray).toList)
   (some ((1 : Int)))
   (cond (x0.toList == (⟨#[116, 119, 111]⟩ : ByteArray).toList)
    (some ((2 : Int)))
    (cond (x0.toList == (⟨#[119, 105, 100, 101]⟩ : ByteArray).toList)
     (some ((4 : Int)))
     (some ((0 : Int)))))
theorem Bj (x0 : ByteArray) : Ans (iE x0) (fun r => Does E 30 [.one (tS x0)] [(false, [tI r])]) := by
 unfold iE
 refine I3 (fun h0 => ?_) (fun h0 => ?_)
 ·exact IX (IW (fn := Tryz.f30) [.b true] _ rfl (fun _ => rfl) (fun k => by kernel_rfl) (AC h0 <| AN))
 ·refine I3 (fun h1 => ?_) (fun h1 => ?_)
  ·exact IX (IW (fn := Tryz.f30) [.b false, .b true] _ rfl (fun _ => rfl) (fun k => by kernel_rfl) (AC h0 <| AC h1 <| AN))
  ·refine I3 (fun h2 => ?_) (fun h2 => ?_)
   ·exact IX (IW (fn := Tryz.f30) [.b false, .b false, .b true] _ rfl (fun _ => rfl) (fun k => by kernel_rfl) (AC h0 <| AC h1 <| AC h2 <| AN))
   ·exact IX (IW (fn := Tryz.f30) [.b false, .b false, .b false] _ rfl (fun _ => rfl) (fun k => by kernel_rfl) (AC h0 <| AC h1 <| AC h2 <| AN))
noncomputable def qD (x0 : ByteArray) : Option (Int) :=
  cond (x0.toList == (⟨#[111, 110, 101]⟩ : ByteArray).toList)
   (some ((1 : Int)))
   (cond (x0.toList == (⟨#[116, 119, 111]⟩ : ByteArray).toList)
    (some ((2 : Int)))
    (cond (x0.toList == (⟨#[119, 105, 100, 101]⟩ : ByteArray).toList)
     (some ((4 : Int)))
     (some ((0 : Int)))))
theorem Ax (x0 : ByteArray) : Ans (qD x0) (fun r => Does E 35 [.one (tS x0)] [(false, [tI r])]) := by
 unfold qD
 refine I3 (fun h0 => ?_) (fun h0 => ?_)
 ·exact IX (IW (fn := Tryz.f35) [.b true] _ rfl (fun _ => rfl) (fun k => by kernel_rfl) (AC h0 <| AN))
 ·refine I3 (fun h1 => ?_) (fun h1 => ?_)
  ·exact IX (IW (fn := Tryz.f35) [.b false, .b true] _ rfl (fun _ => rfl) (fun k => by kernel_rfl) (AC h0 <| AC h1 <| AN))
  ·refine I3 (fun h2 => ?_) (fun h2 => ?_)
   ·exact IX (IW (fn := Tryz.f35) [.b false, .b false, .b true] _ rfl (fun _ => rfl) (fun k => by kernel_rfl) (AC h0 <| AC h1 <| AC h2 <| AN))
   ·exact IX (IW (fn := Tryz.f35) [.b false, .b false, .b false] _ rfl (fun _ => rfl) (fun k => by kernel_rfl) (AC h0 <| AC h1 <| AC h2 <| AN))
noncomputable def bw (s : ByteArray) : Int := (iE s).getD 0
theorem A4 (s : ByteArray) : iE s = some (bw s) := by
 refine Tot.getD ?_ _
 unfold iE
 repeat' (first | exact Tot.some _ | apply Tot.cond)
theorem kh (x0 : ByteArray) : Does E 30 [.one (tS x0)] [(false, [tI (bw x0)])] := by
 exact Bj x0 _ (A4 x0)
theorem iq (x0 : ByteArray) : Does E 35 [.one (tS x0)] [(false, [tI (bw x0)])] := by
 exact Ax x0 _ (A4 x0)
inductive vi where
 | ret (v4 : Int)
 | x0 
def jc (q0 : Kd) (v0 : List GTask) (v1 : ByteArray) (v5 : Int) : US := stL 20 [(0, .one (.s .far () 5 (v0.map (GTask.t q0)))), (1, .one (tS v1)), (5, .one (tI v5))]
def l9 (q0 : Kd) (zv4 : Int) : US := stL 20 [(4, .one (tI zv4))]
def m0 (q0 : Kd)  : US := stL 20 []
abbrev pq : US → Exit → US → Prop := Round E 29 (aB Tryz.f29 0)
def El {q0 : Kd} (v0 : List GTask) (v1 : ByteArray) (v5 : Int) : vi → Prop
 | .ret zv4 => Loops E 29 (aB Tryz.f29 0) (jc q0 v0 v1 v5) .ret (l9 q0 zv4)
 | .x0 => Loops E 29 (aB Tryz.f29 0) (jc q0 v0 v1 v5) (.exit 0) (m0 q0)
theorem Bv {q0 : Kd} (v0 : List GTask) (v1 : ByteArray) (v5 : Int) (g0 : GTask) (h0 : (decide (v5 < (v0.length : Int))) = true) (h1 : am v0 v5 = some g0) (h2 : (g0.f0.toList == v1.toList) = true) : pq (jc q0 v0 v1 v5) .ret (l9 q0 v5) :=
 IV [.val (.int .i64 (v0.length : Int)), .b true, .row ((GTask.t q0) g0), .b true] _ (fun k => by kernel_rfl) (AC (p := ((v0.map (GTask.t q0)).length : Int) = (v0.length : Int)) ag <| AC h0 <| AC (p := 0 ≤ v5 ∧ (v0.map (GTask.t q0))[v5.toNat]? = some ((GTask.t q0) g0)) (az h1) <| AC h2 <| AN)
theorem Bw {q0 : Kd} (v0 : List GTask) (v1 : ByteArray) (v5 : Int) (g0 : GTask) (h0 : (decide (v5 < (v0.length : Int))) = true) (h1 : am v0 v5 = some g0) (h2 : (g0.f0.toList == v1.toList) = false) : pq (jc q0 v0 v1 v5) .normal (jc q0 v0 v1 (inc v5)) :=
 IV [.val (.int .i64 (v0.length : Int)), .b true, .row ((GTask.t q0) g0), .b false] _ (fun k => by kernel_rfl) (AC (p := ((v0.map (GTask.t q0)).length : Int) = (v0.length : Int)) ag <| AC h0 <| AC (p := 0 ≤ v5 ∧ (v0.map (GTask.t q0))[v5.toNat]? = some ((GTask.t q0) g0)) (az h1) <| AC h2 <| AN)
theorem Bx {q0 : Kd} (v0 : List GTask) (v1 : ByteArray) (v5 : Int) (h0 : (decide (v5 < (v0.length : Int))) = false) : pq (jc q0 v0 v1 v5) (.exit 0) (m0 q0) :=
 IV [.val (.int .i64 (v0.length : Int)), .b false] _ (fun k => by kernel_rfl) (AC (p := ((v0.map (GTask.t q0)).length : Int) = (v0.length : Int)) ag <| AC h0 <| AN)
noncomputable def gB (v1 : ByteArray) : List GTask → Nat → Option vi
 | [], i => some (.x0)
 | hd :: rest, i => cond (hd.f0.toList == v1.toList)
  (some (.ret (i : Int)))
  (gB v1 rest (i + 1))
theorem Ek {q0 : Kd} (v0 : List GTask) (v1 : ByteArray) (rest : List GTask) : ∀ (i : Nat) , (v0).drop i = rest → v0.length ≤ 9223372036854775807 → Ans (gB v1 rest i) (El (q0 := q0) v0 v1 (i : Int)) := by
 induction rest with
 | nil =>
  intro i hE hl
  have hb := bH hE
  unfold gB
  exact IX (IZ (Bx (q0 := q0) v0 v1 (i : Int) hb) (by intro h; cases h))
 | cons hd rest ih =>
  intro i hE hl
  have hb := bh hE
  have hw := bi hE hl
  have hE2 := aK hE
  have hg := bq hE
  unfold gB
  refine I3 (fun h2 => ?_) (fun h2 => ?_)
  ·exact IX (IZ (Bv (q0 := q0) v0 v1 (i : Int) hd hb hg h2) (by intro h; cases h))
  ·exact (ih (i + 1) hE2 hl).mono fun y hy => by have r := Bw (q0 := q0) v0 v1 (i : Int) hd hb hg h2; rw [hw] at r; cases y <;> exact IY r hy
noncomputable def rq (x0 : List GTask) (x1 : ByteArray) : Option (Int) :=
  if x0.length ≤ 9223372036854775807 then (gB x1 x0 0).bind fun y => match y with
   | .ret w0_4 => (some (w0_4))
   | .x0 => (some ((-1 : Int))) else none
theorem Fx {q0 : Kd} (x0 : List GTask) (x1 : ByteArray) : Ans (rq x0 x1) (fun r => Does E 29 [.one (.s .far () 5 (x0.map (GTask.t q0))), .one (tS x1)] [(false, [tI r])]) := by
 unfold rq
 refine I5 (fun hl1 => ?_)
 refine I4 (fun y hy => ?_)
 replace hy := Ek (q0 := q0) x0 x1 x0 0 rfl hl1 y hy
 cases y with
 | ret w0_4 =>
  have h0 := hy
  exact IX (IW (fn := Tryz.f29) [.lp .ret (l9 q0 w0_4)] _ rfl (fun _ => rfl) (fun k => by kernel_rfl) (AL h0 <| AN))
 | x0 =>
  have h0 := hy
  exact IX (IW (fn := Tryz.f29) [.lp (.exit 0) (m0 q0)] _ rfl (fun _ => rfl) (fun k => by kernel_rfl) (AL h0 <| AN))
noncomputable def qJ (x0 : GTask) (y0 : ByteArray) : Option (Bool) :=
  some (x0.f0.toList == y0.toList)
theorem Ay (x0 : GTask) (y0 : ByteArray) : Ans (qJ x0 y0) (fun r => Does E 37 [.agg (GTask.t .far x0), .im .far () [tS y0] 0] [(false, [tB r])]) := by
 unfold qJ
 exact IX (IW (fn := Tryz.f37) [] _ rfl (fun _ => rfl) (fun k => by kernel_rfl) AN)
def fi (x : GTask) (n : ByteArray) : Bool := x.f0.toList == n.toList
def ki (n : ByteArray) : List GTask → Nat → Int
 | [], _ => -1
 | t :: r, i => cond (fi t n) (i : Int) (ki n r (i + 1))
def ap (ts : List GTask) (n : ByteArray) : Int := ki n ts 0
theorem qg (n : ByteArray) : ∀ (l : List GTask) (i : Nat), (ki n l i = -1 ∧ ∀ t ∈ l, fi t n = false) ∨ ∃ (k : Nat) (t : GTask), ki n l i = ((i + k : Nat) : Int) ∧ l[k]? = some t ∧ fi t n = true
 | [], i => .inl ⟨rfl, fun t ht => by cases ht⟩
 | t :: l, i => by
  unfold ki
  cases q : fi t n with
  | true => exact .inr ⟨0, t, rfl, rfl, q⟩
  | false =>
   rw [cond_false]
   rcases qg n l (i + 1) with ⟨h, h'⟩ | ⟨k, u, h1, h2, h3⟩
   ·exact .inl ⟨h, fun u hu => by rcases List.mem_cons.1 hu with rfl | hu; exact q; exact h' u hu⟩
   ·exact .inr ⟨k + 1, u, by rw [h1]; omega, h2, h3⟩
theorem CG {ts : List GTask} {n : ByteArray} (h : 0 ≤ ap ts n) : ∃ t ∈ ts, tx t.f0 = tx n := by
 unfold ap at h
 rcases qg n ts 0 with ⟨h', _⟩ | ⟨k, t, h1, h2, h3⟩
 ·rw [h'] at h; omega
 ·unfold fi at h3
  rw [mz, decide_eq_true_eq] at h3
  exact ⟨t, List.mem_of_getElem? h2, h3⟩
theorem Hi (n : ByteArray) : ∀ (l : List GTask) (i : Nat), (gB n l i).bind (fun y => match y with
   | .ret w0_4 => (some (w0_4))
   | .x0 => (some ((-1 : Int)))) = some (ki n l i)
 | [], i => rfl
 | t :: l, i => by
  unfold gB ki
  have e : (t.f0.toList == n.toList) = fi t n := rfl
  rw [e]
  cases fi t n with
  | true => rfl
  | false => exact Hi n l (i + 1)
theorem qb (x0 : GTask) (y0 : ByteArray) : Does E 37 [.agg (GTask.t .far x0), .im .far () [tS y0] 0] [(false, [tB (fi x0 y0)])] := by
 exact Ay x0 y0 _ rfl
theorem dV {q0 : Kd} (x0 : List GTask) (x1 : ByteArray) (h : x0.length ≤ 1050000) : Does E 29 [.one (.s .far () 5 (x0.map (GTask.t q0))), .one (tS x1)] [(false, [tI (ap x0 x1)])] := by
 exact Fx x0 x1 _ (by unfold rq; rw [if_pos (by omega)]; exact Hi x1 x0 0)
inductive eo where
 | ret (v4 : Int)
 | x0 
def ba (q0 : Kd) (v0 : List GTask) (v1_0_0 : ByteArray) (v7 v8 : Int) : US := stL 19 [(0, .one (.s .far () 5 (v0.map (GTask.t q0)))), (1, .fni 37 [((), [tS v1_0_0])]), (7, .one (tI v7)), (8, .one (tI v8))]
def cq (q0 : Kd) (zv4 : Int) : US := stL 19 [(4, .one (tI zv4))]
def cy (q0 : Kd)  : US := stL 19 []
abbrev cJ : US → Exit → US → Prop := Round E 36 (aB Tryz.f36 0)
def je {q0 : Kd} (v0 : List GTask) (v1_0_0 : ByteArray) (v7 v8 : Int) : eo → Prop
 | .ret zv4 => Loops E 36 (aB Tryz.f36 0) (ba q0 v0 v1_0_0 v7 v8) .ret (cq q0 zv4)
 | .x0 => Loops E 36 (aB Tryz.f36 0) (ba q0 v0 v1_0_0 v7 v8) (.exit 0) (cy q0)
theorem ik {q0 : Kd} (v0 : List GTask) (v1_0_0 : ByteArray) (v7 v8 : Int) (g0 : GTask) (h0 : (decide (v8 < v7)) = true) (h1 : am v0 v8 = some g0) (h2 : (fi g0 v1_0_0) = true) : cJ (ba q0 v0 v1_0_0 v7 v8) .ret (cq q0 v8) :=
 IV [.b true, .row ((GTask.t q0) g0), rT] _ (fun k => by kernel_rfl) (AC h0 <| AC (p := 0 ≤ v8 ∧ (v0.map (GTask.t q0))[v8.toNat]? = some ((GTask.t q0) g0)) (az h1) <| AD (I8 (qb g0 v1_0_0) h2) <| AN)
theorem il {q0 : Kd} (v0 : List GTask) (v1_0_0 : ByteArray) (v7 v8 : Int) (g0 : GTask) (h0 : (decide (v8 < v7)) = true) (h1 : am v0 v8 = some g0) (h2 : (fi g0 v1_0_0) = false) : cJ (ba q0 v0 v1_0_0 v7 v8) .normal (ba q0 v0 v1_0_0 v7 (inc v8)) :=
 IV [.b true, .row ((GTask.t q0) g0), rF] _ (fun k => by kernel_rfl) (AC h0 <| AC (p := 0 ≤ v8 ∧ (v0.map (GTask.t q0))[v8.toNat]? = some ((GTask.t q0) g0)) (az h1) <| AD (I8 (qb g0 v1_0_0) h2) <| AN)
theorem ip {q0 : Kd} (v0 : List GTask) (v1_0_0 : ByteArray) (v7 v8 : Int) (h0 : (decide (v8 < v7)) = false) : cJ (ba q0 v0 v1_0_0 v7 v8) (.exit 0) (cy q0) :=
 IV [.b false] _ (fun k => by kernel_rfl) (AC h0 <| AN)
noncomputable def aU (v1_0_0 : ByteArray) : List GTask → Nat → Option eo
 | [], i => some (.x0)
 | hd :: rest, i => cond (fi hd v1_0_0)
  (some (.ret (i : Int)))
  (aU v1_0_0 rest (i + 1))
theorem jd {q0 : Kd} (v0 : List GTask) (v1_0_0 : ByteArray) (rest : List GTask) : ∀ (i : Nat) , (v0).drop i = rest → v0.length ≤ 9223372036854775807 → Ans (aU v1_0_0 rest i) (je (q0 := q0) v0 v1_0_0 (v0.length : Int) (i : Int)) := by
 induction rest with
 | nil =>
  intro i hE hl
  have hb := bH hE
  unfold aU
  exact IX (IZ (ip (q0 := q0) v0 v1_0_0 (v0.length : Int) (i : Int) hb) (by intro h; cases h))
 | cons hd rest ih =>
  intro i hE hl
  have hb := bh hE
  have hw := bi hE hl
  have hE2 := aK hE
  have hg := bq hE
  unfold aU
  refine I3 (fun h2 => ?_) (fun h2 => ?_)
  ·exact IX (IZ (ik (q0 := q0) v0 v1_0_0 (v0.length : Int) (i : Int) hd hb hg h2) (by intro h; cases h))
  ·exact (ih (i + 1) hE2 hl).mono fun y hy => by have r := il (q0 := q0) v0 v1_0_0 (v0.length : Int) (i : Int) hd hb hg h2; rw [hw] at r; cases y <;> exact IY r hy
noncomputable def cO (x0 : List GTask) (c1_0 : ByteArray) : Option (Int) :=
  if x0.length ≤ 9223372036854775807 then (aU c1_0 x0 0).bind fun y => match y with
   | .ret w0_4 => (some (w0_4))
   | .x0 => (some ((-1 : Int))) else none
theorem jn {q0 : Kd} (x0 : List GTask) (c1_0 : ByteArray) : Ans (cO x0 c1_0) (fun r => Does E 36 [.one (.s .far () 5 (x0.map (GTask.t q0))), .fni 37 [((), [tS c1_0])]] [(false, [tI r])]) := by
 unfold cO
 refine I5 (fun hl1 => ?_)
 refine I4 (fun y hy => ?_)
 replace hy := jd (q0 := q0) x0 c1_0 x0 0 rfl hl1 y hy
 cases y with
 | ret w0_4 =>
  have h0 := hy
  exact IX (IW (fn := Tryz.f36) [.val (.int .i64 (x0.length : Int)), .lp .ret (cq q0 w0_4)] _ rfl (fun _ => rfl) (fun k => by kernel_rfl) (AC (p := ((x0.map (GTask.t q0)).length : Int) = (x0.length : Int)) ag <| AL h0 <| AN))
 | x0 =>
  have h0 := hy
  exact IX (IW (fn := Tryz.f36) [.val (.int .i64 (x0.length : Int)), .lp (.exit 0) (cy q0)] _ rfl (fun _ => rfl) (fun k => by kernel_rfl) (AC (p := ((x0.map (GTask.t q0)).length : Int) = (x0.length : Int)) ag <| AL h0 <| AN))
theorem Hh (n : ByteArray) : ∀ (l : List GTask) (i : Nat), (aU n l i).bind (fun y => match y with
   | .ret w0_4 => (some (w0_4))
   | .x0 => (some ((-1 : Int)))) = some (ki n l i)
 | [], i => rfl
 | t :: l, i => by
  unfold aU ki
  cases fi t n with
  | true => rfl
  | false => exact Hh n l (i + 1)
theorem jg {q0 : Kd} (x0 : List GTask) (c1_0 : ByteArray) (h : x0.length ≤ 1050000) : Does E 36 [.one (.s .far () 5 (x0.map (GTask.t q0))), .fni 37 [((), [tS c1_0])]] [(false, [tI (ap x0 c1_0)])] := by
 exact jn x0 c1_0 _ (by unfold cO; rw [if_pos (by omega)]; exact Hh c1_0 x0 0)
noncomputable def o8 (x0 : GDag) (x1 : ByteArray) : Option (Int) :=
  if x0.f5.length ≤ 1050000 then some (ap x0.f5 x1) else none
theorem DP {q0 : Kd} (x0 : GDag) (x1 : ByteArray) : Ans (o8 x0 x1) (fun r => Does E 21 [.agg (GDag.t .far q0 x0), .one (tS x1)] [(false, [tI r])]) := by
 unfold o8
 refine I5 (fun h0 => ?_)
 exact IX (IW (fn := Tryz.f21) [.ret [(false, [tI (ap x0.f5 x1)])]] _ rfl (fun _ => rfl) (fun k => by kernel_rfl) (AV (ψ := fun k => E.C k 36 [.one (.s .far () 5 (x0.f5.map (GTask.t q0))), .fni 37 [((), [tS x1])]] = some [(false, [tI (ap x0.f5 x1)])]) (jg x0.f5 x1 h0) <| AN))
def bm (d : GDag) (n : ByteArray) : Int := ap d.f5 n
theorem ew {q0 : Kd} (x0 : GDag) (x1 : ByteArray) (h : x0.f5.length ≤ 1050000) : Does E 21 [.agg (GDag.t .far q0 x0), .one (tS x1)] [(false, [tI (bm x0 x1)])] := by
 exact DP x0 x1 _ (by unfold o8; rw [if_pos h]; rfl)
end Go.Proofs.YtfbhcpmlihdmcaaGreatDoor.Am
namespace Go.Proofs.YtfbhcpmlihdmcaaGreatDoor.Am
open Go Go.Proofs Classical
set_option maxRecDepth 100000
set_option linter.unusedVariables false
set_option linter.unusedSimpArgs false
inductive nj where
 | ret (v6 : Bool)
 | x0 
def ek (q0 : Kd) (v0_0 v0_1 : ByteArray) (v0_2 v0_3 : Int) (v0_4 : Bool) (v0_5 : List GTask) (v2 : List Int) (v10 : List ByteArray) (v11 v12 : Int) : US := stL 25 [(0, .im .far () [tS v0_0, tS v0_1, tI v0_2, tI v0_3, tB v0_4, .s .far () 5 (v0_5.map (GTask.t q0))] 0), (2, .one (.s .far () 1 (v2.map etI))), (10, .one (.s .far () 1 (v10.map etS))), (11, .one (tI v11)), (12, .one (tI v12))]
def iz (q0 : Kd) (zv6 : Bool) : US := stL 25 [(6, .one (tB zv6))]
def jh (q0 : Kd)  : US := stL 25 []
abbrev ku : US → Exit → US → Prop := Round E 40 (aB Tryz.f40 0)
def uI {q0 : Kd} (v0_0 v0_1 : ByteArray) (v0_2 v0_3 : Int) (v0_4 : Bool) (v0_5 : List GTask) (v2 : List Int) (v10 : List ByteArray) (v11 v12 : Int) : nj → Prop
 | .ret zv6 => Loops E 40 (aB Tryz.f40 0) (ek q0 v0_0 v0_1 v0_2 v0_3 v0_4 v0_5 v2 v10 v11 v12) .ret (iz q0 zv6)
 | .x0 => Loops E 40 (aB Tryz.f40 0) (ek q0 v0_0 v0_1 v0_2 v0_3 v0_4 v0_5 v2 v10 v11 v12) (.exit 0) (jh q0)
theorem rK {q0 : Kd} (v0_0 v0_1 : ByteArray) (v0_2 v0_3 : Int) (v0_4 : Bool) (v0_5 : List GTask) (v2 : List Int) (v10 : List ByteArray) (v11 v12 : Int) (g0 : ByteArray) (h0 : (decide (v12 < v11)) = true) (h1 : am v10 v12 = some g0) (h2 : (GDag.mk v0_0 v0_1 v0_2 v0_3 v0_4 v0_5).f5.length ≤ 1050000) (h3 : v2.length ≤ 1050000) (h4 : (bI v2 (bm (GDag.mk v0_0 v0_1 v0_2 v0_3 v0_4 v0_5) g0)) = true) : ku (ek q0 v0_0 v0_1 v0_2 v0_3 v0_4 v0_5 v2 v10 v11 v12) .normal (ek q0 v0_0 v0_1 v0_2 v0_3 v0_4 v0_5 v2 v10 v11 (inc v12)) :=
 IV [.b true, .row (etS g0), .ret [(false, [tI (bm (GDag.mk v0_0 v0_1 v0_2 v0_3 v0_4 v0_5) g0)])], rT] _ (fun k => by kernel_rfl) (AC h0 <| AC (p := 0 ≤ v12 ∧ (v10.map etS)[v12.toNat]? = some (etS g0)) (az h1) <| AV (ψ := fun k => E.C k 21 [.agg (GDag.t .far q0 (GDag.mk v0_0 v0_1 v0_2 v0_3 v0_4 v0_5)), .one (tS g0)] = some [(false, [tI (bm (GDag.mk v0_0 v0_1 v0_2 v0_3 v0_4 v0_5) g0)])]) (ew (GDag.mk v0_0 v0_1 v0_2 v0_3 v0_4 v0_5) g0 h2) <| AD (I8 (eb v2 (bm (GDag.mk v0_0 v0_1 v0_2 v0_3 v0_4 v0_5) g0) h3) h4) <| AN)
theorem rL {q0 : Kd} (v0_0 v0_1 : ByteArray) (v0_2 v0_3 : Int) (v0_4 : Bool) (v0_5 : List GTask) (v2 : List Int) (v10 : List ByteArray) (v11 v12 : Int) (g0 : ByteArray) (h0 : (decide (v12 < v11)) = true) (h1 : am v10 v12 = some g0) (h2 : (GDag.mk v0_0 v0_1 v0_2 v0_3 v0_4 v0_5).f5.length ≤ 1050000) (h3 : v2.length ≤ 1050000) (h4 : (bI v2 (bm (GDag.mk v0_0 v0_1 v0_2 v0_3 v0_4 v0_5) g0)) = false) : ku (ek q0 v0_0 v0_1 v0_2 v0_3 v0_4 v0_5 v2 v10 v11 v12) .ret (iz q0 false) :=
 IV [.b true, .row (etS g0), .ret [(false, [tI (bm (GDag.mk v0_0 v0_1 v0_2 v0_3 v0_4 v0_5) g0)])], rF] _ (fun k => by kernel_rfl) (AC h0 <| AC (p := 0 ≤ v12 ∧ (v10.map etS)[v12.toNat]? = some (etS g0)) (az h1) <| AV (ψ := fun k => E.C k 21 [.agg (GDag.t .far q0 (GDag.mk v0_0 v0_1 v0_2 v0_3 v0_4 v0_5)), .one (tS g0)] = some [(false, [tI (bm (GDag.mk v0_0 v0_1 v0_2 v0_3 v0_4 v0_5) g0)])]) (ew (GDag.mk v0_0 v0_1 v0_2 v0_3 v0_4 v0_5) g0 h2) <| AD (I8 (eb v2 (bm (GDag.mk v0_0 v0_1 v0_2 v0_3 v0_4 v0_5) g0) h3) h4) <| AN)
theorem rM {q0 : Kd} (v0_0 v0_1 : ByteArray) (v0_2 v0_3 : Int) (v0_4 : Bool) (v0_5 : List GTask) (v2 : List Int) (v10 : List ByteArray) (v11 v12 : Int) (h0 : (decide (v12 < v11)) = false) : ku (ek q0 v0_0 v0_1 v0_2 v0_3 v0_4 v0_5 v2 v10 v11 v12) (.exit 0) (jh q0) :=
 IV [.b false] _ (fun k => by kernel_rfl) (AC h0 <| AN)
noncomputable def dy (v0_0 v0_1 : ByteArray) (v0_2 v0_3 : Int) (v0_5 : List GTask) (v2 : List Int) : List ByteArray → Nat → Bool → Option nj
 | [], i, v0_4 => some (.x0)
 | hd :: rest, i, v0_4 => if (GDag.mk v0_0 v0_1 v0_2 v0_3 v0_4 v0_5).f5.length ≤ 1050000 then if v2.length ≤ 1050000 then cond (bI v2 (bm (GDag.mk v0_0 v0_1 v0_2 v0_3 v0_4 v0_5) hd))
  (dy v0_0 v0_1 v0_2 v0_3 v0_5 v2 rest (i + 1) v0_4)
  (some (.ret false)) else none else none
theorem uH {q0 : Kd} (v0_0 v0_1 : ByteArray) (v0_2 v0_3 : Int) (v0_5 : List GTask) (v2 : List Int) (v10 : List ByteArray) (rest : List ByteArray) : ∀ (i : Nat) (v0_4 : Bool), (v10).drop i = rest → v10.length ≤ 9223372036854775807 → Ans (dy v0_0 v0_1 v0_2 v0_3 v0_5 v2 rest i v0_4) (uI (q0 := q0) v0_0 v0_1 v0_2 v0_3 v0_4 v0_5 v2 v10 (v10.length : Int) (i : Int)) := by
 induction rest with
 | nil =>
  intro i v0_4 hE hl
  have hb := bH hE
  unfold dy
  exact IX (IZ (rM (q0 := q0) v0_0 v0_1 v0_2 v0_3 v0_4 v0_5 v2 v10 (v10.length : Int) (i : Int) hb) (by intro h; cases h))
 | cons hd rest ih =>
  intro i v0_4 hE hl
  have hb := bh hE
  have hw := bi hE hl
  have hE2 := aK hE
  have hg := bq hE
  unfold dy
  refine I5 (fun h2 => ?_)
  refine I5 (fun h3 => ?_)
  refine I3 (fun h4 => ?_) (fun h4 => ?_)
  ·exact (ih (i + 1) v0_4 hE2 hl).mono fun y hy => by have r := rK (q0 := q0) v0_0 v0_1 v0_2 v0_3 v0_4 v0_5 v2 v10 (v10.length : Int) (i : Int) hd hb hg h2 h3 h4; rw [hw] at r; cases y <;> exact IY r hy
  ·exact IX (IZ (rL (q0 := q0) v0_0 v0_1 v0_2 v0_3 v0_4 v0_5 v2 v10 (v10.length : Int) (i : Int) hd hb hg h2 h3 h4) (by intro h; cases h))
noncomputable def iS (x0 : GDag) (x1 : GTask) (x2 : List Int) : Option (Bool) :=
  if x1.f4.length ≤ 9223372036854775807 then (dy x0.f0 x0.f1 x0.f2 x0.f3 x0.f5 x2 x1.f4 0 x0.f4).bind fun y => match y with
   | .ret w0_6 => (some (w0_6))
   | .x0 => (some (true)) else none
theorem vZ {q0 : Kd} (x0 : GDag) (x1 : GTask) (x2 : List Int) : Ans (iS x0 x1 x2) (fun r => Does E 40 [.im .far () (GDag.t .far q0 x0) 0, .agg (GTask.t .far x1), .one (.s .far () 1 (x2.map etI))] [(false, [tB r])]) := by
 unfold iS
 refine I5 (fun hl1 => ?_)
 refine I4 (fun y hy => ?_)
 replace hy := uH (q0 := q0) x0.f0 x0.f1 x0.f2 x0.f3 x0.f5 x2 x1.f4 x1.f4 0 x0.f4 rfl hl1 y hy
 cases y with
 | ret w0_6 =>
  have h0 := hy
  exact IX (IW (fn := Tryz.f40) [.val (.int .i64 (x1.f4.length : Int)), .lp .ret (iz q0 w0_6)] _ rfl (fun _ => rfl) (fun k => by kernel_rfl) (AC (p := ((x1.f4.map etS).length : Int) = (x1.f4.length : Int)) ag <| AL h0 <| AN))
 | x0 =>
  have h0 := hy
  exact IX (IW (fn := Tryz.f40) [.val (.int .i64 (x1.f4.length : Int)), .lp (.exit 0) (jh q0)] _ rfl (fun _ => rfl) (fun k => by kernel_rfl) (AC (p := ((x1.f4.map etS).length : Int) = (x1.f4.length : Int)) ag <| AL h0 <| AN))
def nh (ts : List GTask) (o : List Int) (t : GTask) : Bool := t.f4.all fun n => bI o (ap ts n)
def qQ (d : GDag) (t : GTask) (o : List Int) : Bool := nh d.f5 o t
theorem EX (a b : ByteArray) (c e : Int) (ts : List GTask) (o : List Int) (ht : ts.length ≤ 1050000) (ho : o.length ≤ 1050000) : ∀ (l : List ByteArray) (i : Nat) (z : Bool), dy a b c e ts o l i z = some (cond (l.all fun n => bI o (ap ts n)) .x0 (.ret false))
 | [], i, z => rfl
 | n :: l, i, z => by
  unfold dy
  rw [if_pos (show (GDag.mk a b c e z ts).f5.length ≤ 1050000 from ht), if_pos ho, List.all_cons, EX a b c e ts o ht ho l (i + 1) z]
  show cond (bI o (ap ts n)) _ _ = _
  cases bI o (ap ts n) <;> rfl
theorem Hq (d : GDag) (t : GTask) (o : List Int) (h1 : d.f5.length ≤ 1050000) (h2 : t.f4.length ≤ 1050000) (h3 : o.length ≤ 1050000) : iS d t o = some (qQ d t o) := by
 unfold iS
 rw [if_pos (by omega), EX _ _ _ _ _ _ h1 h3]
 show _ = some (t.f4.all fun n => bI o (ap d.f5 n))
 cases t.f4.all fun n => bI o (ap d.f5 n) <;> rfl
theorem vC {q0 : Kd} (x0 : GDag) (x1 : GTask) (x2 : List Int) (h1 : x0.f5.length ≤ 1050000) (h2 : x1.f4.length ≤ 1050000) (h3 : x2.length ≤ 1050000) : Does E 40 [.im .far () (GDag.t .far q0 x0) 0, .agg (GTask.t .far x1), .one (.s .far () 1 (x2.map etI))] [(false, [tB (qQ x0 x1 x2)])] := by
 exact vZ x0 x1 x2 _ (Hq x0 x1 x2 h1 h2 h3)
noncomputable def lW (x0 : GTask) (y0 : List Int) (y1 : GDag) : Option (Bool) :=
  if y1.f5.length ≤ 1050000 then if y0.length ≤ 1050000 then cond (bI y0 (bm y1 x0.f0))
   (some (false))
   (if x0.f4.length ≤ 1050000 then some (qQ y1 x0 y0) else none) else none else none
theorem yE {qy1 : Kd} (x0 : GTask) (y0 : List Int) (y1 : GDag) : Ans (lW x0 y0 y1) (fun r => Does E 38 [.agg (GTask.t .far x0), .im .far () [.s .far () 1 (y0.map etI)] 0, .im .far () [tS y1.f0, tS y1.f1, tI y1.f2, tI y1.f3, tB y1.f4, .s .far () 5 (y1.f5.map (GTask.t qy1))] 0] [(false, [tB r])]) := by
 unfold lW
 refine I5 (fun h0 => ?_)
 refine I5 (fun h1 => ?_)
 refine I3 (fun h2 => ?_) (fun h2 => ?_)
 ·exact IX (IW (fn := Tryz.f38) [.ret [(false, [tI (bm y1 x0.f0)])], rT] _ rfl (fun _ => rfl) (fun k => by kernel_rfl) (AV (ψ := fun k => E.C k 21 [.agg (GDag.t .far qy1 y1), .one (tS x0.f0)] = some [(false, [tI (bm y1 x0.f0)])]) (ew y1 x0.f0 h0) <| AD (I8 (eb y0 (bm y1 x0.f0) h1) h2) <| AN))
 ·refine I5 (fun h3 => ?_)
  exact IX (IW (fn := Tryz.f38) [.ret [(false, [tI (bm y1 x0.f0)])], rF, .ret [(false, [tB (qQ y1 x0 y0)])]] _ rfl (fun _ => rfl) (fun k => by kernel_rfl) (AV (ψ := fun k => E.C k 21 [.agg (GDag.t .far qy1 y1), .one (tS x0.f0)] = some [(false, [tI (bm y1 x0.f0)])]) (ew y1 x0.f0 h0) <| AD (I8 (eb y0 (bm y1 x0.f0) h1) h2) <| AV (ψ := fun k => E.C k 40 [.im .far () [tS y1.f0, tS y1.f1, tI y1.f2, tI y1.f3, tB y1.f4, .s .far () 5 (y1.f5.map (GTask.t qy1))] 0, .agg (GTask.t .far x0), .one (.s .far () 1 (y0.map etI))] = some [(false, [tB (qQ y1 x0 y0)])]) (vC y1 x0 y0 h0 h3 h1) <| AN))
def mR (t : GTask) (o : List Int) (d : GDag) : Bool := !bI o (ap d.f5 t.f0) && nh d.f5 o t
theorem py {qy1 : Kd} (x0 : GTask) (y0 : List Int) (y1 : GDag) (h1 : y1.f5.length ≤ 1050000) (h2 : x0.f4.length ≤ 1050000) (h3 : y0.length ≤ 1050000) : Does E 38 [.agg (GTask.t .far x0), .im .far () [.s .far () 1 (y0.map etI)] 0, .im .far () [tS y1.f0, tS y1.f1, tI y1.f2, tI y1.f3, tB y1.f4, .s .far () 5 (y1.f5.map (GTask.t qy1))] 0] [(false, [tB (mR x0 y0 y1)])] := by
 exact yE x0 y0 y1 _ (by
  unfold lW mR
  simp only [h1, h2, h3, if_true]
  show cond (bI y0 (ap y1.f5 x0.f0)) _ _ = _
  cases bI y0 (ap y1.f5 x0.f0) <;> rfl)
inductive d9 where
 | ret (v4 : Int)
 | x0 
def a7 (q0 : Kd) (qc1_1 : Kd) (v0 : List GTask) (v1_0_0 : List Int) (v1_1_0 v1_1_1 : ByteArray) (v1_1_2 v1_1_3 : Int) (v1_1_4 : Bool) (v1_1_5 : List GTask) (v7 v8 : Int) : US := stL 19 [(0, .one (.s .far () 5 (v0.map (GTask.t q0)))), (1, .fni 38 [((), [.s .far () 1 (v1_0_0.map etI)]), ((), [tS v1_1_0, tS v1_1_1, tI v1_1_2, tI v1_1_3, tB v1_1_4, .s .far () 5 (v1_1_5.map (GTask.t qc1_1))])]), (7, .one (tI v7)), (8, .one (tI v8))]
def cj (q0 : Kd) (qc1_1 : Kd) (zv4 : Int) : US := stL 19 [(4, .one (tI zv4))]
def cr (q0 : Kd) (qc1_1 : Kd)  : US := stL 19 []
abbrev cB : US → Exit → US → Prop := Round E 36 (aB Tryz.f36 0)
def iJ {q0 : Kd} {qc1_1 : Kd} (v0 : List GTask) (v1_0_0 : List Int) (v1_1_0 v1_1_1 : ByteArray) (v1_1_2 v1_1_3 : Int) (v1_1_4 : Bool) (v1_1_5 : List GTask) (v7 v8 : Int) : d9 → Prop
 | .ret zv4 => Loops E 36 (aB Tryz.f36 0) (a7 q0 qc1_1 v0 v1_0_0 v1_1_0 v1_1_1 v1_1_2 v1_1_3 v1_1_4 v1_1_5 v7 v8) .ret (cj q0 qc1_1 zv4)
 | .x0 => Loops E 36 (aB Tryz.f36 0) (a7 q0 qc1_1 v0 v1_0_0 v1_1_0 v1_1_1 v1_1_2 v1_1_3 v1_1_4 v1_1_5 v7 v8) (.exit 0) (cr q0 qc1_1)
theorem gX {q0 : Kd} {qc1_1 : Kd} (v0 : List GTask) (v1_0_0 : List Int) (v1_1_0 v1_1_1 : ByteArray) (v1_1_2 v1_1_3 : Int) (v1_1_4 : Bool) (v1_1_5 : List GTask) (v7 v8 : Int) (g0 : GTask) (h0 : (decide (v8 < v7)) = true) (h1 : am v0 v8 = some g0) (h2 : (GDag.mk v1_1_0 v1_1_1 v1_1_2 v1_1_3 v1_1_4 v1_1_5).f5.length ≤ 1050000) (h3 : g0.f4.length ≤ 1050000) (h4 : v1_0_0.length ≤ 1050000) (h5 : (mR g0 v1_0_0 (GDag.mk v1_1_0 v1_1_1 v1_1_2 v1_1_3 v1_1_4 v1_1_5)) = true) : cB (a7 q0 qc1_1 v0 v1_0_0 v1_1_0 v1_1_1 v1_1_2 v1_1_3 v1_1_4 v1_1_5 v7 v8) .ret (cj q0 qc1_1 v8) :=
 IV [.b true, .row ((GTask.t q0) g0), rT] _ (fun k => by kernel_rfl) (AC h0 <| AC (p := 0 ≤ v8 ∧ (v0.map (GTask.t q0))[v8.toNat]? = some ((GTask.t q0) g0)) (az h1) <| AV (ψ := fun k => E.C k 38 [.agg (GTask.t .far g0), .im .far () [.s .far () 1 (v1_0_0.map etI)] 0, .im .far () [tS v1_1_0, tS v1_1_1, tI v1_1_2, tI v1_1_3, tB v1_1_4, .s .far () 5 (v1_1_5.map (GTask.t qc1_1))] 0] = some [(false, [tB true])]) (I6 (py g0 v1_0_0 (GDag.mk v1_1_0 v1_1_1 v1_1_2 v1_1_3 v1_1_4 v1_1_5) h2 h3 h4) (by rw [h5])) <| AN)
theorem gY {q0 : Kd} {qc1_1 : Kd} (v0 : List GTask) (v1_0_0 : List Int) (v1_1_0 v1_1_1 : ByteArray) (v1_1_2 v1_1_3 : Int) (v1_1_4 : Bool) (v1_1_5 : List GTask) (v7 v8 : Int) (g0 : GTask) (h0 : (decide (v8 < v7)) = true) (h1 : am v0 v8 = some g0) (h2 : (GDag.mk v1_1_0 v1_1_1 v1_1_2 v1_1_3 v1_1_4 v1_1_5).f5.length ≤ 1050000) (h3 : g0.f4.length ≤ 1050000) (h4 : v1_0_0.length ≤ 1050000) (h5 : (mR g0 v1_0_0 (GDag.mk v1_1_0 v1_1_1 v1_1_2 v1_1_3 v1_1_4 v1_1_5)) = false) : cB (a7 q0 qc1_1 v0 v1_0_0 v1_1_0 v1_1_1 v1_1_2 v1_1_3 v1_1_4 v1_1_5 v7 v8) .normal (a7 q0 qc1_1 v0 v1_0_0 v1_1_0 v1_1_1 v1_1_2 v1_1_3 v1_1_4 v1_1_5 v7 (inc v8)) :=
 IV [.b true, .row ((GTask.t q0) g0), rF] _ (fun k => by kernel_rfl) (AC h0 <| AC (p := 0 ≤ v8 ∧ (v0.map (GTask.t q0))[v8.toNat]? = some ((GTask.t q0) g0)) (az h1) <| AV (ψ := fun k => E.C k 38 [.agg (GTask.t .far g0), .im .far () [.s .far () 1 (v1_0_0.map etI)] 0, .im .far () [tS v1_1_0, tS v1_1_1, tI v1_1_2, tI v1_1_3, tB v1_1_4, .s .far () 5 (v1_1_5.map (GTask.t qc1_1))] 0] = some [(false, [tB false])]) (I6 (py g0 v1_0_0 (GDag.mk v1_1_0 v1_1_1 v1_1_2 v1_1_3 v1_1_4 v1_1_5) h2 h3 h4) (by rw [h5])) <| AN)
theorem gZ {q0 : Kd} {qc1_1 : Kd} (v0 : List GTask) (v1_0_0 : List Int) (v1_1_0 v1_1_1 : ByteArray) (v1_1_2 v1_1_3 : Int) (v1_1_4 : Bool) (v1_1_5 : List GTask) (v7 v8 : Int) (h0 : (decide (v8 < v7)) = false) : cB (a7 q0 qc1_1 v0 v1_0_0 v1_1_0 v1_1_1 v1_1_2 v1_1_3 v1_1_4 v1_1_5 v7 v8) (.exit 0) (cr q0 qc1_1) :=
 IV [.b false] _ (fun k => by kernel_rfl) (AC h0 <| AN)
noncomputable def aS (v1_0_0 : List Int) (v1_1_0 v1_1_1 : ByteArray) (v1_1_2 v1_1_3 : Int) (v1_1_5 : List GTask) : List GTask → Nat → Bool → Option d9
 | [], i, v1_1_4 => some (.x0)
 | hd :: rest, i, v1_1_4 => if (GDag.mk v1_1_0 v1_1_1 v1_1_2 v1_1_3 v1_1_4 v1_1_5).f5.length ≤ 1050000 then if hd.f4.length ≤ 1050000 then if v1_0_0.length ≤ 1050000 then cond (mR hd v1_0_0 (GDag.mk v1_1_0 v1_1_1 v1_1_2 v1_1_3 v1_1_4 v1_1_5))
  (some (.ret (i : Int)))
  (aS v1_0_0 v1_1_0 v1_1_1 v1_1_2 v1_1_3 v1_1_5 rest (i + 1) v1_1_4) else none else none else none
theorem iI {q0 : Kd} {qc1_1 : Kd} (v0 : List GTask) (v1_0_0 : List Int) (v1_1_0 v1_1_1 : ByteArray) (v1_1_2 v1_1_3 : Int) (v1_1_5 : List GTask) (rest : List GTask) : ∀ (i : Nat) (v1_1_4 : Bool), (v0).drop i = rest → v0.length ≤ 9223372036854775807 → Ans (aS v1_0_0 v1_1_0 v1_1_1 v1_1_2 v1_1_3 v1_1_5 rest i v1_1_4) (iJ (q0 := q0) (qc1_1 := qc1_1) v0 v1_0_0 v1_1_0 v1_1_1 v1_1_2 v1_1_3 v1_1_4 v1_1_5 (v0.length : Int) (i : Int)) := by
 induction rest with
 | nil =>
  intro i v1_1_4 hE hl
  have hb := bH hE
  unfold aS
  exact IX (IZ (gZ (q0 := q0) (qc1_1 := qc1_1) v0 v1_0_0 v1_1_0 v1_1_1 v1_1_2 v1_1_3 v1_1_4 v1_1_5 (v0.length : Int) (i : Int) hb) (by intro h; cases h))
 | cons hd rest ih =>
  intro i v1_1_4 hE hl
  have hb := bh hE
  have hw := bi hE hl
  have hE2 := aK hE
  have hg := bq hE
  unfold aS
  refine I5 (fun h2 => ?_)
  refine I5 (fun h3 => ?_)
  refine I5 (fun h4 => ?_)
  refine I3 (fun h5 => ?_) (fun h5 => ?_)
  ·exact IX (IZ (gX (q0 := q0) (qc1_1 := qc1_1) v0 v1_0_0 v1_1_0 v1_1_1 v1_1_2 v1_1_3 v1_1_4 v1_1_5 (v0.length : Int) (i : Int) hd hb hg h2 h3 h4 h5) (by intro h; cases h))
  ·exact (ih (i + 1) v1_1_4 hE2 hl).mono fun y hy => by have r := gY (q0 := q0) (qc1_1 := qc1_1) v0 v1_0_0 v1_1_0 v1_1_1 v1_1_2 v1_1_3 v1_1_4 v1_1_5 (v0.length : Int) (i : Int) hd hb hg h2 h3 h4 h5; rw [hw] at r; cases y <;> exact IY r hy
noncomputable def bX (x0 : List GTask) (c1_0 : List Int) (c1_1 : GDag) : Option (Int) :=
  if x0.length ≤ 9223372036854775807 then (aS c1_0 c1_1.f0 c1_1.f1 c1_1.f2 c1_1.f3 c1_1.f5 x0 0 c1_1.f4).bind fun y => match y with
   | .ret w0_4 => (some (w0_4))
   | .x0 => (some ((-1 : Int))) else none
theorem jf {q0 : Kd} {qc1_1 : Kd} (x0 : List GTask) (c1_0 : List Int) (c1_1 : GDag) : Ans (bX x0 c1_0 c1_1) (fun r => Does E 36 [.one (.s .far () 5 (x0.map (GTask.t q0))), .fni 38 [((), [.s .far () 1 (c1_0.map etI)]), ((), [tS c1_1.f0, tS c1_1.f1, tI c1_1.f2, tI c1_1.f3, tB c1_1.f4, .s .far () 5 (c1_1.f5.map (GTask.t qc1_1))])]] [(false, [tI r])]) := by
 unfold bX
 refine I5 (fun hl1 => ?_)
 refine I4 (fun y hy => ?_)
 replace hy := iI (q0 := q0) (qc1_1 := qc1_1) x0 c1_0 c1_1.f0 c1_1.f1 c1_1.f2 c1_1.f3 c1_1.f5 x0 0 c1_1.f4 rfl hl1 y hy
 cases y with
 | ret w0_4 =>
  have h0 := hy
  exact IX (IW (fn := Tryz.f36) [.val (.int .i64 (x0.length : Int)), .lp .ret (cj q0 qc1_1 w0_4)] _ rfl (fun _ => rfl) (fun k => by kernel_rfl) (AC (p := ((x0.map (GTask.t q0)).length : Int) = (x0.length : Int)) ag <| AL h0 <| AN))
 | x0 =>
  have h0 := hy
  exact IX (IW (fn := Tryz.f36) [.val (.int .i64 (x0.length : Int)), .lp (.exit 0) (cr q0 qc1_1)] _ rfl (fun _ => rfl) (fun k => by kernel_rfl) (AC (p := ((x0.map (GTask.t q0)).length : Int) = (x0.length : Int)) ag <| AL h0 <| AN))
def dN (o : List Int) (ts : List GTask) : List GTask → Nat → Option Nat
 | [], _ => none
 | t :: r, i => if (!bI o (ap ts t.f0) && nh ts o t) = true then some i else dN o ts r (i + 1)
def br (l : List GTask) (o : List Int) (d : GDag) : Int := match dN o d.f5 l 0 with | some i => (i : Int) | none => -1
theorem Fb (o : List Int) (a b : ByteArray) (c e : Int) (ts : List GTask) (ht : ts.length ≤ 1050000) (ho : o.length ≤ 1050000) : ∀ (l : List GTask) (i : Nat) (z : Bool), aq.sm l → aS o a b c e ts l i z = some (match dN o ts l i with | some k => .ret (k : Int) | none => .x0)
 | [], i, z, _ => rfl
 | t :: l, i, z, hl => by
  unfold aS dN
  have h4 : t.f4.length ≤ 1050000 := (hl.2 t (by simp)).2.2.1
  rw [if_pos (show (GDag.mk a b c e z ts).f5.length ≤ 1050000 from ht), if_pos h4, if_pos ho, Fb o a b c e ts ht ho l (i + 1) z ⟨by have := hl.1; simp at this; omega, fun y hy => hl.2 y (by simp [hy])⟩]
  show cond (!bI o (ap ts t.f0) && nh ts o t) _ _ = _
  cases (!bI o (ap ts t.f0) && nh ts o t) <;> rfl
theorem Hx (l : List GTask) (o : List Int) (d : GDag) (h1 : aq.sm l) (h2 : d.f5.length ≤ 1050000) (h3 : o.length ≤ 1050000) : bX l o d = some (br l o d) := by
 unfold bX br
 rw [if_pos (by have := h1.1; omega), Fb o d.f0 d.f1 d.f2 d.f3 d.f5 h2 h3 l 0 d.f4 h1]
 cases dN o d.f5 l 0 <;> rfl
theorem ed {q0 : Kd} {qc1_1 : Kd} (x0 : List GTask) (c1_0 : List Int) (c1_1 : GDag) (h1 : aq.sm x0) (h2 : c1_1.f5.length ≤ 1050000) (h3 : c1_0.length ≤ 1050000) : Does E 36 [.one (.s .far () 5 (x0.map (GTask.t q0))), .fni 38 [((), [.s .far () 1 (c1_0.map etI)]), ((), [tS c1_1.f0, tS c1_1.f1, tI c1_1.f2, tI c1_1.f3, tB c1_1.f4, .s .far () 5 (c1_1.f5.map (GTask.t qc1_1))])]] [(false, [tI (br x0 c1_0 c1_1)])] := by
 exact jf x0 c1_0 c1_1 _ (Hx x0 c1_0 c1_1 h1 h2 h3)
inductive qM where
 | ret (v2 : List Int)
def kw (q0 : Kd) (v1_0 v1_1 : ByteArray) (v1_2 v1_3 : Int) (v1_4 : Bool) (v1_5 : List GTask) (v3_0 : List Int) : US := stL 16 [(1, .box () [tS v1_0, tS v1_1, tI v1_2, tI v1_3, tB v1_4, .s .far () 5 (v1_5.map (GTask.t q0))]), (3, .box () [.s .own () 1 (v3_0.map etI)])]
def ia (q0 : Kd) (zv2 : List Int) : US := stL 16 [(2, .one (.s .own () 1 (zv2.map etI)))]
abbrev qL : US → Exit → US → Prop := Round E 22 (aB Tryz.f22 0)
def AA {q0 : Kd} (v1_0 v1_1 : ByteArray) (v1_2 v1_3 : Int) (v1_4 : Bool) (v1_5 : List GTask) (v3_0 : List Int) : qM → Prop
 | .ret zv2 => Loops E 22 (aB Tryz.f22 0) (kw q0 v1_0 v1_1 v1_2 v1_3 v1_4 v1_5 v3_0) .ret (ia q0 zv2)
theorem wk {q0 : Kd} (v1_0 v1_1 : ByteArray) (v1_2 v1_3 : Int) (v1_4 : Bool) (v1_5 : List GTask) (v3_0 : List Int) (h0 : aq.sm v1_5) (h1 : (GDag.mk v1_0 v1_1 v1_2 v1_3 v1_4 v1_5).f5.length ≤ 1050000) (h2 : v3_0.length ≤ 1050000) (h3 : (decide ((br v1_5 v3_0 (GDag.mk v1_0 v1_1 v1_2 v1_3 v1_4 v1_5)) < (0 : Int))) = true) : qL (kw q0 v1_0 v1_1 v1_2 v1_3 v1_4 v1_5 v3_0) .ret (ia q0 v3_0) :=
 Round.to (IV (D' := stL 16 [(2, .one (.s .own () 1 (((v3_0.map etI).drop 0).take (v3_0.map etI).length)))]) [.ret [(false, [tI (br v1_5 v3_0 (GDag.mk v1_0 v1_1 v1_2 v1_3 v1_4 v1_5))])], .b true] _ (fun k => by kernel_rfl) (AV (ψ := fun k => E.C k 36 [.one (.s .far () 5 (v1_5.map (GTask.t q0))), .fni 38 [((), [.s .far () 1 (v3_0.map etI)]), ((), [tS v1_0, tS v1_1, tI v1_2, tI v1_3, tB v1_4, .s .far () 5 (v1_5.map (GTask.t q0))])]] = some [(false, [tI (br v1_5 v3_0 (GDag.mk v1_0 v1_1 v1_2 v1_3 v1_4 v1_5))])]) (ed v1_5 v3_0 (GDag.mk v1_0 v1_1 v1_2 v1_3 v1_4 v1_5) h0 h1 h2) <| AC h3 <| AN)) (by simp only [ia, List.take_length, List.drop_zero])
theorem wn {q0 : Kd} (v1_0 v1_1 : ByteArray) (v1_2 v1_3 : Int) (v1_4 : Bool) (v1_5 : List GTask) (v3_0 : List Int) (h0 : aq.sm v1_5) (h1 : (GDag.mk v1_0 v1_1 v1_2 v1_3 v1_4 v1_5).f5.length ≤ 1050000) (h2 : v3_0.length ≤ 1050000) (h3 : (decide ((br v1_5 v3_0 (GDag.mk v1_0 v1_1 v1_2 v1_3 v1_4 v1_5)) < (0 : Int))) = false) (h4 : (v3_0.length + ([br v1_5 v3_0 (GDag.mk v1_0 v1_1 v1_2 v1_3 v1_4 v1_5)]).length) * 8 ≤ 140737488355328 ∧ v3_0.length + ([br v1_5 v3_0 (GDag.mk v1_0 v1_1 v1_2 v1_3 v1_4 v1_5)]).length ≤ 4611686018427387904) : qL (kw q0 v1_0 v1_1 v1_2 v1_3 v1_4 v1_5 v3_0) .normal (kw q0 v1_0 v1_1 v1_2 v1_3 v1_4 v1_5 (v3_0 ++ ([br v1_5 v3_0 (GDag.mk v1_0 v1_1 v1_2 v1_3 v1_4 v1_5)]))) :=
 IV [.ret [(false, [tI (br v1_5 v3_0 (GDag.mk v1_0 v1_1 v1_2 v1_3 v1_4 v1_5))])], .b false, .rows ((v3_0 ++ ([br v1_5 v3_0 (GDag.mk v1_0 v1_1 v1_2 v1_3 v1_4 v1_5)])).map etI)] _ (fun k => by kernel_rfl) (AV (ψ := fun k => E.C k 36 [.one (.s .far () 5 (v1_5.map (GTask.t q0))), .fni 38 [((), [.s .far () 1 (v3_0.map etI)]), ((), [tS v1_0, tS v1_1, tI v1_2, tI v1_3, tB v1_4, .s .far () 5 (v1_5.map (GTask.t q0))])]] = some [(false, [tI (br v1_5 v3_0 (GDag.mk v1_0 v1_1 v1_2 v1_3 v1_4 v1_5))])]) (ed v1_5 v3_0 (GDag.mk v1_0 v1_1 v1_2 v1_3 v1_4 v1_5) h0 h1 h2) <| AC h3 <| AC (p := (((([br v1_5 v3_0 (GDag.mk v1_0 v1_1 v1_2 v1_3 v1_4 v1_5)]).map etI).drop 0).take (([br v1_5 v3_0 (GDag.mk v1_0 v1_1 v1_2 v1_3 v1_4 v1_5)]).map etI).length).all (fun r => r.all T.flat) = true ∧ ((((v3_0.map etI).drop 0).take (v3_0.map etI).length).length + (((([br v1_5 v3_0 (GDag.mk v1_0 v1_1 v1_2 v1_3 v1_4 v1_5)]).map etI).drop 0).take (([br v1_5 v3_0 (GDag.mk v1_0 v1_1 v1_2 v1_3 v1_4 v1_5)]).map etI).length).length) * 8 ≤ 140737488355328 ∧ (((v3_0.map etI).drop 0).take (v3_0.map etI).length).length + (((([br v1_5 v3_0 (GDag.mk v1_0 v1_1 v1_2 v1_3 v1_4 v1_5)]).map etI).drop 0).take (([br v1_5 v3_0 (GDag.mk v1_0 v1_1 v1_2 v1_3 v1_4 v1_5)]).map etI).length).length ≤ 4611686018427387904) (by simp only [List.take_length, List.drop_zero]; exact ee (fun x => rfl) h4) <| AC (p := (((v3_0.map etI).drop 0).take (v3_0.map etI).length) ++ (((([br v1_5 v3_0 (GDag.mk v1_0 v1_1 v1_2 v1_3 v1_4 v1_5)]).map etI).drop 0).take (([br v1_5 v3_0 (GDag.mk v1_0 v1_1 v1_2 v1_3 v1_4 v1_5)]).map etI).length) = (v3_0 ++ ([br v1_5 v3_0 (GDag.mk v1_0 v1_1 v1_2 v1_3 v1_4 v1_5)])).map etI) (by simp only [List.take_length, List.drop_zero]; exact di) <| AN)
noncomputable def fO (v1_0 v1_1 : ByteArray) (v1_2 v1_3 : Int) (v1_5 : List GTask) : Nat → Bool → (List Int) → Option qM
 | 0, _, _ => none
 | n + 1, v1_4, v3_0 => if aq.sm v1_5 then if (GDag.mk v1_0 v1_1 v1_2 v1_3 v1_4 v1_5).f5.length ≤ 1050000 then if v3_0.length ≤ 1050000 then cond (decide ((br v1_5 v3_0 (GDag.mk v1_0 v1_1 v1_2 v1_3 v1_4 v1_5)) < (0 : Int)))
  (some (.ret v3_0))
  (if (v3_0.length + ([br v1_5 v3_0 (GDag.mk v1_0 v1_1 v1_2 v1_3 v1_4 v1_5)]).length) * 8 ≤ 140737488355328 ∧ v3_0.length + ([br v1_5 v3_0 (GDag.mk v1_0 v1_1 v1_2 v1_3 v1_4 v1_5)]).length ≤ 4611686018427387904 then fO v1_0 v1_1 v1_2 v1_3 v1_5 n v1_4 (v3_0 ++ ([br v1_5 v3_0 (GDag.mk v1_0 v1_1 v1_2 v1_3 v1_4 v1_5)])) else none) else none else none else none
theorem Az {q0 : Kd} (v1_0 v1_1 : ByteArray) (v1_2 v1_3 : Int) (v1_5 : List GTask) (n : Nat) : ∀ (v1_4 : Bool) (v3_0 : List Int), Ans (fO v1_0 v1_1 v1_2 v1_3 v1_5 n v1_4 v3_0) (AA (q0 := q0) v1_0 v1_1 v1_2 v1_3 v1_4 v1_5 v3_0) := by
 induction n with
 | zero => intros; exact Ans.none
 | succ n ih =>
  intro v1_4 v3_0
  unfold fO
  refine I5 (fun h0 => ?_)
  refine I5 (fun h1 => ?_)
  refine I5 (fun h2 => ?_)
  refine I3 (fun h3 => ?_) (fun h3 => ?_)
  ·exact IX (IZ (wk (q0 := q0) v1_0 v1_1 v1_2 v1_3 v1_4 v1_5 v3_0 h0 h1 h2 h3) (by intro h; cases h))
  ·refine I5 (fun h4 => ?_)
   exact (ih v1_4 (v3_0 ++ ([br v1_5 v3_0 (GDag.mk v1_0 v1_1 v1_2 v1_3 v1_4 v1_5)]))).mono fun y hy => by cases y <;> exact IY (wn (q0 := q0) v1_0 v1_1 v1_2 v1_3 v1_4 v1_5 v3_0 h0 h1 h2 h3 h4) hy
noncomputable def lA (x0 : GDag) : Option ((List Int)) :=
  (fO x0.f0 x0.f1 x0.f2 x0.f3 x0.f5 9223372036854775808 x0.f4 ([])).bind fun y => match y with
   | .ret w0_2 => (some (w0_2))
theorem Cj {q0 : Kd} (x0 : GDag) : Ans (lA x0) (fun r => Does E 22 [.agg (GDag.t .far q0 x0)] [(false, [.s .own () 1 (r.map etI)])]) := by
 unfold lA
 refine I4 (fun y hy => ?_)
 replace hy := Az (q0 := q0) x0.f0 x0.f1 x0.f2 x0.f3 x0.f5 9223372036854775808 x0.f4 ([]) y hy
 cases y with
 | ret w0_2 =>
  have h0 := hy
  exact IX (IW (fn := Tryz.f22) [.lp .ret (ia q0 w0_2)] _ rfl (fun _ => rfl) (fun k => by kernel_rfl) (AL h0 <| AN))
def ez (ts : List GTask) : Prop := ts.length ≤ 4 ∧ ∀ (i : Nat) (t : GTask), ts[i]? = some t → ap ts t.f0 = (i : Int)
def jw (ts : List GTask) : Nat → List Int → List Int
 | 0, o => o
 | k + 1, o => match dN o ts ts 0 with | none => o | some i => jw ts k (o ++ [(i : Int)])
def jv (ts : List GTask) : List Int := jw ts ts.length []
def ke (d : GDag) : List Int := jv d.f5
theorem AF {o : List Int} {x : Int} : bI o x = true ↔ x ∈ o := by
 unfold bI
 rw [List.any_eq_true]
 constructor
 ·rintro ⟨y, h, e⟩; rw [beq_iff_eq] at e; subst e; exact h
 ·intro h; exact ⟨x, h, by simp⟩
theorem pJ {o : List Int} {ts : List GTask} : ∀ {l : List GTask} {i k : Nat}, dN o ts l i = some k → ∃ t j, k = i + j ∧ l[j]? = some t ∧ bI o (ap ts t.f0) = false ∧ nh ts o t = true
 | [], i, k, h => by cases h
 | t :: l, i, k, h => by
  unfold dN at h
  split at h
  ·rename_i q
   cases h
   simp only [Bool.and_eq_true, Bool.not_eq_true'] at q
   exact ⟨t, 0, rfl, rfl, q.1, q.2⟩
  ·obtain ⟨u, j, h1, h2, h3⟩ := pJ h
   exact ⟨u, j + 1, by omega, h2, h3⟩
def rD (n : Nat) (o : List Int) : Nat := ((List.range n).filter fun i : Nat => !bI o (i : Int)).length
theorem xC {α : Type} {p q : α → Bool} : ∀ {l : List α}, (∀ y, q y = true → p y = true) → (l.filter q).length ≤ (l.filter p).length
 | [], _ => by simp
 | z :: l, h => by
  have ih := xC (l := l) h
  rw [List.filter_cons, List.filter_cons]
  cases a : q z with
  | true => rw [h z a]; simpa using ih
  | false => cases p z <;> simp <;> omega
theorem xD {α : Type} {p q : α → Bool} {x : α} : ∀ {l : List α}, (∀ y, q y = true → p y = true) → x ∈ l → p x = true → q x = false → (l.filter q).length < (l.filter p).length
 | y :: l, h, hx, h1, h2 => by
  have le := xC (l := l) h
  rw [List.filter_cons, List.filter_cons]
  rcases List.mem_cons.1 hx with rfl | hx
  ·rw [h1, h2]; simp; omega
  ·have := xD (l := l) h hx h1 h2
   cases a : q y with
   | true => rw [h y a]; simpa using this
   | false => cases p y <;> simp <;> omega
theorem E8 {n i : Nat} {o : List Int} (hi : i < n) (h : bI o (i : Int) = false) : rD n (o ++ [(i : Int)]) < rD n o := by
 unfold rD
 refine xD (p := fun i : Nat => !bI o (i : Int)) (q := fun j : Nat => !bI (o ++ [(i : Int)]) (j : Int)) (x := i) (fun y hy => ?_) (List.mem_range.2 hi) (by rw [h]; rfl) ?_
 ·rw [Bool.not_eq_true'] at hy ⊢
  rw [← Bool.not_eq_true, AF] at hy ⊢
  exact fun e => hy (by simp [e])
 ·have : bI (o ++ [(i : Int)]) (i : Int) = true := AF.2 (by simp)
  rw [this]; rfl
theorem Gj (n : Nat) : rD n [] = n := by
 unfold rD
 have : (List.range n).filter (fun i : Nat => !bI [] (i : Int)) = List.range n := List.filter_eq_self.2 fun a _ => rfl
 rw [this, List.length_range]
theorem C1 (a b : ByteArray) (c e : Int) (ts : List GTask) (hs : aq.sm ts) (hg : ez ts) : ∀ (k n : Nat) (o : List Int) (z : Bool), rD ts.length o ≤ k → k < n → o.length + k ≤ 1000 → fO a b c e ts n z o = some (.ret (jw ts k o))
 | k, 0, o, z, _, hn, _ => by omega
 | k, n + 1, o, z, hk, hn, hl => by
  unfold fO
  rw [if_pos hs, if_pos (show (GDag.mk a b c e z ts).f5.length ≤ 1050000 from hs.1), if_pos (by omega)]
  have hx : br ts o (GDag.mk a b c e z ts) = match dN o ts ts 0 with | some i => (i : Int) | none => -1 := rfl
  rw [hx]
  cases q : dN o ts ts 0 with
  | none =>
   have : jw ts k o = o := by
    cases k with
    | zero => rfl
    | succ k => unfold jw; rw [q]
   rw [this]; rfl
  | some i =>
   obtain ⟨t, j, h1, h2, h3, h4⟩ := pJ q
   have hij : i = j := by omega
   subst hij
   rw [hg.2 i t h2] at h3
   have hi : i < ts.length := by
    rcases Nat.lt_or_ge i ts.length with g | g
    ·exact g
    ·rw [List.getElem?_eq_none g] at h2; cases h2
   have less := E8 hi h3
   obtain ⟨k, rfl⟩ : ∃ m, k = m + 1 := ⟨k - 1, by omega⟩
   have ih := C1 a b c e ts hs hg k n (o ++ [(i : Int)]) z (by omega) (by omega) (by simp; omega)
   simp only
   rw [decide_eq_false (by omega), cond_false, if_pos (by simp; omega), ih]
   conv => rhs; unfold jw
   rw [q]
theorem Fh (d : GDag) (h : aq.sm d) (hg : ez d.f5) : lA d = some (ke d) := by
 have hs : aq.sm d.f5 := h.2.2
 unfold lA
 have := C1 d.f0 d.f1 d.f2 d.f3 d.f5 hs hg d.f5.length 9223372036854775808 [] d.f4 (by rw [Gj]; exact Nat.le_refl _) (by have := hg.1; omega) (by have := hg.1; simp; omega)
 refine (congrArg (Option.bind · _) this).trans rfl
theorem BQ {q0 : Kd} (x0 : GDag) (h : aq.sm x0) (hg : ez x0.f5) : Does E 22 [.agg (GDag.t .far q0 x0)] [(false, [.s .own () 1 ((ke x0).map etI)])] := by
 exact Cj x0 _ (Fh x0 h hg)
inductive pV where
 | x4 (v6 : Bool)
def fg (q0 : Kd) (v0 : List GTask) (v3 : List Int) (v4 v5 : Int) (v6 : Bool) (v7 : Int) : US := stL 57 [(0, .one (.s .far () 5 (v0.map (GTask.t q0)))), (3, .one (.s .own () 1 (v3.map etI))), (4, .one (tI v4)), (5, .one (tI v5)), (6, .one (tB v6)), (7, .one (tI v7))]
def ij (q0 : Kd) (v0 : List GTask) (v3 : List Int) (v4 v5 : Int) (zv6 : Bool) : US := stL 57 [(0, .one (.s .far () 5 (v0.map (GTask.t q0)))), (3, .one (.s .own () 1 (v3.map etI))), (4, .one (tI v4)), (5, .one (tI v5)), (6, .one (tB zv6))]
abbrev mb : US → Exit → US → Prop := Round E 15 (aB Tryz.f15 2)
def mc {q0 : Kd} (v0 : List GTask) (v3 : List Int) (v4 v5 : Int) (v6 : Bool) (v7 : Int) : pV → Prop
 | .x4 zv6 => Loops E 15 (aB Tryz.f15 2) (fg q0 v0 v3 v4 v5 v6 v7) (.exit 4) (ij q0 v0 v3 v4 v5 zv6)
theorem vp {q0 : Kd} (v0 : List GTask) (v3 : List Int) (v4 v5 v7 : Int) (g0 : GTask) (g1 : ByteArray) (h0 : am v0 v5 = some g0) (h1 : (decide (v7 < (g0.f4.length : Int))) = true) (h2 : am g0.f4 v7 = some g1) (h3 : v0.length ≤ 1050000) (h4 : v3.length ≤ 1050000) : mb (fg q0 v0 v3 v4 v5 true v7) .normal (fg q0 v0 v3 v4 v5 (bI v3 (ap v0 g1)) (inc v7)) :=
 IV [.row ((GTask.t q0) g0), .val (.int .i64 (g0.f4.length : Int)), .b true, .row ((GTask.t q0) g0), .row (etS g1), .ret [(false, [tI (ap v0 g1)])], .ret [(false, [tB (bI v3 (ap v0 g1))])]] _ (fun k => by kernel_rfl) (AC (p := 0 ≤ v5 ∧ (v0.map (GTask.t q0))[v5.toNat]? = some ((GTask.t q0) g0)) (az h0) <| AC (p := ((g0.f4.map etS).length : Int) = (g0.f4.length : Int)) ag <| AC h1 <| AC (p := 0 ≤ v5 ∧ (v0.map (GTask.t q0))[v5.toNat]? = some ((GTask.t q0) g0)) (az h0) <| AC (p := 0 ≤ v7 ∧ (g0.f4.map etS)[v7.toNat]? = some (etS g1)) (az h2) <| AV (ψ := fun k => E.C k 29 [.one (.s .far () 5 (v0.map (GTask.t q0))), .one (tS g1)] = some [(false, [tI (ap v0 g1)])]) (dV v0 g1 h3) <| AV (ψ := fun k => E.C k 31 [.one (.s .far () 1 (((v3.map etI).drop 0).take (v3.map etI).length)), .one (tI (ap v0 g1))] = some [(false, [tB (bI v3 (ap v0 g1))])]) (I7 (by simp only [List.take_length, List.drop_zero]) (nb v3 (ap v0 g1) h4)) <| AN)
theorem vq {q0 : Kd} (v0 : List GTask) (v3 : List Int) (v4 v5 v7 : Int) (g0 : GTask) (h0 : am v0 v5 = some g0) (h1 : (decide (v7 < (g0.f4.length : Int))) = true) : mb (fg q0 v0 v3 v4 v5 false v7) .normal (fg q0 v0 v3 v4 v5 false (inc v7)) :=
 IV [.row ((GTask.t q0) g0), .val (.int .i64 (g0.f4.length : Int)), .b true] _ (fun k => by kernel_rfl) (AC (p := 0 ≤ v5 ∧ (v0.map (GTask.t q0))[v5.toNat]? = some ((GTask.t q0) g0)) (az h0) <| AC (p := ((g0.f4.map etS).length : Int) = (g0.f4.length : Int)) ag <| AC h1 <| AN)
theorem nw {q0 : Kd} (v0 : List GTask) (v3 : List Int) (v4 v5 : Int) (v6 : Bool) (v7 : Int) (g0 : GTask) (h0 : am v0 v5 = some g0) (h1 : (decide (v7 < (g0.f4.length : Int))) = false) : mb (fg q0 v0 v3 v4 v5 v6 v7) (.exit 4) (ij q0 v0 v3 v4 v5 v6) :=
 IV [.row ((GTask.t q0) g0), .val (.int .i64 (g0.f4.length : Int)), .b false] _ (fun k => by kernel_rfl) (AC (p := 0 ≤ v5 ∧ (v0.map (GTask.t q0))[v5.toNat]? = some ((GTask.t q0) g0)) (az h0) <| AC (p := ((g0.f4.map etS).length : Int) = (g0.f4.length : Int)) ag <| AC h1 <| AN)
noncomputable def dK (v0 : List GTask) (v3 : List Int) (v5 : Int) : Nat → Bool → Int → Option pV
 | 0, _, _ => none
 | n + 1, v6, v7 => match v6 with
  | true => (am v0 v5).bind fun g0 => cond (decide (v7 < (g0.f4.length : Int)))
   ((am g0.f4 v7).bind fun g1 => if v0.length ≤ 1050000 then if v3.length ≤ 1050000 then dK v0 v3 v5 n (bI v3 (ap v0 g1)) (inc v7) else none else none)
   (some (.x4 v6))
  | false => (am v0 v5).bind fun g0 => cond (decide (v7 < (g0.f4.length : Int)))
   (dK v0 v3 v5 n false (inc v7))
   (some (.x4 v6))
theorem zc {q0 : Kd} (v0 : List GTask) (v3 : List Int) (v4 v5 : Int) (n : Nat) : ∀ (v6 : Bool) (v7 : Int), Ans (dK v0 v3 v5 n v6 v7) (mc (q0 := q0) v0 v3 v4 v5 v6 v7) := by
 induction n with
 | zero => intros; exact Ans.none
 | succ n ih =>
  intro v6 v7
  unfold dK
  cases v6 with
  | true =>
   refine I4 (fun g0 h0 => ?_)
   refine I3 (fun h1 => ?_) (fun h1 => ?_)
   ·refine I4 (fun g1 h2 => ?_)
    refine I5 (fun h3 => ?_)
    refine I5 (fun h4 => ?_)
    exact (ih (bI v3 (ap v0 g1)) (inc v7)).mono fun y hy => by cases y <;> exact IY (vp (q0 := q0) v0 v3 v4 v5 v7 g0 g1 h0 h1 h2 h3 h4) hy
   ·exact IX (IZ (nw (q0 := q0) v0 v3 v4 v5 true v7 g0 h0 h1) (by intro h; cases h))
  | false =>
   refine I4 (fun g0 h0 => ?_)
   refine I3 (fun h1 => ?_) (fun h1 => ?_)
   ·exact (ih false (inc v7)).mono fun y hy => by cases y <;> exact IY (vq (q0 := q0) v0 v3 v4 v5 v7 g0 h0 h1) hy
   ·exact IX (IZ (nw (q0 := q0) v0 v3 v4 v5 false v7 g0 h0 h1) (by intro h; cases h))
inductive pU where
 | x2 (v3 : List Int)
def dJ (q0 : Kd) (v0 : List GTask) (v3 : List Int) (v4 v5 : Int) : US := stL 57 [(0, .one (.s .far () 5 (v0.map (GTask.t q0)))), (3, .one (.s .own () 1 (v3.map etI))), (4, .one (tI v4)), (5, .one (tI v5))]
def kR (q0 : Kd) (v0 : List GTask) (v4 : Int) (zv3 : List Int) : US := stL 57 [(0, .one (.s .far () 5 (v0.map (GTask.t q0)))), (3, .one (.s .own () 1 (zv3.map etI))), (4, .one (tI v4))]
abbrev jI : US → Exit → US → Prop := Round E 15 (aB Tryz.f15 1)
def pS {q0 : Kd} (v0 : List GTask) (v3 : List Int) (v4 v5 : Int) : pU → Prop
 | .x2 zv3 => Loops E 15 (aB Tryz.f15 1) (dJ q0 v0 v3 v4 v5) (.exit 2) (kR q0 v0 v4 zv3)
theorem vl {q0 : Kd} (v0 : List GTask) (v3 : List Int) (v4 v5 : Int) (h0 : (decide (v5 < (v0.length : Int))) = true) (h1 : v3.length ≤ 1050000) (h2 : (bI v3 v5) = true) : jI (dJ q0 v0 v3 v4 v5) .normal (dJ q0 v0 v3 v4 (inc v5)) :=
 IV [.val (.int .i64 (v0.length : Int)), .b true, rT] _ (fun k => by kernel_rfl) (AC (p := ((v0.map (GTask.t q0)).length : Int) = (v0.length : Int)) ag <| AC h0 <| AV (ψ := fun k => E.C k 31 [.one (.s .far () 1 (((v3.map etI).drop 0).take (v3.map etI).length)), .one (tI v5)] = some [(false, [tB true])]) (I7 (by simp only [List.take_length, List.drop_zero]) (I6 (nb v3 v5 h1) (by rw [h2]))) <| AN)
theorem vm {q0 : Kd} (v0 : List GTask) (v3 : List Int) (v4 v5 : Int) (h0 : (decide (v5 < (v0.length : Int))) = true) (h1 : v3.length ≤ 1050000) (h2 : (bI v3 v5) = false) (h3 : mc (q0 := q0) v0 v3 v4 v5 true (0 : Int) (.x4 true)) (h4 : (v3.length + ([v5]).length) * 8 ≤ 140737488355328 ∧ v3.length + ([v5]).length ≤ 4611686018427387904) : jI (dJ q0 v0 v3 v4 v5) .normal (dJ q0 v0 (v3 ++ ([v5])) v4 (inc (v0.length : Int))) :=
 IV [.val (.int .i64 (v0.length : Int)), .b true, rF, .lp (.exit 4) (ij q0 v0 v3 v4 v5 true), .rows ((v3 ++ ([v5])).map etI), .val (.int .i64 (v0.length : Int))] _ (fun k => by kernel_rfl) (AC (p := ((v0.map (GTask.t q0)).length : Int) = (v0.length : Int)) ag <| AC h0 <| AV (ψ := fun k => E.C k 31 [.one (.s .far () 1 (((v3.map etI).drop 0).take (v3.map etI).length)), .one (tI v5)] = some [(false, [tB false])]) (I7 (by simp only [List.take_length, List.drop_zero]) (I6 (nb v3 v5 h1) (by rw [h2]))) <| AL h3 <| AC (p := (((([v5]).map etI).drop 0).take (([v5]).map etI).length).all (fun r => r.all T.flat) = true ∧ ((v3.map etI).length + (((([v5]).map etI).drop 0).take (([v5]).map etI).length).length) * 8 ≤ 140737488355328 ∧ (v3.map etI).length + (((([v5]).map etI).drop 0).take (([v5]).map etI).length).length ≤ 4611686018427387904) (by simp only [List.take_length, List.drop_zero]; exact ee (fun x => rfl) h4) <| AC (p := (v3.map etI) ++ (((([v5]).map etI).drop 0).take (([v5]).map etI).length) = (v3 ++ ([v5])).map etI) (by simp only [List.take_length, List.drop_zero]; exact di) <| AC (p := ((v0.map (GTask.t q0)).length : Int) = (v0.length : Int)) ag <| AN)
theorem vn {q0 : Kd} (v0 : List GTask) (v3 : List Int) (v4 v5 : Int) (h0 : (decide (v5 < (v0.length : Int))) = true) (h1 : v3.length ≤ 1050000) (h2 : (bI v3 v5) = false) (h3 : mc (q0 := q0) v0 v3 v4 v5 true (0 : Int) (.x4 false)) : jI (dJ q0 v0 v3 v4 v5) .normal (dJ q0 v0 v3 v4 (inc v5)) :=
 IV [.val (.int .i64 (v0.length : Int)), .b true, rF, .lp (.exit 4) (ij q0 v0 v3 v4 v5 false)] _ (fun k => by kernel_rfl) (AC (p := ((v0.map (GTask.t q0)).length : Int) = (v0.length : Int)) ag <| AC h0 <| AV (ψ := fun k => E.C k 31 [.one (.s .far () 1 (((v3.map etI).drop 0).take (v3.map etI).length)), .one (tI v5)] = some [(false, [tB false])]) (I7 (by simp only [List.take_length, List.drop_zero]) (I6 (nb v3 v5 h1) (by rw [h2]))) <| AL h3 <| AN)
theorem vo {q0 : Kd} (v0 : List GTask) (v3 : List Int) (v4 v5 : Int) (h0 : (decide (v5 < (v0.length : Int))) = false) : jI (dJ q0 v0 v3 v4 v5) (.exit 2) (kR q0 v0 v4 v3) :=
 IV [.val (.int .i64 (v0.length : Int)), .b false] _ (fun k => by kernel_rfl) (AC (p := ((v0.map (GTask.t q0)).length : Int) = (v0.length : Int)) ag <| AC h0 <| AN)
noncomputable def cG (v0 : List GTask) : Nat → (List Int) → Int → Option pU
 | 0, _, _ => none
 | n + 1, v3, v5 => cond (decide (v5 < (v0.length : Int)))
  (if v3.length ≤ 1050000 then cond (bI v3 v5)
   (cG v0 n v3 (inc v5))
   ((dK v0 v3 v5 9223372036854775808 true (0 : Int)).bind fun y => match y with
    | .x4 w0_6 => (match w0_6 with
     | true => if (v3.length + ([v5]).length) * 8 ≤ 140737488355328 ∧ v3.length + ([v5]).length ≤ 4611686018427387904 then cG v0 n (v3 ++ ([v5])) (inc (v0.length : Int)) else none
     | false => cG v0 n v3 (inc v5))) else none)
  (some (.x2 v3))
theorem zb {q0 : Kd} (v0 : List GTask) (v4 : Int) (n : Nat) : ∀ (v3 : List Int) (v5 : Int), Ans (cG v0 n v3 v5) (pS (q0 := q0) v0 v3 v4 v5) := by
 induction n with
 | zero => intros; exact Ans.none
 | succ n ih =>
  intro v3 v5
  unfold cG
  refine I3 (fun h0 => ?_) (fun h0 => ?_)
  ·refine I5 (fun h1 => ?_)
   refine I3 (fun h2 => ?_) (fun h2 => ?_)
   ·exact (ih v3 (inc v5)).mono fun y hy => by cases y <;> exact IY (vl (q0 := q0) v0 v3 v4 v5 h0 h1 h2) hy
   ·refine I4 (fun y hy => ?_)
    replace hy := zc (q0 := q0) v0 v3 v4 v5 9223372036854775808 true (0 : Int) y hy
    cases y with
    | x4 w0_6 =>
     have h3 := hy
     cases w0_6 with
     | true =>
      refine I5 (fun h4 => ?_)
      exact (ih (v3 ++ ([v5])) (inc (v0.length : Int))).mono fun y hy => by cases y <;> exact IY (vm (q0 := q0) v0 v3 v4 v5 h0 h1 h2 h3 h4) hy
     | false =>
      exact (ih v3 (inc v5)).mono fun y hy => by cases y <;> exact IY (vn (q0 := q0) v0 v3 v4 v5 h0 h1 h2 h3) hy
  ·exact IX (IZ (vo (q0 := q0) v0 v3 v4 v5 h0) (by intro h; cases h))
inductive pT where
 | x0 (v3 : List Int)
def jJ (q0 : Kd) (v0 : List GTask) (v3 : List Int) (v4 : Int) : US := stL 57 [(0, .one (.s .far () 5 (v0.map (GTask.t q0)))), (3, .one (.s .own () 1 (v3.map etI))), (4, .one (tI v4))]
def kQ (q0 : Kd) (zv3 : List Int) : US := stL 57 [(3, .one (.s .own () 1 (zv3.map etI)))]
abbrev pR : US → Exit → US → Prop := Round E 15 (aB Tryz.f15 0)
def zd {q0 : Kd} (v0 : List GTask) (v3 : List Int) (v4 : Int) : pT → Prop
 | .x0 zv3 => Loops E 15 (aB Tryz.f15 0) (jJ q0 v0 v3 v4) (.exit 0) (kQ q0 zv3)
theorem vj {q0 : Kd} (v0 : List GTask) (v3 : List Int) (v4 : Int) (w0_3 : List Int) (h0 : (decide (v4 < (v0.length : Int))) = true) (h1 : pS (q0 := q0) v0 v3 v4 (0 : Int) (.x2 w0_3)) : pR (jJ q0 v0 v3 v4) .normal (jJ q0 v0 w0_3 (inc v4)) :=
 IV [.val (.int .i64 (v0.length : Int)), .b true, .lp (.exit 2) (kR q0 v0 v4 w0_3)] _ (fun k => by kernel_rfl) (AC (p := ((v0.map (GTask.t q0)).length : Int) = (v0.length : Int)) ag <| AC h0 <| AL h1 <| AN)
theorem vk {q0 : Kd} (v0 : List GTask) (v3 : List Int) (v4 : Int) (h0 : (decide (v4 < (v0.length : Int))) = false) : pR (jJ q0 v0 v3 v4) (.exit 0) (kQ q0 v3) :=
 IV [.val (.int .i64 (v0.length : Int)), .b false] _ (fun k => by kernel_rfl) (AC (p := ((v0.map (GTask.t q0)).length : Int) = (v0.length : Int)) ag <| AC h0 <| AN)
noncomputable def et (v0 : List GTask) : List GTask → Nat → (List Int) → Option pT
 | [], i, v3 => some (.x0 v3)
 | hd :: rest, i, v3 => (cG v0 9223372036854775808 v3 (0 : Int)).bind fun y => match y with
  | .x2 w0_3 => (et v0 rest (i + 1) w0_3)
theorem za {q0 : Kd} (v0 : List GTask) (rest : List GTask) : ∀ (i : Nat) (v3 : List Int), (v0).drop i = rest → v0.length ≤ 9223372036854775807 → Ans (et v0 rest i v3) (zd (q0 := q0) v0 v3 (i : Int)) := by
 induction rest with
 | nil =>
  intro i v3 hE hl
  have hb := bH hE
  unfold et
  exact IX (IZ (vk (q0 := q0) v0 v3 (i : Int) hb) (by intro h; cases h))
 | cons hd rest ih =>
  intro i v3 hE hl
  have hb := bh hE
  have hw := bi hE hl
  have hE2 := aK hE
  have hg := bq hE
  unfold et
  refine I4 (fun y hy => ?_)
  replace hy := zb (q0 := q0) v0 (i : Int) 9223372036854775808 v3 (0 : Int) y hy
  cases y with
  | x2 w0_3 =>
   have h1 := hy
   exact (ih (i + 1) w0_3 hE2 hl).mono fun y hy => by have r := vj (q0 := q0) v0 v3 (i : Int) w0_3 hb h1; rw [hw] at r; cases y <;> exact IY r hy
noncomputable def kS (x0 : List GTask) : Option ((List Int)) :=
  if x0.length ≤ 9223372036854775807 then (et x0 x0 0 ([])).bind fun y => match y with
   | .x0 w0_3 => (some (w0_3)) else none
theorem By {q0 : Kd} (x0 : List GTask) : Ans (kS x0) (fun r => Does E 15 [.one (.s .far () 5 (x0.map (GTask.t q0)))] [(false, [.s .own () 1 (r.map etI)])]) := by
 unfold kS
 refine I5 (fun hl1 => ?_)
 refine I4 (fun y hy => ?_)
 replace hy := za (q0 := q0) x0 x0 0 ([]) rfl hl1 y hy
 cases y with
 | x0 w0_3 =>
  have h0 := hy
  exact IX (IW (fn := Tryz.f15) [.lp (.exit 0) (kQ q0 w0_3)] _ rfl (fun _ => rfl) (fun k => by kernel_rfl) (AL h0 <| AN))
theorem Bk (ts : List GTask) (o : List Int) (i : Nat) (t : GTask) (ht : ts.length ≤ 1050000) (ho : o.length ≤ 1050000) (hi : ts[i]? = some t) (hf : t.f4.length ≤ 1050000) : ∀ (m k n : Nat) (b : Bool), k + m = t.f4.length → m < n →
  dK ts o (i : Int) n b (k : Int) = some (.x4 (b && ((t.f4.drop k).all fun x => bI o (ap ts x))))
 | m, k, 0, b, _, hn => by omega
 | m, k, n + 1, b, hk, hn => by
  have hg : am ts (i : Int) = some t := by rw [fD]; exact hi
  unfold dK
  cases m with
  | zero =>
   have hd : t.f4.drop k = [] := List.drop_eq_nil_of_le (by omega)
   rw [hd]
   cases b <;> (simp only [hg, Option.bind_some]; rw [decide_eq_false (by omega)]; rfl)
  | succ m =>
   have hx : ∃ x, t.f4[k]? = some x := ⟨t.f4[k]'(by omega), List.getElem?_eq_getElem (by omega)⟩
   obtain ⟨x, hx⟩ := hx
   have hd : t.f4.drop k = x :: t.f4.drop (k + 1) := by
    rw [List.drop_eq_getElem_cons (by omega : k < t.f4.length)]
    rw [List.getElem?_eq_getElem (by omega)] at hx
    rw [Option.some.inj hx]
   have e : inc (k : Int) = ((k + 1 : Nat) : Int) := by rw [mO _ (by omega) (by omega)]; omega
   rw [hd, List.all_cons]
   cases b with
   | false =>
    simp only [hg, Option.bind_some]
    rw [decide_eq_true (by omega), cond_true, e, Bk ts o i t ht ho hi hf m (k + 1) n false (by omega) (by omega)]; rfl
   | true =>
    have hy : am t.f4 (k : Int) = some x := by rw [fD]; exact hx
    simp only [hg, Option.bind_some]
    rw [decide_eq_true (by omega), cond_true, hy, Option.bind_some, if_pos ht, if_pos ho, e, Bk ts o i t ht ho hi hf m (k + 1) n _ (by omega) (by omega)]; rfl
theorem C2 (ts : List GTask) (hs : aq.sm ts) (hg : ez ts) (o : List Int) (ho : o.length ≤ 1000) : ∀ (m i n : Nat), i + m = ts.length → m + 1 < n →
  cG ts n o (i : Int) = some (.x2 (match dN o ts (ts.drop i) i with | some k => o ++ [(k : Int)] | none => o))
 | m, i, 0, _, hn => by omega
 | m, i, n + 1, hi, hn => by
  have h4 := hg.1
  unfold cG
  cases m with
  | zero =>
   have hd : ts.drop i = [] := List.drop_eq_nil_of_le (by omega)
   rw [hd, decide_eq_false (by omega)]; rfl
  | succ m =>
   have hlt : i < ts.length := by omega
   have ht : ts[i]? = some ts[i] := List.getElem?_eq_getElem hlt
   have hd : ts.drop i = ts[i] :: ts.drop (i + 1) := List.drop_eq_getElem_cons hlt
   have hf : ts[i].f4.length ≤ 1050000 := (hs.2 ts[i] (List.getElem_mem _)).2.2.1
   have e : inc (i : Int) = ((i + 1 : Nat) : Int) := by rw [mO _ (by omega) (by omega)]; omega
   have hn' := hg.2 i _ ht
   have fr := Bk ts o i ts[i] hs.1 (by omega) ht hf ts[i].f4.length 0 9223372036854775808 true (by omega) (by omega)
   have ih := C2 ts hs hg o ho m (i + 1) n (by omega) (by omega)
   rw [List.drop_zero, Bool.true_and] at fr
   have fr' : dK ts o (i : Int) 9223372036854775808 true (0 : Int) = some (.x4 (nh ts o ts[i])) := fr
   rw [decide_eq_true (by omega), cond_true, if_pos (by omega), hd, fr', e]
   unfold dN
   rw [hn']
   cases bI o (i : Int) with
   | true => rw [cond_true, ih]; rfl
   | false =>
    rw [cond_false, Option.bind_some]
    cases nh ts o ts[i] with
    | false =>
     simp only [ih]; rfl
    | true =>
     have stop : ∀ w, cG ts n w (inc (ts.length : Int)) = some (.x2 w) := fun w => by
      obtain ⟨n, rfl⟩ : ∃ j, n = j + 1 := ⟨n - 1, by omega⟩
      unfold cG
      rw [mO _ (by omega) (by omega), decide_eq_false (by omega)]; rfl
     simp only [stop]
     rw [if_pos (by simp; omega)]; rfl
theorem tO (ts : List GTask) (hs : aq.sm ts) (hg : ez ts) : ∀ (l : List GTask) (i : Nat) (o : List Int), o.length + l.length ≤ 1000 → et ts l i o = some (.x0 (jw ts l.length o))
 | [], i, o, _ => rfl
 | x :: l, i, o, hl => by
  have h4 := hg.1
  simp only [List.length_cons] at hl
  unfold et
  have r := C2 ts hs hg o (by omega) ts.length 0 9223372036854775808 (by omega) (by omega)
  rw [List.drop_zero] at r
  refine (congrArg (Option.bind · _) r).trans ?_
  rw [Option.bind_some]
  simp only [List.length_cons]
  unfold jw
  cases q : dN o ts ts 0 with
  | none =>
   simp only
   rw [tO ts hs hg l (i + 1) o (by omega)]
   have : ∀ k, jw ts k o = o := fun k => by
    cases k with
    | zero => rfl
    | succ k => unfold jw; rw [q]
   rw [this]
  | some k =>
   simp only
   exact tO ts hs hg l (i + 1) _ (by simp; omega)
theorem G3 (ts : List GTask) (hs : aq.sm ts) (hg : ez ts) : kS ts = some (jv ts) := by
 have h4 := hg.1
 unfold kS
 rw [if_pos (by omega), tO ts hs hg ts 0 [] (by simp; omega)]
 rfl
theorem zx {q0 : Kd} (x0 : List GTask) (h : aq.sm x0) (hg : ez x0) : Does E 15 [.one (.s .far () 5 (x0.map (GTask.t q0)))] [(false, [.s .own () 1 ((jv x0).map etI)])] := by
 exact By x0 _ (G3 x0 h hg)
end Go.Proofs.YtfbhcpmlihdmcaaGreatDoor.Am
namespace Go.Proofs.YtfbhcpmlihdmcaaGreatDoor.Am
open Go Go.Proofs Classical
set_option maxRecDepth 100000
set_option linter.unusedVariables false
set_option linter.unusedSimpArgs false
inductive so where
 | ret (v2 : Bool)
 | x0 
def dQ (v1_0 v1_1 : ByteArray) (v1_2 : Int) (v1_3 : Bool) (v1_4 v28 : List ByteArray) (v29 v30 : Int) : US := stL 54 [(1, .box () [tS v1_0, tS v1_1, tI v1_2, tB v1_3, .s .far () 1 (v1_4.map etS)]), (28, .one (.s .far () 1 (v28.map etS))), (29, .one (tI v29)), (30, .one (tI v30))]
def iW (zv2 : Bool) : US := stL 54 [(2, .one (tB zv2))]
def lX  : US := stL 54 []
abbrev ju : US → Exit → US → Prop := Round E 20 (aB Tryz.f20 0)
def Cm (v1_0 v1_1 : ByteArray) (v1_2 : Int) (v1_3 : Bool) (v1_4 v28 : List ByteArray) (v29 v30 : Int) : so → Prop
 | .ret zv2 => Loops E 20 (aB Tryz.f20 0) (dQ v1_0 v1_1 v1_2 v1_3 v1_4 v28 v29 v30) .ret (iW zv2)
 | .x0 => Loops E 20 (aB Tryz.f20 0) (dQ v1_0 v1_1 v1_2 v1_3 v1_4 v28 v29 v30) (.exit 0) (lX)
theorem yF (v1_0 v1_1 : ByteArray) (v1_2 : Int) (v1_3 : Bool) (v1_4 v28 : List ByteArray) (v29 v30 : Int) (g0 : ByteArray) (h0 : (decide (v30 < v29)) = true) (h1 : am v28 v30 = some g0) (h2 : (g0.toList == v1_0.toList) = true) : ju (dQ v1_0 v1_1 v1_2 v1_3 v1_4 v28 v29 v30) .ret (iW false) :=
 IV [.b true, .row (etS g0), .b true] _ (fun k => by kernel_rfl) (AC h0 <| AC (p := 0 ≤ v30 ∧ (v28.map etS)[v30.toNat]? = some (etS g0)) (az h1) <| AC h2 <| AN)
theorem yG (v1_0 v1_1 : ByteArray) (v1_2 : Int) (v1_3 : Bool) (v1_4 v28 : List ByteArray) (v29 v30 : Int) (g0 g1 : ByteArray) (h0 : (decide (v30 < v29)) = true) (h1 : am v28 v30 = some g0) (h2 : (g0.toList == v1_0.toList) = false) (h3 : (decide (v30 > (0 : Int))) = true) (h4 : am v1_4 (IntKind.wrap .i64 (v30 - (1 : Int))) = some g1) (h5 : (Op.bytesLess g0.toList g1.toList || g0.toList == g1.toList) = true) : ju (dQ v1_0 v1_1 v1_2 v1_3 v1_4 v28 v29 v30) .ret (iW false) :=
 IV [.b true, .row (etS g0), .b false, .b true, .row (etS g1), .b true] _ (fun k => by kernel_rfl) (AC h0 <| AC (p := 0 ≤ v30 ∧ (v28.map etS)[v30.toNat]? = some (etS g0)) (az h1) <| AC h2 <| AC h3 <| AC (p := 0 ≤ (IntKind.wrap .i64 (v30 - (1 : Int))) ∧ (v1_4.map etS)[(IntKind.wrap .i64 (v30 - (1 : Int))).toNat]? = some (etS g1)) (az h4) <| AC h5 <| AN)
theorem yH (v1_0 v1_1 : ByteArray) (v1_2 : Int) (v1_3 : Bool) (v1_4 v28 : List ByteArray) (v29 v30 : Int) (g0 g1 : ByteArray) (h0 : (decide (v30 < v29)) = true) (h1 : am v28 v30 = some g0) (h2 : (g0.toList == v1_0.toList) = false) (h3 : (decide (v30 > (0 : Int))) = true) (h4 : am v1_4 (IntKind.wrap .i64 (v30 - (1 : Int))) = some g1) (h5 : (Op.bytesLess g0.toList g1.toList || g0.toList == g1.toList) = false) : ju (dQ v1_0 v1_1 v1_2 v1_3 v1_4 v28 v29 v30) .normal (dQ v1_0 v1_1 v1_2 v1_3 v1_4 v28 v29 (inc v30)) :=
 IV [.b true, .row (etS g0), .b false, .b true, .row (etS g1), .b false] _ (fun k => by kernel_rfl) (AC h0 <| AC (p := 0 ≤ v30 ∧ (v28.map etS)[v30.toNat]? = some (etS g0)) (az h1) <| AC h2 <| AC h3 <| AC (p := 0 ≤ (IntKind.wrap .i64 (v30 - (1 : Int))) ∧ (v1_4.map etS)[(IntKind.wrap .i64 (v30 - (1 : Int))).toNat]? = some (etS g1)) (az h4) <| AC h5 <| AN)
theorem yI (v1_0 v1_1 : ByteArray) (v1_2 : Int) (v1_3 : Bool) (v1_4 v28 : List ByteArray) (v29 v30 : Int) (g0 : ByteArray) (h0 : (decide (v30 < v29)) = true) (h1 : am v28 v30 = some g0) (h2 : (g0.toList == v1_0.toList) = false) (h3 : (decide (v30 > (0 : Int))) = false) : ju (dQ v1_0 v1_1 v1_2 v1_3 v1_4 v28 v29 v30) .normal (dQ v1_0 v1_1 v1_2 v1_3 v1_4 v28 v29 (inc v30)) :=
 IV [.b true, .row (etS g0), .b false, .b false] _ (fun k => by kernel_rfl) (AC h0 <| AC (p := 0 ≤ v30 ∧ (v28.map etS)[v30.toNat]? = some (etS g0)) (az h1) <| AC h2 <| AC h3 <| AN)
theorem yJ (v1_0 v1_1 : ByteArray) (v1_2 : Int) (v1_3 : Bool) (v1_4 v28 : List ByteArray) (v29 v30 : Int) (h0 : (decide (v30 < v29)) = false) : ju (dQ v1_0 v1_1 v1_2 v1_3 v1_4 v28 v29 v30) (.exit 0) (lX) :=
 IV [.b false] _ (fun k => by kernel_rfl) (AC h0 <| AN)
noncomputable def eC (v1_0 : ByteArray) (v1_4 : List ByteArray) : List ByteArray → Nat → Bool → Option so
 | [], i, v1_3 => some (.x0)
 | hd :: rest, i, v1_3 => cond (hd.toList == v1_0.toList)
  (some (.ret false))
  (cond (decide ((i : Int) > (0 : Int)))
   ((am v1_4 (IntKind.wrap .i64 ((i : Int) - (1 : Int)))).bind fun g1 => cond (Op.bytesLess hd.toList g1.toList || hd.toList == g1.toList)
    (some (.ret false))
    (eC v1_0 v1_4 rest (i + 1) v1_3))
   (eC v1_0 v1_4 rest (i + 1) v1_3))
theorem Cl (v1_0 v1_1 : ByteArray) (v1_2 : Int) (v1_4 v28 : List ByteArray) (rest : List ByteArray) : ∀ (i : Nat) (v1_3 : Bool), (v28).drop i = rest → v28.length ≤ 9223372036854775807 → Ans (eC v1_0 v1_4 rest i v1_3) (Cm v1_0 v1_1 v1_2 v1_3 v1_4 v28 (v28.length : Int) (i : Int)) := by
 induction rest with
 | nil =>
  intro i v1_3 hE hl
  have hb := bH hE
  unfold eC
  exact IX (IZ (yJ v1_0 v1_1 v1_2 v1_3 v1_4 v28 (v28.length : Int) (i : Int) hb) (by intro h; cases h))
 | cons hd rest ih =>
  intro i v1_3 hE hl
  have hb := bh hE
  have hw := bi hE hl
  have hE2 := aK hE
  have hg := bq hE
  unfold eC
  refine I3 (fun h2 => ?_) (fun h2 => ?_)
  ·exact IX (IZ (yF v1_0 v1_1 v1_2 v1_3 v1_4 v28 (v28.length : Int) (i : Int) hd hb hg h2) (by intro h; cases h))
  ·refine I3 (fun h3 => ?_) (fun h3 => ?_)
   ·refine I4 (fun g1 h4 => ?_)
    refine I3 (fun h5 => ?_) (fun h5 => ?_)
    ·exact IX (IZ (yG v1_0 v1_1 v1_2 v1_3 v1_4 v28 (v28.length : Int) (i : Int) hd g1 hb hg h2 h3 h4 h5) (by intro h; cases h))
    ·exact (ih (i + 1) v1_3 hE2 hl).mono fun y hy => by have r := yH v1_0 v1_1 v1_2 v1_3 v1_4 v28 (v28.length : Int) (i : Int) hd g1 hb hg h2 h3 h4 h5; rw [hw] at r; cases y <;> exact IY r hy
   ·exact (ih (i + 1) v1_3 hE2 hl).mono fun y hy => by have r := yI v1_0 v1_1 v1_2 v1_3 v1_4 v28 (v28.length : Int) (i : Int) hd hb hg h2 h3; rw [hw] at r; cases y <;> exact IY r hy
noncomputable def ml (x0 : GTask) : Option (Bool) :=
  if x0.f0.size ≤ 2000000 then cond (cY x0.f0)
   (cond ((bw x0.f1) == (0 : Int))
    (some (false))
    (cond (aD x0.f2 (0 : Int) (3 : Int))
     (cond (decide ((x0.f4.length : Int) > (4 : Int)))
      (some (false))
      (if x0.f4.length ≤ 9223372036854775807 then (eC x0.f0 x0.f4 x0.f4 0 x0.f3).bind fun y => match y with
       | .ret w0_2 => (some (w0_2))
       | .x0 => (some (true)) else none))
     (some (false))))
   (some (false)) else none
theorem DS (x0 : GTask) : Ans (ml x0) (fun r => Does E 20 [.agg (GTask.t .far x0)] [(false, [tB r])]) := by
 unfold ml
 refine I5 (fun h0 => ?_)
 refine I3 (fun h1 => ?_) (fun h1 => ?_)
 ·refine I3 (fun h2 => ?_) (fun h2 => ?_)
  ·exact IX (IW (fn := Tryz.f20) [rT, .ret [(false, [tI (bw x0.f1)])], .b true] _ rfl (fun _ => rfl) (fun k => by kernel_rfl) (AD (I8 (ct x0.f0 h0) h1) <| AD (iq x0.f1) <| AC h2 <| AN))
  ·refine I3 (fun h3 => ?_) (fun h3 => ?_)
   ·refine I3 (fun h4 => ?_) (fun h4 => ?_)
    ·exact IX (IW (fn := Tryz.f20) [rT, .ret [(false, [tI (bw x0.f1)])], .b false, rT, .val (.int .i64 (x0.f4.length : Int)), .b true] _ rfl (fun _ => rfl) (fun k => by kernel_rfl) (AD (I8 (ct x0.f0 h0) h1) <| AD (iq x0.f1) <| AC h2 <| AD (I8 (cC x0.f2 (0 : Int) (3 : Int)) h3) <| AC (p := ((x0.f4.map etS).length : Int) = (x0.f4.length : Int)) ag <| AC h4 <| AN))
    ·refine I5 (fun hl5 => ?_)
     refine I4 (fun y hy => ?_)
     replace hy := Cl x0.f0 x0.f1 x0.f2 x0.f4 x0.f4 x0.f4 0 x0.f3 rfl hl5 y hy
     cases y with
     | ret w0_2 =>
      have h5 := hy
      exact IX (IW (fn := Tryz.f20) [rT, .ret [(false, [tI (bw x0.f1)])], .b false, rT, .val (.int .i64 (x0.f4.length : Int)), .b false, .val (.int .i64 (x0.f4.length : Int)), .lp .ret (iW w0_2)] _ rfl (fun _ => rfl) (fun k => by kernel_rfl) (AD (I8 (ct x0.f0 h0) h1) <| AD (iq x0.f1) <| AC h2 <| AD (I8 (cC x0.f2 (0 : Int) (3 : Int)) h3) <| AC (p := ((x0.f4.map etS).length : Int) = (x0.f4.length : Int)) ag <| AC h4 <| AC (p := ((x0.f4.map etS).length : Int) = (x0.f4.length : Int)) ag <| AL h5 <| AN))
     | x0 =>
      have h5 := hy
      exact IX (IW (fn := Tryz.f20) [rT, .ret [(false, [tI (bw x0.f1)])], .b false, rT, .val (.int .i64 (x0.f4.length : Int)), .b false, .val (.int .i64 (x0.f4.length : Int)), .lp (.exit 0) (lX)] _ rfl (fun _ => rfl) (fun k => by kernel_rfl) (AD (I8 (ct x0.f0 h0) h1) <| AD (iq x0.f1) <| AC h2 <| AD (I8 (cC x0.f2 (0 : Int) (3 : Int)) h3) <| AC (p := ((x0.f4.map etS).length : Int) = (x0.f4.length : Int)) ag <| AC h4 <| AC (p := ((x0.f4.map etS).length : Int) = (x0.f4.length : Int)) ag <| AL h5 <| AN))
   ·exact IX (IW (fn := Tryz.f20) [rT, .ret [(false, [tI (bw x0.f1)])], .b false, rF] _ rfl (fun _ => rfl) (fun k => by kernel_rfl) (AD (I8 (ct x0.f0 h0) h1) <| AD (iq x0.f1) <| AC h2 <| AD (I8 (cC x0.f2 (0 : Int) (3 : Int)) h3) <| AN))
 ·exact IX (IW (fn := Tryz.f20) [rF] _ rfl (fun _ => rfl) (fun k => by kernel_rfl) (AD (I8 (ct x0.f0 h0) h1) <| AN))
inductive rt where
 | ret (v4 : Bool)
 | x0 
def c6 (q0 : Kd) (v0 : List GTask) (v5_0 v5_1 : ByteArray) (v5_2 : Int) (v5_3 : Bool) (v5_4 : List ByteArray) (v6 : Int) : US := stL 78 [(0, .one (.s .far () 5 (v0.map (GTask.t q0)))), (5, .box () [tS v5_0, tS v5_1, tI v5_2, tB v5_3, .s .far () 1 (v5_4.map etS)]), (6, .one (tI v6))]
def fx (q0 : Kd) (zv4 : Bool) : US := stL 78 [(4, .one (tB zv4))]
def lm (q0 : Kd)  : US := stL 78 []
abbrev fU : US → Exit → US → Prop := Round E 14 (aB Tryz.f14 0)
def BA {q0 : Kd} (v0 : List GTask) (v5_0 v5_1 : ByteArray) (v5_2 : Int) (v5_3 : Bool) (v5_4 : List ByteArray) (v6 : Int) : rt → Prop
 | .ret zv4 => Loops E 14 (aB Tryz.f14 0) (c6 q0 v0 v5_0 v5_1 v5_2 v5_3 v5_4 v6) .ret (fx q0 zv4)
 | .x0 => Loops E 14 (aB Tryz.f14 0) (c6 q0 v0 v5_0 v5_1 v5_2 v5_3 v5_4 v6) (.exit 0) (lm q0)
theorem xc {q0 : Kd} (v0 : List GTask) (v5_0 v5_1 : ByteArray) (v5_2 : Int) (v5_3 : Bool) (v5_4 : List ByteArray) (v6 : Int) (g0 : ByteArray) (h0 : (decide (v6 < (v5_4.length : Int))) = true) (h1 : am v5_4 v6 = some g0) (h2 : v0.length ≤ 1050000) (h3 : (decide ((ap v0 g0) < (0 : Int))) = true) : fU (c6 q0 v0 v5_0 v5_1 v5_2 v5_3 v5_4 v6) .ret (fx q0 false) :=
 IV [.val (.int .i64 (v5_4.length : Int)), .b true, .row (etS g0), .ret [(false, [tI (ap v0 g0)])], .b true] _ (fun k => by kernel_rfl) (AC (p := ((v5_4.map etS).length : Int) = (v5_4.length : Int)) ag <| AC h0 <| AC (p := 0 ≤ v6 ∧ (v5_4.map etS)[v6.toNat]? = some (etS g0)) (az h1) <| AV (ψ := fun k => E.C k 29 [.one (.s .far () 5 (v0.map (GTask.t q0))), .one (tS g0)] = some [(false, [tI (ap v0 g0)])]) (dV v0 g0 h2) <| AC h3 <| AN)
theorem xd {q0 : Kd} (v0 : List GTask) (v5_0 v5_1 : ByteArray) (v5_2 : Int) (v5_3 : Bool) (v5_4 : List ByteArray) (v6 : Int) (g0 : ByteArray) (h0 : (decide (v6 < (v5_4.length : Int))) = true) (h1 : am v5_4 v6 = some g0) (h2 : v0.length ≤ 1050000) (h3 : (decide ((ap v0 g0) < (0 : Int))) = false) (h4 : (g0.toList == v5_0.toList) = true) : fU (c6 q0 v0 v5_0 v5_1 v5_2 v5_3 v5_4 v6) .ret (fx q0 false) :=
 IV [.val (.int .i64 (v5_4.length : Int)), .b true, .row (etS g0), .ret [(false, [tI (ap v0 g0)])], .b false, .row (etS g0), .b true] _ (fun k => by kernel_rfl) (AC (p := ((v5_4.map etS).length : Int) = (v5_4.length : Int)) ag <| AC h0 <| AC (p := 0 ≤ v6 ∧ (v5_4.map etS)[v6.toNat]? = some (etS g0)) (az h1) <| AV (ψ := fun k => E.C k 29 [.one (.s .far () 5 (v0.map (GTask.t q0))), .one (tS g0)] = some [(false, [tI (ap v0 g0)])]) (dV v0 g0 h2) <| AC h3 <| AC (p := 0 ≤ v6 ∧ (v5_4.map etS)[v6.toNat]? = some (etS g0)) (az h1) <| AC h4 <| AN)
theorem xe {q0 : Kd} (v0 : List GTask) (v5_0 v5_1 : ByteArray) (v5_2 : Int) (v5_3 : Bool) (v5_4 : List ByteArray) (v6 : Int) (g0 g1 : ByteArray) (h0 : (decide (v6 < (v5_4.length : Int))) = true) (h1 : am v5_4 v6 = some g0) (h2 : v0.length ≤ 1050000) (h3 : (decide ((ap v0 g0) < (0 : Int))) = false) (h4 : (g0.toList == v5_0.toList) = false) (h5 : (decide (v6 > (0 : Int))) = true) (h6 : am v5_4 (IntKind.wrap .i64 (v6 - (1 : Int))) = some g1) (h7 : (!Op.bytesLess g1.toList g0.toList) = true) : fU (c6 q0 v0 v5_0 v5_1 v5_2 v5_3 v5_4 v6) .ret (fx q0 false) :=
 IV [.val (.int .i64 (v5_4.length : Int)), .b true, .row (etS g0), .ret [(false, [tI (ap v0 g0)])], .b false, .row (etS g0), .b false, .b true, .row (etS g1), .row (etS g0), .b true] _ (fun k => by kernel_rfl) (AC (p := ((v5_4.map etS).length : Int) = (v5_4.length : Int)) ag <| AC h0 <| AC (p := 0 ≤ v6 ∧ (v5_4.map etS)[v6.toNat]? = some (etS g0)) (az h1) <| AV (ψ := fun k => E.C k 29 [.one (.s .far () 5 (v0.map (GTask.t q0))), .one (tS g0)] = some [(false, [tI (ap v0 g0)])]) (dV v0 g0 h2) <| AC h3 <| AC (p := 0 ≤ v6 ∧ (v5_4.map etS)[v6.toNat]? = some (etS g0)) (az h1) <| AC h4 <| AC h5 <| AC (p := 0 ≤ (IntKind.wrap .i64 (v6 - (1 : Int))) ∧ (v5_4.map etS)[(IntKind.wrap .i64 (v6 - (1 : Int))).toNat]? = some (etS g1)) (az h6) <| AC (p := 0 ≤ v6 ∧ (v5_4.map etS)[v6.toNat]? = some (etS g0)) (az h1) <| AC h7 <| AN)
theorem xf {q0 : Kd} (v0 : List GTask) (v5_0 v5_1 : ByteArray) (v5_2 : Int) (v5_3 : Bool) (v5_4 : List ByteArray) (v6 : Int) (g0 g1 : ByteArray) (h0 : (decide (v6 < (v5_4.length : Int))) = true) (h1 : am v5_4 v6 = some g0) (h2 : v0.length ≤ 1050000) (h3 : (decide ((ap v0 g0) < (0 : Int))) = false) (h4 : (g0.toList == v5_0.toList) = false) (h5 : (decide (v6 > (0 : Int))) = true) (h6 : am v5_4 (IntKind.wrap .i64 (v6 - (1 : Int))) = some g1) (h7 : (!Op.bytesLess g1.toList g0.toList) = false) : fU (c6 q0 v0 v5_0 v5_1 v5_2 v5_3 v5_4 v6) .normal (c6 q0 v0 v5_0 v5_1 v5_2 v5_3 v5_4 (inc v6)) :=
 IV [.val (.int .i64 (v5_4.length : Int)), .b true, .row (etS g0), .ret [(false, [tI (ap v0 g0)])], .b false, .row (etS g0), .b false, .b true, .row (etS g1), .row (etS g0), .b false] _ (fun k => by kernel_rfl) (AC (p := ((v5_4.map etS).length : Int) = (v5_4.length : Int)) ag <| AC h0 <| AC (p := 0 ≤ v6 ∧ (v5_4.map etS)[v6.toNat]? = some (etS g0)) (az h1) <| AV (ψ := fun k => E.C k 29 [.one (.s .far () 5 (v0.map (GTask.t q0))), .one (tS g0)] = some [(false, [tI (ap v0 g0)])]) (dV v0 g0 h2) <| AC h3 <| AC (p := 0 ≤ v6 ∧ (v5_4.map etS)[v6.toNat]? = some (etS g0)) (az h1) <| AC h4 <| AC h5 <| AC (p := 0 ≤ (IntKind.wrap .i64 (v6 - (1 : Int))) ∧ (v5_4.map etS)[(IntKind.wrap .i64 (v6 - (1 : Int))).toNat]? = some (etS g1)) (az h6) <| AC (p := 0 ≤ v6 ∧ (v5_4.map etS)[v6.toNat]? = some (etS g0)) (az h1) <| AC h7 <| AN)
theorem xg {q0 : Kd} (v0 : List GTask) (v5_0 v5_1 : ByteArray) (v5_2 : Int) (v5_3 : Bool) (v5_4 : List ByteArray) (v6 : Int) (g0 : ByteArray) (h0 : (decide (v6 < (v5_4.length : Int))) = true) (h1 : am v5_4 v6 = some g0) (h2 : v0.length ≤ 1050000) (h3 : (decide ((ap v0 g0) < (0 : Int))) = false) (h4 : (g0.toList == v5_0.toList) = false) (h5 : (decide (v6 > (0 : Int))) = false) : fU (c6 q0 v0 v5_0 v5_1 v5_2 v5_3 v5_4 v6) .normal (c6 q0 v0 v5_0 v5_1 v5_2 v5_3 v5_4 (inc v6)) :=
 IV [.val (.int .i64 (v5_4.length : Int)), .b true, .row (etS g0), .ret [(false, [tI (ap v0 g0)])], .b false, .row (etS g0), .b false, .b false] _ (fun k => by kernel_rfl) (AC (p := ((v5_4.map etS).length : Int) = (v5_4.length : Int)) ag <| AC h0 <| AC (p := 0 ≤ v6 ∧ (v5_4.map etS)[v6.toNat]? = some (etS g0)) (az h1) <| AV (ψ := fun k => E.C k 29 [.one (.s .far () 5 (v0.map (GTask.t q0))), .one (tS g0)] = some [(false, [tI (ap v0 g0)])]) (dV v0 g0 h2) <| AC h3 <| AC (p := 0 ≤ v6 ∧ (v5_4.map etS)[v6.toNat]? = some (etS g0)) (az h1) <| AC h4 <| AC h5 <| AN)
theorem xh {q0 : Kd} (v0 : List GTask) (v5_0 v5_1 : ByteArray) (v5_2 : Int) (v5_3 : Bool) (v5_4 : List ByteArray) (v6 : Int) (h0 : (decide (v6 < (v5_4.length : Int))) = false) : fU (c6 q0 v0 v5_0 v5_1 v5_2 v5_3 v5_4 v6) (.exit 0) (lm q0) :=
 IV [.val (.int .i64 (v5_4.length : Int)), .b false] _ (fun k => by kernel_rfl) (AC (p := ((v5_4.map etS).length : Int) = (v5_4.length : Int)) ag <| AC h0 <| AN)
noncomputable def d7 (v0 : List GTask) (v5_0 : ByteArray) (v5_4 : List ByteArray) : List ByteArray → Nat → Bool → Option rt
 | [], i, v5_3 => some (.x0)
 | hd :: rest, i, v5_3 => if v0.length ≤ 1050000 then cond (decide ((ap v0 hd) < (0 : Int)))
  (some (.ret false))
  (cond (hd.toList == v5_0.toList)
   (some (.ret false))
   (cond (decide ((i : Int) > (0 : Int)))
    ((am v5_4 (IntKind.wrap .i64 ((i : Int) - (1 : Int)))).bind fun g1 => cond (!Op.bytesLess g1.toList hd.toList)
     (some (.ret false))
     (d7 v0 v5_0 v5_4 rest (i + 1) v5_3))
    (d7 v0 v5_0 v5_4 rest (i + 1) v5_3))) else none
theorem Bz {q0 : Kd} (v0 : List GTask) (v5_0 v5_1 : ByteArray) (v5_2 : Int) (v5_4 : List ByteArray) (rest : List ByteArray) : ∀ (i : Nat) (v5_3 : Bool), (v5_4).drop i = rest → v5_4.length ≤ 9223372036854775807 → Ans (d7 v0 v5_0 v5_4 rest i v5_3) (BA (q0 := q0) v0 v5_0 v5_1 v5_2 v5_3 v5_4 (i : Int)) := by
 induction rest with
 | nil =>
  intro i v5_3 hE hl
  have hb := bH hE
  unfold d7
  exact IX (IZ (xh (q0 := q0) v0 v5_0 v5_1 v5_2 v5_3 v5_4 (i : Int) hb) (by intro h; cases h))
 | cons hd rest ih =>
  intro i v5_3 hE hl
  have hb := bh hE
  have hw := bi hE hl
  have hE2 := aK hE
  have hg := bq hE
  unfold d7
  refine I5 (fun h2 => ?_)
  refine I3 (fun h3 => ?_) (fun h3 => ?_)
  ·exact IX (IZ (xc (q0 := q0) v0 v5_0 v5_1 v5_2 v5_3 v5_4 (i : Int) hd hb hg h2 h3) (by intro h; cases h))
  ·refine I3 (fun h4 => ?_) (fun h4 => ?_)
   ·exact IX (IZ (xd (q0 := q0) v0 v5_0 v5_1 v5_2 v5_3 v5_4 (i : Int) hd hb hg h2 h3 h4) (by intro h; cases h))
   ·refine I3 (fun h5 => ?_) (fun h5 => ?_)
    ·refine I4 (fun g1 h6 => ?_)
     refine I3 (fun h7 => ?_) (fun h7 => ?_)
     ·exact IX (IZ (xe (q0 := q0) v0 v5_0 v5_1 v5_2 v5_3 v5_4 (i : Int) hd g1 hb hg h2 h3 h4 h5 h6 h7) (by intro h; cases h))
     ·exact (ih (i + 1) v5_3 hE2 hl).mono fun y hy => by have r := xf (q0 := q0) v0 v5_0 v5_1 v5_2 v5_3 v5_4 (i : Int) hd g1 hb hg h2 h3 h4 h5 h6 h7; rw [hw] at r; cases y <;> exact IY r hy
    ·exact (ih (i + 1) v5_3 hE2 hl).mono fun y hy => by have r := xg (q0 := q0) v0 v5_0 v5_1 v5_2 v5_3 v5_4 (i : Int) hd hb hg h2 h3 h4 h5; rw [hw] at r; cases y <;> exact IY r hy
noncomputable def lH (x0 : List GTask) (x1 : Int) : Option (Bool) :=
  (am x0 x1).bind fun g0 => if g0.f0.size ≤ 2000000 then cond (cY g0.f0)
   (if x0.length ≤ 1050000 then cond ((ap x0 g0.f0) != x1)
    (some (false))
    (cond ((bw g0.f1) == (0 : Int))
     (some (false))
     (cond (aD g0.f2 (0 : Int) (3 : Int))
      (if g0.f4.length ≤ 9223372036854775807 then (d7 x0 g0.f0 g0.f4 g0.f4 0 g0.f3).bind fun y => match y with
       | .ret w0_4 => (some (w0_4))
       | .x0 => (some (true)) else none)
      (some (false)))) else none)
   (some (false)) else none
theorem CD {q0 : Kd} (x0 : List GTask) (x1 : Int) : Ans (lH x0 x1) (fun r => Does E 14 [.one (.s .far () 5 (x0.map (GTask.t q0))), .one (tI x1)] [(false, [tB r])]) := by
 unfold lH
 refine I4 (fun g0 h0 => ?_)
 refine I5 (fun h1 => ?_)
 refine I3 (fun h2 => ?_) (fun h2 => ?_)
 ·refine I5 (fun h3 => ?_)
  refine I3 (fun h4 => ?_) (fun h4 => ?_)
  ·exact IX (IW (fn := Tryz.f14) [.row ((GTask.t q0) g0), rT, .ret [(false, [tI (ap x0 g0.f0)])], .b true] _ rfl (fun _ => rfl) (fun k => by kernel_rfl) (AC (p := 0 ≤ x1 ∧ (x0.map (GTask.t q0))[x1.toNat]? = some ((GTask.t q0) g0)) (az h0) <| AD (I8 (ce g0.f0 h1) h2) <| AV (ψ := fun k => E.C k 29 [.one (.s .far () 5 (x0.map (GTask.t q0))), .one (tS g0.f0)] = some [(false, [tI (ap x0 g0.f0)])]) (dV x0 g0.f0 h3) <| AC h4 <| AN))
  ·refine I3 (fun h5 => ?_) (fun h5 => ?_)
   ·exact IX (IW (fn := Tryz.f14) [.row ((GTask.t q0) g0), rT, .ret [(false, [tI (ap x0 g0.f0)])], .b false, .ret [(false, [tI (bw g0.f1)])], .b true] _ rfl (fun _ => rfl) (fun k => by kernel_rfl) (AC (p := 0 ≤ x1 ∧ (x0.map (GTask.t q0))[x1.toNat]? = some ((GTask.t q0) g0)) (az h0) <| AD (I8 (ce g0.f0 h1) h2) <| AV (ψ := fun k => E.C k 29 [.one (.s .far () 5 (x0.map (GTask.t q0))), .one (tS g0.f0)] = some [(false, [tI (ap x0 g0.f0)])]) (dV x0 g0.f0 h3) <| AC h4 <| AD (kh g0.f1) <| AC h5 <| AN))
   ·refine I3 (fun h6 => ?_) (fun h6 => ?_)
    ·refine I5 (fun hl5 => ?_)
     refine I4 (fun y hy => ?_)
     replace hy := Bz (q0 := q0) x0 g0.f0 g0.f1 g0.f2 g0.f4 g0.f4 0 g0.f3 rfl hl5 y hy
     cases y with
     | ret w0_4 =>
      have h7 := hy
      exact IX (IW (fn := Tryz.f14) [.row ((GTask.t q0) g0), rT, .ret [(false, [tI (ap x0 g0.f0)])], .b false, .ret [(false, [tI (bw g0.f1)])], .b false, rT, .lp .ret (fx q0 w0_4)] _ rfl (fun _ => rfl) (fun k => by kernel_rfl) (AC (p := 0 ≤ x1 ∧ (x0.map (GTask.t q0))[x1.toNat]? = some ((GTask.t q0) g0)) (az h0) <| AD (I8 (ce g0.f0 h1) h2) <| AV (ψ := fun k => E.C k 29 [.one (.s .far () 5 (x0.map (GTask.t q0))), .one (tS g0.f0)] = some [(false, [tI (ap x0 g0.f0)])]) (dV x0 g0.f0 h3) <| AC h4 <| AD (kh g0.f1) <| AC h5 <| AD (I8 (bf g0.f2 (0 : Int) (3 : Int)) h6) <| AL h7 <| AN))
     | x0 =>
      have h7 := hy
      exact IX (IW (fn := Tryz.f14) [.row ((GTask.t q0) g0), rT, .ret [(false, [tI (ap x0 g0.f0)])], .b false, .ret [(false, [tI (bw g0.f1)])], .b false, rT, .lp (.exit 0) (lm q0)] _ rfl (fun _ => rfl) (fun k => by kernel_rfl) (AC (p := 0 ≤ x1 ∧ (x0.map (GTask.t q0))[x1.toNat]? = some ((GTask.t q0) g0)) (az h0) <| AD (I8 (ce g0.f0 h1) h2) <| AV (ψ := fun k => E.C k 29 [.one (.s .far () 5 (x0.map (GTask.t q0))), .one (tS g0.f0)] = some [(false, [tI (ap x0 g0.f0)])]) (dV x0 g0.f0 h3) <| AC h4 <| AD (kh g0.f1) <| AC h5 <| AD (I8 (bf g0.f2 (0 : Int) (3 : Int)) h6) <| AL h7 <| AN))
    ·exact IX (IW (fn := Tryz.f14) [.row ((GTask.t q0) g0), rT, .ret [(false, [tI (ap x0 g0.f0)])], .b false, .ret [(false, [tI (bw g0.f1)])], .b false, rF] _ rfl (fun _ => rfl) (fun k => by kernel_rfl) (AC (p := 0 ≤ x1 ∧ (x0.map (GTask.t q0))[x1.toNat]? = some ((GTask.t q0) g0)) (az h0) <| AD (I8 (ce g0.f0 h1) h2) <| AV (ψ := fun k => E.C k 29 [.one (.s .far () 5 (x0.map (GTask.t q0))), .one (tS g0.f0)] = some [(false, [tI (ap x0 g0.f0)])]) (dV x0 g0.f0 h3) <| AC h4 <| AD (kh g0.f1) <| AC h5 <| AD (I8 (bf g0.f2 (0 : Int) (3 : Int)) h6) <| AN))
 ·exact IX (IW (fn := Tryz.f14) [.row ((GTask.t q0) g0), rF] _ rfl (fun _ => rfl) (fun k => by kernel_rfl) (AC (p := 0 ≤ x1 ∧ (x0.map (GTask.t q0))[x1.toNat]? = some ((GTask.t q0) g0)) (az h0) <| AD (I8 (ce g0.f0 h1) h2) <| AN))
def asc (self : ByteArray) : List ByteArray → Option ByteArray → Bool
 | [], _ => true
 | x :: l, p => !(x.toList == self.toList) && (match p with | some y => Op.bytesLess y.toList x.toList | none => true) && asc self l (some x)
theorem AQ : ∀ a b : List UInt8, (Op.bytesLess a b || a == b) = !Op.bytesLess b a
 | [], [] => rfl
 | [], _ :: _ => rfl
 | _ :: _, [] => rfl
 | x :: a, y :: b => by
  have ih := AQ a b
  unfold Op.bytesLess
  have e : (x :: a == y :: b) = (x == y && a == b) := rfl
  rw [e]
  rcases Nat.lt_trichotomy x.toNat y.toNat with h | h | h
  ·have h1 : x < y := UInt8.lt_iff_toNat_lt.2 h
   have h2 : ¬ y < x := fun q => by have := UInt8.lt_iff_toNat_lt.1 q; omega
   have h3 : (y == x) = false := by rw [beq_eq_false_iff_ne]; intro q; subst q; omega
   simp [h1, h2, h3]
  ·have h0 : x = y := UInt8.toNat_inj.1 h
   subst h0
   have h2 : ¬ x < x := fun q => by have := UInt8.lt_iff_toNat_lt.1 q; omega
   simp only [h2, decide_false, Bool.false_or, beq_self_eq_true, Bool.true_and]
   exact ih
  ·have h1 : y < x := UInt8.lt_iff_toNat_lt.2 h
   have h2 : ¬ x < y := fun q => by have := UInt8.lt_iff_toNat_lt.1 q; omega
   have h3 : (x == y) = false := by rw [beq_eq_false_iff_ne]; intro q; subst q; omega
   simp [h1, h2, h3]
theorem sr : ∀ a : List UInt8, Op.bytesLess a a = false
 | [] => rfl
 | x :: a => by
  unfold Op.bytesLess
  have h2 : ¬ x < x := fun q => by have := UInt8.lt_iff_toNat_lt.1 q; omega
  simp [h2, sr a]
theorem uN : ∀ {a b c : List UInt8}, Op.bytesLess a b = true → Op.bytesLess b c = true → Op.bytesLess a c = true
 | [], [], _, h, _ => by cases h
 | [], _ :: _, [], _, h => by cases h
 | [], _ :: _, _ :: _, _, _ => rfl
 | _ :: _, [], _, h, _ => by cases h
 | _ :: _, _ :: _, [], _, h => by cases h
 | x :: a, y :: b, z :: c, h1, h2 => by
  unfold Op.bytesLess at *
  simp only [Bool.or_eq_true, decide_eq_true_eq, Bool.and_eq_true, beq_iff_eq, UInt8.lt_iff_toNat_lt] at *
  rcases h1 with h1 | ⟨rfl, h1⟩
  ·rcases h2 with h2 | ⟨rfl, h2⟩
   ·exact .inl (by omega)
   ·exact .inl h1
  ·rcases h2 with h2 | ⟨rfl, h2⟩
   ·exact .inl h2
   ·exact .inr ⟨rfl, uN h1 h2⟩
theorem xr (self : ByteArray) : ∀ (l : List ByteArray) (p : Option ByteArray), asc self l p = true → (l.map tx).Nodup ∧ ∀ y, p = some y → ∀ x ∈ l, Op.bytesLess (tx y) (tx x) = true
 | [], p, _ => ⟨by simp, fun y _ x hx => by cases hx⟩
 | z :: l, p, h => by
  unfold asc at h
  simp only [Bool.and_eq_true] at h
  obtain ⟨h1, h2⟩ := xr self l (some z) h.2
  have h3 := h2 z rfl
  refine ⟨?_, fun y e x hx => ?_⟩
  ·rw [List.map_cons, List.nodup_cons]
   refine ⟨fun q => ?_, h1⟩
   obtain ⟨w, hw, e⟩ := List.mem_map.1 q
   have := h3 w hw
   rw [e, sr] at this
   cases this
  ·subst e
   have h4 : Op.bytesLess (tx y) (tx z) = true := by have := h.1.2; simp only [vF] at this; exact this
   rcases List.mem_cons.1 hx with rfl | hx
   ·exact h4
   ·exact uN h4 (h3 x hx)
theorem C7 {α : Type} [DecidableEq α] : ∀ {l m : List α}, l.Nodup → (∀ x ∈ l, x ∈ m) → l.length ≤ m.length
 | [], _, _, _ => Nat.zero_le _
 | x :: l, m, h, hm => by
  rw [List.nodup_cons] at h
  have hx := hm x (by simp)
  have := C7 (l := l) (m := m.erase x) h.2 fun y hy => (List.mem_erase_of_ne (fun e => h.1 (by rw [← e]; exact hy))).2 (hm y (by simp [hy]))
  rw [List.length_erase_of_mem hx] at this
  have : 0 < m.length := List.length_pos_of_mem hx
  simp only [List.length_cons]
  omega
theorem Gw (self : ByteArray) (aL : List ByteArray) (hl : aL.length ≤ 1050000) : ∀ (rest : List ByteArray) (i : Nat) (z : Bool), aL.drop i = rest → eC self aL rest i z = some (cond (asc self rest (if i = 0 then none else aL[i - 1]?)) .x0 (.ret false))
 | [], i, z, _ => rfl
 | x :: rest, i, z, h => by
  have ih := Gw self aL hl rest (i + 1) z (aK h)
  have hp : (if i + 1 = 0 then none else aL[i + 1 - 1]?) = some x := by
   rw [if_neg (by omega)]
   show aL[i]? = some x
   rw [← List.head?_drop, h]; rfl
  rw [hp] at ih
  unfold eC asc
  rw [ih]
  cases x.toList == self.toList with
  | true => rfl
  | false =>
   rw [cond_false]
   by_cases q : i = 0
   ·subst q
    rw [decide_eq_false (by omega), if_pos rfl, cond_false]; rfl
   ·have hi : i - 1 < aL.length := by
     rcases Nat.lt_or_ge i aL.length with g | g
     ·omega
     ·rw [List.drop_eq_nil_of_le g] at h; cases h
    have hi2 : i ≤ aL.length := by
     rcases Nat.lt_or_ge i aL.length with g | g
     ·omega
     ·rw [List.drop_eq_nil_of_le g] at h; cases h
    have hy : aL[i - 1]? = some aL[i - 1] := List.getElem?_eq_getElem hi
    have hg : am aL (IntKind.wrap .i64 ((i : Int) - 1)) = some aL[i - 1] := by
     rw [cU _ (by omega) (by omega), show ((i : Int) - 1) = ((i - 1 : Nat) : Int) by omega, fD, hy]
    rw [decide_eq_true (by omega), if_neg q, cond_true, hg, Option.bind_some, hy, AQ]
    simp only [Bool.not_false, Bool.true_and]
    cases Op.bytesLess aL[i - 1].toList x.toList <;> rfl
theorem Gx (ts : List GTask) (ht : ts.length ≤ 1050000) (self : ByteArray) (aL : List ByteArray) (hl : aL.length ≤ 1050000) : ∀ (rest : List ByteArray) (i : Nat) (z : Bool), aL.drop i = rest → d7 ts self aL rest i z = some (cond (asc self rest (if i = 0 then none else aL[i - 1]?) && rest.all fun n => decide (0 ≤ ap ts n)) .x0 (.ret false))
 | [], i, z, _ => rfl
 | x :: rest, i, z, h => by
  have ih := Gx ts ht self aL hl rest (i + 1) z (aK h)
  have hp : (if i + 1 = 0 then none else aL[i + 1 - 1]?) = some x := by
   rw [if_neg (by omega)]
   show aL[i]? = some x
   rw [← List.head?_drop, h]; rfl
  rw [hp] at ih
  unfold d7 asc
  rw [ih, if_pos ht, List.all_cons]
  by_cases w : ap ts x < 0
  ·rw [decide_eq_true w, decide_eq_false (by omega : ¬ 0 ≤ ap ts x), Bool.false_and, Bool.and_false]; rfl
  ·rw [decide_eq_false w, decide_eq_true (by omega : 0 ≤ ap ts x), Bool.true_and, cond_false]
   cases x.toList == self.toList with
   | true => rfl
   | false =>
    rw [cond_false]
    by_cases q : i = 0
    ·subst q
     rw [decide_eq_false (by omega), if_pos rfl, cond_false]; rfl
    ·have hi : i - 1 < aL.length := by
      rcases Nat.lt_or_ge i aL.length with g | g
      ·omega
      ·rw [List.drop_eq_nil_of_le g] at h; cases h
     have hi2 : i ≤ aL.length := by
      rcases Nat.lt_or_ge i aL.length with g | g
      ·omega
      ·rw [List.drop_eq_nil_of_le g] at h; cases h
     have hy : aL[i - 1]? = some aL[i - 1] := List.getElem?_eq_getElem hi
     have hg : am aL (IntKind.wrap .i64 ((i : Int) - 1)) = some aL[i - 1] := by
      rw [cU _ (by omega) (by omega), show ((i : Int) - 1) = ((i - 1 : Nat) : Int) by omega, fD, hy]
     rw [decide_eq_true (by omega), if_neg q, cond_true, hg, Option.bind_some, hy]
     simp only [Bool.not_false, Bool.true_and]
     cases Op.bytesLess aL[i - 1].toList x.toList <;> rfl
noncomputable def iK (t : GTask) : Bool := cY t.f0 && ((bw t.f1 != 0) && (aD t.f2 0 3 && (decide (t.f4.length ≤ 4) && asc t.f0 t.f4 none)))
noncomputable def gE (ts : List GTask) (i : Int) (t : GTask) : Bool := cY t.f0 && ((ap ts t.f0 == i) && ((bw t.f1 != 0) && (aD t.f2 0 3 && (asc t.f0 t.f4 none && t.f4.all fun n => decide (0 ≤ ap ts n)))))
noncomputable def gk (ts : List GTask) (i : Int) : Bool := match am ts i with | some t => gE ts i t | none => false
theorem C6 {t : GTask} (h : aq.sm t) : t.f0.size ≤ 2000000 := by
 have : t.f0.size ≤ 1050000 := h.1
 omega
theorem Gu (t : GTask) (h : aq.sm t) : ml t = some (iK t) := by
 have h4 : t.f4.length ≤ 1050000 := h.2.2.1
 unfold ml iK
 rw [if_pos (C6 h)]
 cases cY t.f0 with
 | false => rfl
 | true =>
  have e : (bw t.f1 != 0) = !(bw t.f1 == 0) := rfl
  rw [cond_true, Bool.true_and, e]
  cases bw t.f1 == 0 with
  | true => rfl
  | false =>
   rw [cond_false, Bool.not_false, Bool.true_and]
   cases aD t.f2 0 3 with
   | false => rfl
   | true =>
    rw [cond_true, Bool.true_and]
    by_cases q : t.f4.length ≤ 4
    ·rw [decide_eq_false (by omega), cond_false, decide_eq_true q, if_pos (by omega), Gw t.f0 t.f4 h4 t.f4 0 t.f3 rfl, if_pos rfl, Bool.true_and]
     cases asc t.f0 t.f4 none <;> rfl
    ·rw [decide_eq_true (by omega), decide_eq_false q]; rfl
theorem CH (ts : List GTask) (i : Int) (h : aq.sm ts) (hi : 0 ≤ i ∧ i < (ts.length : Int)) : lH ts i = some (gk ts i) := by
 obtain ⟨t, hg, hm⟩ := vS hi
 have ht := h.2 t hm
 have h4 : t.f4.length ≤ 1050000 := ht.2.2.1
 unfold lH gk gE
 rw [hg, Option.bind_some, if_pos (C6 ht)]
 simp only
 cases cY t.f0 with
 | false => rfl
 | true =>
  have e1 : (ap ts t.f0 != i) = !(ap ts t.f0 == i) := rfl
  have e : (bw t.f1 != 0) = !(bw t.f1 == 0) := rfl
  rw [cond_true, Bool.true_and, if_pos h.1, e1, e]
  cases ap ts t.f0 == i with
  | false => rfl
  | true =>
   rw [Bool.not_true, cond_false, Bool.true_and]
   cases bw t.f1 == 0 with
   | true => rfl
   | false =>
    rw [cond_false, Bool.not_false, Bool.true_and]
    cases aD t.f2 0 3 with
    | false => rfl
    | true =>
     rw [cond_true, Bool.true_and, if_pos (by omega), Gx ts h.1 t.f0 t.f4 h4 t.f4 0 t.f3 rfl, if_pos rfl]
     cases (asc t.f0 t.f4 none && t.f4.all fun n => decide (0 ≤ ap ts n)) <;> rfl
theorem Eo (ts : List GTask) (h4 : ts.length ≤ 4) (i : Int) (t : GTask) : gE ts i t = (iK t && ((ap ts t.f0 == i) && t.f4.all fun n => decide (0 ≤ ap ts n))) := by
 unfold gE iK
 by_cases q : asc t.f0 t.f4 none = true ∧ (t.f4.all fun n => decide (0 ≤ ap ts n)) = true
 ·have hl : t.f4.length ≤ 4 := by
   have := C7 (l := t.f4.map tx) (m := ts.map fun u => tx u.f0) (xr t.f0 t.f4 none q.1).1 (fun x hx => by
    obtain ⟨n, hn, rfl⟩ := List.mem_map.1 hx
    have := List.all_eq_true.1 q.2 n hn
    obtain ⟨u, hu, e⟩ := CG (of_decide_eq_true this)
    exact List.mem_map.2 ⟨u, hu, e⟩)
   simp only [List.length_map] at this
   omega
  rw [decide_eq_true hl, q.1, q.2]
  cases cY t.f0 <;> cases ap ts t.f0 == i <;> cases bw t.f1 != 0 <;> cases aD t.f2 0 3 <;> rfl
 ·have hf : (asc t.f0 t.f4 none && t.f4.all fun n => decide (0 ≤ ap ts n)) = false := by
   rw [← Bool.not_eq_true, Bool.and_eq_true]; exact q
  rw [hf]
  revert hf
  generalize (t.f4.all fun n => decide (0 ≤ ap ts n)) = B
  generalize asc t.f0 t.f4 none = A
  generalize decide (t.f4.length ≤ 4) = C
  intro hf
  cases A <;> cases B <;> simp at hf <;> cases cY t.f0 <;> cases ap ts t.f0 == i <;> cases bw t.f1 != 0 <;> cases aD t.f2 0 3 <;> cases C <;> rfl
theorem me (x0 : GTask) (h : aq.sm x0) : Does E 20 [.agg (GTask.t .far x0)] [(false, [tB (iK x0)])] := by
 exact DS x0 _ (Gu x0 h)
theorem rX {q0 : Kd} (x0 : List GTask) (x1 : Int) (h : aq.sm x0) (hi : 0 ≤ x1 ∧ x1 < (x0.length : Int)) : Does E 14 [.one (.s .far () 5 (x0.map (GTask.t q0))), .one (tI x1)] [(false, [tB (gk x0 x1)])] := by
 exact CD x0 x1 _ (CH x0 x1 h hi)
noncomputable def mj (x0 : ByteArray) : Option (Bool) :=
  cond ((ai x0).2)
   (if aq.sm ((ai x0).1) then some (((aT ((ai x0).1)).1).toList == x0.toList) else none)
   (if aq.sm ((ai x0).1) then some (false) else none)
theorem DR (x0 : ByteArray) : Ans (mj x0) (fun r => Does E 18 [.one (tS x0)] [(false, [tB r])]) := by
 unfold mj
 refine I3 (fun h0 => ?_) (fun h0 => ?_)
 ·refine I5 (fun h1 => ?_)
  exact IX (IW (fn := Tryz.f18) [.ret [(true, GCron.t .own ((ai x0).1)), (false, [tB true])], .ret [(false, [tS ((aT ((ai x0).1)).1)]), (false, [tB ((aT ((ai x0).1)).2)])]] _ rfl (fun _ => rfl) (fun k => by kernel_rfl) (AD (I6 (rs' := [(true, GCron.t .own ((ai x0).1)), (false, [tB true])]) (px x0) (by rw [h0])) <| AD (p9 ((ai x0).1) h1) <| AN))
 ·refine I5 (fun h1 => ?_)
  exact IX (IW (fn := Tryz.f18) [.ret [(true, GCron.t .own ((ai x0).1)), (false, [tB false])], .ret [(false, [tS ((aT ((ai x0).1)).1)]), (false, [tB ((aT ((ai x0).1)).2)])]] _ rfl (fun _ => rfl) (fun k => by kernel_rfl) (AD (I6 (rs' := [(true, GCron.t .own ((ai x0).1)), (false, [tB false])]) (px x0) (by rw [h0])) <| AD (p9 ((ai x0).1) h1) <| AN))
noncomputable def gm (s : ByteArray) : Bool := (ai s).2 && ((aT (ai s).1).1.toList == s.toList)
theorem FS (s : ByteArray) : mj s = some (gm s) := by
 unfold mj gm
 simp only [AZ s, if_true]
 cases (ai s).2 <;> rfl
theorem gl (x0 : ByteArray) : Does E 18 [.one (tS x0)] [(false, [tB (gm x0)])] := by
 exact DR x0 _ (FS x0)
inductive uZ where
 | ret (v2 : Bool)
 | x0 
def i7 (q0 : Kd) (v1_0 v1_1 : ByteArray) (v1_2 v1_3 : Int) (v1_4 : Bool) (v1_5 : List GTask) (v7 : Int) : US := stL 74 [(1, .box () [tS v1_0, tS v1_1, tI v1_2, tI v1_3, tB v1_4, .s .far () 5 (v1_5.map (GTask.t q0))]), (7, .one (tI v7))]
def l4 (q0 : Kd) (zv2 : Bool) : US := stL 74 [(2, .one (tB zv2))]
def mV (q0 : Kd) (v1_0 v1_1 : ByteArray) (v1_2 v1_3 : Int) (v1_4 : Bool) (v1_5 : List GTask) : US := stL 74 [(1, .box () [tS v1_0, tS v1_1, tI v1_2, tI v1_3, tB v1_4, .s .far () 5 (v1_5.map (GTask.t q0))])]
abbrev po : US → Exit → US → Prop := Round E 5 (aB Tryz.f5 0)
def Eg {q0 : Kd} (v1_0 v1_1 : ByteArray) (v1_2 v1_3 : Int) (v1_4 : Bool) (v1_5 : List GTask) (v7 : Int) : uZ → Prop
 | .ret zv2 => Loops E 5 (aB Tryz.f5 0) (i7 q0 v1_0 v1_1 v1_2 v1_3 v1_4 v1_5 v7) .ret (l4 q0 zv2)
 | .x0 => Loops E 5 (aB Tryz.f5 0) (i7 q0 v1_0 v1_1 v1_2 v1_3 v1_4 v1_5 v7) (.exit 0) (mV q0 v1_0 v1_1 v1_2 v1_3 v1_4 v1_5)
theorem Bd {q0 : Kd} (v1_0 v1_1 : ByteArray) (v1_2 v1_3 : Int) (v1_4 : Bool) (v1_5 : List GTask) (v7 : Int) (h0 : (decide (v7 < (v1_5.length : Int))) = true) (h1 : aq.sm v1_5) (h2 : 0 ≤ v7 ∧ v7 < (v1_5.length : Int)) (h3 : (gk v1_5 v7) = true) : po (i7 q0 v1_0 v1_1 v1_2 v1_3 v1_4 v1_5 v7) .normal (i7 q0 v1_0 v1_1 v1_2 v1_3 v1_4 v1_5 (inc v7)) :=
 IV [.val (.int .i64 (v1_5.length : Int)), .b true, rT] _ (fun k => by kernel_rfl) (AC (p := ((v1_5.map (GTask.t q0)).length : Int) = (v1_5.length : Int)) ag <| AC h0 <| AV (ψ := fun k => E.C k 14 [.one (.s .far () 5 (v1_5.map (GTask.t q0))), .one (tI v7)] = some [(false, [tB true])]) (I6 (rX v1_5 v7 h1 h2) (by rw [h3])) <| AN)
theorem Be {q0 : Kd} (v1_0 v1_1 : ByteArray) (v1_2 v1_3 : Int) (v1_4 : Bool) (v1_5 : List GTask) (v7 : Int) (h0 : (decide (v7 < (v1_5.length : Int))) = true) (h1 : aq.sm v1_5) (h2 : 0 ≤ v7 ∧ v7 < (v1_5.length : Int)) (h3 : (gk v1_5 v7) = false) : po (i7 q0 v1_0 v1_1 v1_2 v1_3 v1_4 v1_5 v7) .ret (l4 q0 false) :=
 IV [.val (.int .i64 (v1_5.length : Int)), .b true, rF] _ (fun k => by kernel_rfl) (AC (p := ((v1_5.map (GTask.t q0)).length : Int) = (v1_5.length : Int)) ag <| AC h0 <| AV (ψ := fun k => E.C k 14 [.one (.s .far () 5 (v1_5.map (GTask.t q0))), .one (tI v7)] = some [(false, [tB false])]) (I6 (rX v1_5 v7 h1 h2) (by rw [h3])) <| AN)
theorem Bf {q0 : Kd} (v1_0 v1_1 : ByteArray) (v1_2 v1_3 : Int) (v1_4 : Bool) (v1_5 : List GTask) (v7 : Int) (h0 : (decide (v7 < (v1_5.length : Int))) = false) : po (i7 q0 v1_0 v1_1 v1_2 v1_3 v1_4 v1_5 v7) (.exit 0) (mV q0 v1_0 v1_1 v1_2 v1_3 v1_4 v1_5) :=
 IV [.val (.int .i64 (v1_5.length : Int)), .b false] _ (fun k => by kernel_rfl) (AC (p := ((v1_5.map (GTask.t q0)).length : Int) = (v1_5.length : Int)) ag <| AC h0 <| AN)
noncomputable def gy (v1_5 : List GTask) : List GTask → Nat → Bool → Option uZ
 | [], i, v1_4 => some (.x0)
 | hd :: rest, i, v1_4 => if aq.sm v1_5 then if 0 ≤ (i : Int) ∧ (i : Int) < (v1_5.length : Int) then cond (gk v1_5 (i : Int))
  (gy v1_5 rest (i + 1) v1_4)
  (some (.ret false)) else none else none
theorem Ef {q0 : Kd} (v1_0 v1_1 : ByteArray) (v1_2 v1_3 : Int) (v1_5 : List GTask) (rest : List GTask) : ∀ (i : Nat) (v1_4 : Bool), (v1_5).drop i = rest → v1_5.length ≤ 9223372036854775807 → Ans (gy v1_5 rest i v1_4) (Eg (q0 := q0) v1_0 v1_1 v1_2 v1_3 v1_4 v1_5 (i : Int)) := by
 induction rest with
 | nil =>
  intro i v1_4 hE hl
  have hb := bH hE
  unfold gy
  exact IX (IZ (Bf (q0 := q0) v1_0 v1_1 v1_2 v1_3 v1_4 v1_5 (i : Int) hb) (by intro h; cases h))
 | cons hd rest ih =>
  intro i v1_4 hE hl
  have hb := bh hE
  have hw := bi hE hl
  have hE2 := aK hE
  have hg := bq hE
  unfold gy
  refine I5 (fun h1 => ?_)
  refine I5 (fun h2 => ?_)
  refine I3 (fun h3 => ?_) (fun h3 => ?_)
  ·exact (ih (i + 1) v1_4 hE2 hl).mono fun y hy => by have r := Bd (q0 := q0) v1_0 v1_1 v1_2 v1_3 v1_4 v1_5 (i : Int) hb h1 h2 h3; rw [hw] at r; cases y <;> exact IY r hy
  ·exact IX (IZ (Be (q0 := q0) v1_0 v1_1 v1_2 v1_3 v1_4 v1_5 (i : Int) hb h1 h2 h3) (by intro h; cases h))
noncomputable def nv (x0 : GDag) : Option (Bool) :=
  cond ((ai x0.f1).2)
   (if aq.sm ((ai x0.f1).1) then if x0.f0.size ≤ 2000000 then cond (cY x0.f0)
    (cond (!(((aT ((ai x0.f1).1)).1).toList == x0.f1.toList))
     (some (false))
     (cond (aD x0.f3 (0 : Int) (68374079 : Int))
      (cond (aD x0.f2 (0 : Int) x0.f3)
       (cond (aD (x0.f5.length : Int) (1 : Int) (4 : Int))
        (if x0.f5.length ≤ 9223372036854775807 then (gy x0.f5 x0.f5 0 x0.f4).bind fun y => match y with
         | .ret w0_2 => (some (w0_2))
         | .x0 => (if aq.sm x0.f5 then if ez x0.f5 then some (((jv x0.f5).length : Int) == (x0.f5.length : Int)) else none else none) else none)
        (some (false)))
       (some (false)))
      (some (false))))
    (some (false)) else none else none)
   (if aq.sm ((ai x0.f1).1) then if x0.f0.size ≤ 2000000 then cond (cY x0.f0)
    (some (false))
    (some (false)) else none else none)
theorem Fu {q0 : Kd} (x0 : GDag) : Ans (nv x0) (fun r => Does E 5 [.agg (GDag.t .far q0 x0)] [(false, [tB r])]) := by
 unfold nv
 refine I3 (fun f1 => ?_) (fun f1 => ?_)
 ·refine I5 (fun f2 => ?_)
  refine I5 (fun f3 => ?_)
  refine I3 (fun f4 => ?_) (fun f4 => ?_)
  ·refine I3 (fun h4 => ?_) (fun h4 => ?_)
   ·exact IX (IW (fn := Tryz.f5) [.ret [(true, GCron.t .own ((ai x0.f1).1)), (false, [tB true])], .ret [(false, [tS ((aT ((ai x0.f1).1)).1)]), (false, [tB ((aT ((ai x0.f1).1)).2)])], rT, .b true] _ rfl (fun _ => rfl) (fun k => by kernel_rfl) (AD (I6 (rs' := [(true, GCron.t .own ((ai x0.f1).1)), (false, [tB true])]) (c7 x0.f1) (by rw [f1])) <| AD (dv ((ai x0.f1).1) f2) <| AD (I8 (ce x0.f0 f3) f4) <| AC h4 <| AN))
   ·refine I3 (fun h5 => ?_) (fun h5 => ?_)
    ·refine I3 (fun h6 => ?_) (fun h6 => ?_)
     ·refine I3 (fun h7 => ?_) (fun h7 => ?_)
      ·refine I5 (fun hl7 => ?_)
       refine I4 (fun y hy => ?_)
       replace hy := Ef (q0 := q0) x0.f0 x0.f1 x0.f2 x0.f3 x0.f5 x0.f5 0 x0.f4 rfl hl7 y hy
       cases y with
       | ret w0_2 =>
        have h8 := hy
        exact IX (IW (fn := Tryz.f5) [.ret [(true, GCron.t .own ((ai x0.f1).1)), (false, [tB true])], .ret [(false, [tS ((aT ((ai x0.f1).1)).1)]), (false, [tB ((aT ((ai x0.f1).1)).2)])], rT, .b false, rT, rT, .val (.int .i64 (x0.f5.length : Int)), rT, .lp .ret (l4 q0 w0_2)] _ rfl (fun _ => rfl) (fun k => by kernel_rfl) (AD (I6 (rs' := [(true, GCron.t .own ((ai x0.f1).1)), (false, [tB true])]) (c7 x0.f1) (by rw [f1])) <| AD (dv ((ai x0.f1).1) f2) <| AD (I8 (ce x0.f0 f3) f4) <| AC h4 <| AD (I8 (bf x0.f3 (0 : Int) (68374079 : Int)) h5) <| AD (I8 (bf x0.f2 (0 : Int) x0.f3) h6) <| AC (p := ((x0.f5.map (GTask.t q0)).length : Int) = (x0.f5.length : Int)) ag <| AD (I8 (bf (x0.f5.length : Int) (1 : Int) (4 : Int)) h7) <| AL h8 <| AN))
       | x0 =>
        have h8 := hy
        refine I5 (fun h9 => ?_)
        refine I5 (fun h10 => ?_)
        exact IX (IW (fn := Tryz.f5) [.ret [(true, GCron.t .own ((ai x0.f1).1)), (false, [tB true])], .ret [(false, [tS ((aT ((ai x0.f1).1)).1)]), (false, [tB ((aT ((ai x0.f1).1)).2)])], rT, .b false, rT, rT, .val (.int .i64 (x0.f5.length : Int)), rT, .lp (.exit 0) (mV q0 x0.f0 x0.f1 x0.f2 x0.f3 x0.f4 x0.f5), .ret [(false, [.s .own () 1 ((jv x0.f5).map etI)])], .val (.int .i64 ((jv x0.f5).length : Int)), .val (.int .i64 (x0.f5.length : Int))] _ rfl (fun _ => rfl) (fun k => by kernel_rfl) (AD (I6 (rs' := [(true, GCron.t .own ((ai x0.f1).1)), (false, [tB true])]) (c7 x0.f1) (by rw [f1])) <| AD (dv ((ai x0.f1).1) f2) <| AD (I8 (ce x0.f0 f3) f4) <| AC h4 <| AD (I8 (bf x0.f3 (0 : Int) (68374079 : Int)) h5) <| AD (I8 (bf x0.f2 (0 : Int) x0.f3) h6) <| AC (p := ((x0.f5.map (GTask.t q0)).length : Int) = (x0.f5.length : Int)) ag <| AD (I8 (bf (x0.f5.length : Int) (1 : Int) (4 : Int)) h7) <| AL h8 <| AV (ψ := fun k => E.C k 15 [.one (.s .far () 5 (x0.f5.map (GTask.t q0)))] = some [(false, [.s .own () 1 ((jv x0.f5).map etI)])]) (zx x0.f5 h9 h10) <| AC (p := (((jv x0.f5).map etI).length : Int) = ((jv x0.f5).length : Int)) ag <| AC (p := ((x0.f5.map (GTask.t q0)).length : Int) = (x0.f5.length : Int)) ag <| AN))
      ·exact IX (IW (fn := Tryz.f5) [.ret [(true, GCron.t .own ((ai x0.f1).1)), (false, [tB true])], .ret [(false, [tS ((aT ((ai x0.f1).1)).1)]), (false, [tB ((aT ((ai x0.f1).1)).2)])], rT, .b false, rT, rT, .val (.int .i64 (x0.f5.length : Int)), rF] _ rfl (fun _ => rfl) (fun k => by kernel_rfl) (AD (I6 (rs' := [(true, GCron.t .own ((ai x0.f1).1)), (false, [tB true])]) (c7 x0.f1) (by rw [f1])) <| AD (dv ((ai x0.f1).1) f2) <| AD (I8 (ce x0.f0 f3) f4) <| AC h4 <| AD (I8 (bf x0.f3 (0 : Int) (68374079 : Int)) h5) <| AD (I8 (bf x0.f2 (0 : Int) x0.f3) h6) <| AC (p := ((x0.f5.map (GTask.t q0)).length : Int) = (x0.f5.length : Int)) ag <| AD (I8 (bf (x0.f5.length : Int) (1 : Int) (4 : Int)) h7) <| AN))
     ·exact IX (IW (fn := Tryz.f5) [.ret [(true, GCron.t .own ((ai x0.f1).1)), (false, [tB true])], .ret [(false, [tS ((aT ((ai x0.f1).1)).1)]), (false, [tB ((aT ((ai x0.f1).1)).2)])], rT, .b false, rT, rF] _ rfl (fun _ => rfl) (fun k => by kernel_rfl) (AD (I6 (rs' := [(true, GCron.t .own ((ai x0.f1).1)), (false, [tB true])]) (c7 x0.f1) (by rw [f1])) <| AD (dv ((ai x0.f1).1) f2) <| AD (I8 (ce x0.f0 f3) f4) <| AC h4 <| AD (I8 (bf x0.f3 (0 : Int) (68374079 : Int)) h5) <| AD (I8 (bf x0.f2 (0 : Int) x0.f3) h6) <| AN))
    ·exact IX (IW (fn := Tryz.f5) [.ret [(true, GCron.t .own ((ai x0.f1).1)), (false, [tB true])], .ret [(false, [tS ((aT ((ai x0.f1).1)).1)]), (false, [tB ((aT ((ai x0.f1).1)).2)])], rT, .b false, rF] _ rfl (fun _ => rfl) (fun k => by kernel_rfl) (AD (I6 (rs' := [(true, GCron.t .own ((ai x0.f1).1)), (false, [tB true])]) (c7 x0.f1) (by rw [f1])) <| AD (dv ((ai x0.f1).1) f2) <| AD (I8 (ce x0.f0 f3) f4) <| AC h4 <| AD (I8 (bf x0.f3 (0 : Int) (68374079 : Int)) h5) <| AN))
  ·exact IX (IW (fn := Tryz.f5) [.ret [(true, GCron.t .own ((ai x0.f1).1)), (false, [tB ((ai x0.f1).2)])], .ret [(false, [tS ((aT ((ai x0.f1).1)).1)]), (false, [tB ((aT ((ai x0.f1).1)).2)])], rF] _ rfl (fun _ => rfl) (fun k => by kernel_rfl) (AD (c7 x0.f1) <| AD (dv ((ai x0.f1).1) f2) <| AD (I8 (ce x0.f0 f3) f4) <| AN))
 ·refine I5 (fun f5 => ?_)
  refine I5 (fun f6 => ?_)
  refine I3 (fun f7 => ?_) (fun f7 => ?_)
  ·exact IX (IW (fn := Tryz.f5) [.ret [(true, GCron.t .own ((ai x0.f1).1)), (false, [tB false])], .ret [(false, [tS ((aT ((ai x0.f1).1)).1)]), (false, [tB ((aT ((ai x0.f1).1)).2)])], rT] _ rfl (fun _ => rfl) (fun k => by kernel_rfl) (AD (I6 (rs' := [(true, GCron.t .own ((ai x0.f1).1)), (false, [tB false])]) (c7 x0.f1) (by rw [f1])) <| AD (dv ((ai x0.f1).1) f5) <| AD (I8 (ce x0.f0 f6) f7) <| AN))
  ·exact IX (IW (fn := Tryz.f5) [.ret [(true, GCron.t .own ((ai x0.f1).1)), (false, [tB ((ai x0.f1).2)])], .ret [(false, [tS ((aT ((ai x0.f1).1)).1)]), (false, [tB ((aT ((ai x0.f1).1)).2)])], rF] _ rfl (fun _ => rfl) (fun k => by kernel_rfl) (AD (c7 x0.f1) <| AD (dv ((ai x0.f1).1) f5) <| AD (I8 (ce x0.f0 f6) f7) <| AN))
inductive uG where
 | ret (v2 : Bool)
 | x2 
def iR (q0 : Kd) (v1_0 v1_1 : ByteArray) (v1_2 v1_3 : Int) (v1_4 : Bool) (v1_5 v40 : List GTask) (v41 v42 : Int) (v59 : List ByteArray) (v60 v61 : Int) : US := stL 78 [(1, .box () [tS v1_0, tS v1_1, tI v1_2, tI v1_3, tB v1_4, .s .far () 5 (v1_5.map (GTask.t q0))]), (40, .one (.s .far () 5 (v40.map (GTask.t q0)))), (41, .one (tI v41)), (42, .one (tI v42)), (59, .one (.s .far () 1 (v59.map etS))), (60, .one (tI v60)), (61, .one (tI v61))]
def lU (q0 : Kd) (zv2 : Bool) : US := stL 78 [(2, .one (tB zv2))]
def mL (q0 : Kd) (v1_0 v1_1 : ByteArray) (v1_2 v1_3 : Int) (v1_4 : Bool) (v1_5 v40 : List GTask) (v41 v42 : Int) : US := stL 78 [(1, .box () [tS v1_0, tS v1_1, tI v1_2, tI v1_3, tB v1_4, .s .far () 5 (v1_5.map (GTask.t q0))]), (40, .one (.s .far () 5 (v40.map (GTask.t q0)))), (41, .one (tI v41)), (42, .one (tI v42))]
abbrev o6 : US → Exit → US → Prop := Round E 7 (aB Tryz.f7 1)
def o7 {q0 : Kd} (v1_0 v1_1 : ByteArray) (v1_2 v1_3 : Int) (v1_4 : Bool) (v1_5 v40 : List GTask) (v41 v42 : Int) (v59 : List ByteArray) (v60 v61 : Int) : uG → Prop
 | .ret zv2 => Loops E 7 (aB Tryz.f7 1) (iR q0 v1_0 v1_1 v1_2 v1_3 v1_4 v1_5 v40 v41 v42 v59 v60 v61) .ret (lU q0 zv2)
 | .x2 => Loops E 7 (aB Tryz.f7 1) (iR q0 v1_0 v1_1 v1_2 v1_3 v1_4 v1_5 v40 v41 v42 v59 v60 v61) (.exit 2) (mL q0 v1_0 v1_1 v1_2 v1_3 v1_4 v1_5 v40 v41 v42)
theorem Aq {q0 : Kd} (v1_0 v1_1 : ByteArray) (v1_2 v1_3 : Int) (v1_4 : Bool) (v1_5 v40 : List GTask) (v41 v42 : Int) (v59 : List ByteArray) (v60 v61 : Int) (g0 : ByteArray) (h0 : (decide (v61 < v60)) = true) (h1 : am v59 v61 = some g0) (h2 : (GDag.mk v1_0 v1_1 v1_2 v1_3 v1_4 v1_5).f5.length ≤ 1050000) (h3 : (decide ((bm (GDag.mk v1_0 v1_1 v1_2 v1_3 v1_4 v1_5) g0) < (0 : Int))) = true) : o6 (iR q0 v1_0 v1_1 v1_2 v1_3 v1_4 v1_5 v40 v41 v42 v59 v60 v61) .ret (lU q0 false) :=
 IV [.b true, .row (etS g0), .ret [(false, [tI (bm (GDag.mk v1_0 v1_1 v1_2 v1_3 v1_4 v1_5) g0)])], .b true] _ (fun k => by kernel_rfl) (AC h0 <| AC (p := 0 ≤ v61 ∧ (v59.map etS)[v61.toNat]? = some (etS g0)) (az h1) <| AV (ψ := fun k => E.C k 21 [.agg (GDag.t .far q0 (GDag.mk v1_0 v1_1 v1_2 v1_3 v1_4 v1_5)), .one (tS g0)] = some [(false, [tI (bm (GDag.mk v1_0 v1_1 v1_2 v1_3 v1_4 v1_5) g0)])]) (ew (GDag.mk v1_0 v1_1 v1_2 v1_3 v1_4 v1_5) g0 h2) <| AC h3 <| AN)
theorem Ar {q0 : Kd} (v1_0 v1_1 : ByteArray) (v1_2 v1_3 : Int) (v1_4 : Bool) (v1_5 v40 : List GTask) (v41 v42 : Int) (v59 : List ByteArray) (v60 v61 : Int) (g0 : ByteArray) (h0 : (decide (v61 < v60)) = true) (h1 : am v59 v61 = some g0) (h2 : (GDag.mk v1_0 v1_1 v1_2 v1_3 v1_4 v1_5).f5.length ≤ 1050000) (h3 : (decide ((bm (GDag.mk v1_0 v1_1 v1_2 v1_3 v1_4 v1_5) g0) < (0 : Int))) = false) : o6 (iR q0 v1_0 v1_1 v1_2 v1_3 v1_4 v1_5 v40 v41 v42 v59 v60 v61) .normal (iR q0 v1_0 v1_1 v1_2 v1_3 v1_4 v1_5 v40 v41 v42 v59 v60 (inc v61)) :=
 IV [.b true, .row (etS g0), .ret [(false, [tI (bm (GDag.mk v1_0 v1_1 v1_2 v1_3 v1_4 v1_5) g0)])], .b false] _ (fun k => by kernel_rfl) (AC h0 <| AC (p := 0 ≤ v61 ∧ (v59.map etS)[v61.toNat]? = some (etS g0)) (az h1) <| AV (ψ := fun k => E.C k 21 [.agg (GDag.t .far q0 (GDag.mk v1_0 v1_1 v1_2 v1_3 v1_4 v1_5)), .one (tS g0)] = some [(false, [tI (bm (GDag.mk v1_0 v1_1 v1_2 v1_3 v1_4 v1_5) g0)])]) (ew (GDag.mk v1_0 v1_1 v1_2 v1_3 v1_4 v1_5) g0 h2) <| AC h3 <| AN)
theorem As {q0 : Kd} (v1_0 v1_1 : ByteArray) (v1_2 v1_3 : Int) (v1_4 : Bool) (v1_5 v40 : List GTask) (v41 v42 : Int) (v59 : List ByteArray) (v60 v61 : Int) (h0 : (decide (v61 < v60)) = false) : o6 (iR q0 v1_0 v1_1 v1_2 v1_3 v1_4 v1_5 v40 v41 v42 v59 v60 v61) (.exit 2) (mL q0 v1_0 v1_1 v1_2 v1_3 v1_4 v1_5 v40 v41 v42) :=
 IV [.b false] _ (fun k => by kernel_rfl) (AC h0 <| AN)
noncomputable def gp (v1_0 v1_1 : ByteArray) (v1_2 v1_3 : Int) (v1_5 : List GTask) : List ByteArray → Nat → Bool → Option uG
 | [], i, v1_4 => some (.x2)
 | hd :: rest, i, v1_4 => if (GDag.mk v1_0 v1_1 v1_2 v1_3 v1_4 v1_5).f5.length ≤ 1050000 then cond (decide ((bm (GDag.mk v1_0 v1_1 v1_2 v1_3 v1_4 v1_5) hd) < (0 : Int)))
  (some (.ret false))
  (gp v1_0 v1_1 v1_2 v1_3 v1_5 rest (i + 1) v1_4) else none
theorem DM {q0 : Kd} (v1_0 v1_1 : ByteArray) (v1_2 v1_3 : Int) (v1_5 v40 : List GTask) (v41 v42 : Int) (v59 : List ByteArray) (rest : List ByteArray) : ∀ (i : Nat) (v1_4 : Bool), (v59).drop i = rest → v59.length ≤ 9223372036854775807 → Ans (gp v1_0 v1_1 v1_2 v1_3 v1_5 rest i v1_4) (o7 (q0 := q0) v1_0 v1_1 v1_2 v1_3 v1_4 v1_5 v40 v41 v42 v59 (v59.length : Int) (i : Int)) := by
 induction rest with
 | nil =>
  intro i v1_4 hE hl
  have hb := bH hE
  unfold gp
  exact IX (IZ (As (q0 := q0) v1_0 v1_1 v1_2 v1_3 v1_4 v1_5 v40 v41 v42 v59 (v59.length : Int) (i : Int) hb) (by intro h; cases h))
 | cons hd rest ih =>
  intro i v1_4 hE hl
  have hb := bh hE
  have hw := bi hE hl
  have hE2 := aK hE
  have hg := bq hE
  unfold gp
  refine I5 (fun h2 => ?_)
  refine I3 (fun h3 => ?_) (fun h3 => ?_)
  ·exact IX (IZ (Aq (q0 := q0) v1_0 v1_1 v1_2 v1_3 v1_4 v1_5 v40 v41 v42 v59 (v59.length : Int) (i : Int) hd hb hg h2 h3) (by intro h; cases h))
  ·exact (ih (i + 1) v1_4 hE2 hl).mono fun y hy => by have r := Ar (q0 := q0) v1_0 v1_1 v1_2 v1_3 v1_4 v1_5 v40 v41 v42 v59 (v59.length : Int) (i : Int) hd hb hg h2 h3; rw [hw] at r; cases y <;> exact IY r hy
inductive uF where
 | ret (v2 : Bool)
 | x0 
def fp (q0 : Kd) (v1_0 v1_1 : ByteArray) (v1_2 v1_3 : Int) (v1_4 : Bool) (v1_5 v40 : List GTask) (v41 v42 : Int) : US := stL 78 [(1, .box () [tS v1_0, tS v1_1, tI v1_2, tI v1_3, tB v1_4, .s .far () 5 (v1_5.map (GTask.t q0))]), (40, .one (.s .far () 5 (v40.map (GTask.t q0)))), (41, .one (tI v41)), (42, .one (tI v42))]
def gH (q0 : Kd) (zv2 : Bool) : US := stL 78 [(2, .one (tB zv2))]
def mK (q0 : Kd) (v1_0 v1_1 : ByteArray) (v1_2 v1_3 : Int) (v1_4 : Bool) (v1_5 : List GTask) : US := stL 78 [(1, .box () [tS v1_0, tS v1_1, tI v1_2, tI v1_3, tB v1_4, .s .far () 5 (v1_5.map (GTask.t q0))])]
abbrev ks : US → Exit → US → Prop := Round E 7 (aB Tryz.f7 0)
def DN {q0 : Kd} (v1_0 v1_1 : ByteArray) (v1_2 v1_3 : Int) (v1_4 : Bool) (v1_5 v40 : List GTask) (v41 v42 : Int) : uF → Prop
 | .ret zv2 => Loops E 7 (aB Tryz.f7 0) (fp q0 v1_0 v1_1 v1_2 v1_3 v1_4 v1_5 v40 v41 v42) .ret (gH q0 zv2)
 | .x0 => Loops E 7 (aB Tryz.f7 0) (fp q0 v1_0 v1_1 v1_2 v1_3 v1_4 v1_5 v40 v41 v42) (.exit 0) (mK q0 v1_0 v1_1 v1_2 v1_3 v1_4 v1_5)
theorem Ak {q0 : Kd} (v1_0 v1_1 : ByteArray) (v1_2 v1_3 : Int) (v1_4 : Bool) (v1_5 v40 : List GTask) (v41 v42 : Int) (g0 : GTask) (h0 : (decide (v42 < v41)) = true) (h1 : am v40 v42 = some g0) (h2 : aq.sm g0) (h3 : (iK g0) = true) (h4 : (GDag.mk v1_0 v1_1 v1_2 v1_3 v1_4 v1_5).f5.length ≤ 1050000) (h5 : ((bm (GDag.mk v1_0 v1_1 v1_2 v1_3 v1_4 v1_5) g0.f0) != v42) = true) : ks (fp q0 v1_0 v1_1 v1_2 v1_3 v1_4 v1_5 v40 v41 v42) .ret (gH q0 false) :=
 IV [.b true, .row ((GTask.t q0) g0), rT, .ret [(false, [tI (bm (GDag.mk v1_0 v1_1 v1_2 v1_3 v1_4 v1_5) g0.f0)])], .b true] _ (fun k => by kernel_rfl) (AC h0 <| AC (p := 0 ≤ v42 ∧ (v40.map (GTask.t q0))[v42.toNat]? = some ((GTask.t q0) g0)) (az h1) <| AD (I8 (me g0 h2) h3) <| AV (ψ := fun k => E.C k 21 [.agg (GDag.t .far q0 (GDag.mk v1_0 v1_1 v1_2 v1_3 v1_4 v1_5)), .one (tS g0.f0)] = some [(false, [tI (bm (GDag.mk v1_0 v1_1 v1_2 v1_3 v1_4 v1_5) g0.f0)])]) (ew (GDag.mk v1_0 v1_1 v1_2 v1_3 v1_4 v1_5) g0.f0 h4) <| AC h5 <| AN)
theorem Al {q0 : Kd} (v1_0 v1_1 : ByteArray) (v1_2 v1_3 : Int) (v1_4 : Bool) (v1_5 v40 : List GTask) (v41 v42 : Int) (g0 : GTask) (w0_2 : Bool) (h0 : (decide (v42 < v41)) = true) (h1 : am v40 v42 = some g0) (h2 : aq.sm g0) (h3 : (iK g0) = true) (h4 : (GDag.mk v1_0 v1_1 v1_2 v1_3 v1_4 v1_5).f5.length ≤ 1050000) (h5 : ((bm (GDag.mk v1_0 v1_1 v1_2 v1_3 v1_4 v1_5) g0.f0) != v42) = false) (h6 : o7 (q0 := q0) v1_0 v1_1 v1_2 v1_3 v1_4 v1_5 v40 v41 v42 g0.f4 (g0.f4.length : Int) (0 : Int) (.ret w0_2)) : ks (fp q0 v1_0 v1_1 v1_2 v1_3 v1_4 v1_5 v40 v41 v42) .ret (gH q0 w0_2) :=
 IV [.b true, .row ((GTask.t q0) g0), rT, .ret [(false, [tI (bm (GDag.mk v1_0 v1_1 v1_2 v1_3 v1_4 v1_5) g0.f0)])], .b false, .val (.int .i64 (g0.f4.length : Int)), .lp .ret (lU q0 w0_2)] _ (fun k => by kernel_rfl) (AC h0 <| AC (p := 0 ≤ v42 ∧ (v40.map (GTask.t q0))[v42.toNat]? = some ((GTask.t q0) g0)) (az h1) <| AD (I8 (me g0 h2) h3) <| AV (ψ := fun k => E.C k 21 [.agg (GDag.t .far q0 (GDag.mk v1_0 v1_1 v1_2 v1_3 v1_4 v1_5)), .one (tS g0.f0)] = some [(false, [tI (bm (GDag.mk v1_0 v1_1 v1_2 v1_3 v1_4 v1_5) g0.f0)])]) (ew (GDag.mk v1_0 v1_1 v1_2 v1_3 v1_4 v1_5) g0.f0 h4) <| AC h5 <| AC (p := ((g0.f4.map etS).length : Int) = (g0.f4.length : Int)) ag <| AL h6 <| AN)
theorem An {q0 : Kd} (v1_0 v1_1 : ByteArray) (v1_2 v1_3 : Int) (v1_4 : Bool) (v1_5 v40 : List GTask) (v41 v42 : Int) (g0 : GTask) (h0 : (decide (v42 < v41)) = true) (h1 : am v40 v42 = some g0) (h2 : aq.sm g0) (h3 : (iK g0) = true) (h4 : (GDag.mk v1_0 v1_1 v1_2 v1_3 v1_4 v1_5).f5.length ≤ 1050000) (h5 : ((bm (GDag.mk v1_0 v1_1 v1_2 v1_3 v1_4 v1_5) g0.f0) != v42) = false) (h6 : o7 (q0 := q0) v1_0 v1_1 v1_2 v1_3 v1_4 v1_5 v40 v41 v42 g0.f4 (g0.f4.length : Int) (0 : Int) (.x2)) : ks (fp q0 v1_0 v1_1 v1_2 v1_3 v1_4 v1_5 v40 v41 v42) .normal (fp q0 v1_0 v1_1 v1_2 v1_3 v1_4 v1_5 v40 v41 (inc v42)) :=
 IV [.b true, .row ((GTask.t q0) g0), rT, .ret [(false, [tI (bm (GDag.mk v1_0 v1_1 v1_2 v1_3 v1_4 v1_5) g0.f0)])], .b false, .val (.int .i64 (g0.f4.length : Int)), .lp (.exit 2) (mL q0 v1_0 v1_1 v1_2 v1_3 v1_4 v1_5 v40 v41 v42)] _ (fun k => by kernel_rfl) (AC h0 <| AC (p := 0 ≤ v42 ∧ (v40.map (GTask.t q0))[v42.toNat]? = some ((GTask.t q0) g0)) (az h1) <| AD (I8 (me g0 h2) h3) <| AV (ψ := fun k => E.C k 21 [.agg (GDag.t .far q0 (GDag.mk v1_0 v1_1 v1_2 v1_3 v1_4 v1_5)), .one (tS g0.f0)] = some [(false, [tI (bm (GDag.mk v1_0 v1_1 v1_2 v1_3 v1_4 v1_5) g0.f0)])]) (ew (GDag.mk v1_0 v1_1 v1_2 v1_3 v1_4 v1_5) g0.f0 h4) <| AC h5 <| AC (p := ((g0.f4.map etS).length : Int) = (g0.f4.length : Int)) ag <| AL h6 <| AN)
theorem Ao {q0 : Kd} (v1_0 v1_1 : ByteArray) (v1_2 v1_3 : Int) (v1_4 : Bool) (v1_5 v40 : List GTask) (v41 v42 : Int) (g0 : GTask) (h0 : (decide (v42 < v41)) = true) (h1 : am v40 v42 = some g0) (h2 : aq.sm g0) (h3 : (iK g0) = false) : ks (fp q0 v1_0 v1_1 v1_2 v1_3 v1_4 v1_5 v40 v41 v42) .ret (gH q0 false) :=
 IV [.b true, .row ((GTask.t q0) g0), rF] _ (fun k => by kernel_rfl) (AC h0 <| AC (p := 0 ≤ v42 ∧ (v40.map (GTask.t q0))[v42.toNat]? = some ((GTask.t q0) g0)) (az h1) <| AD (I8 (me g0 h2) h3) <| AN)
theorem Ap {q0 : Kd} (v1_0 v1_1 : ByteArray) (v1_2 v1_3 : Int) (v1_4 : Bool) (v1_5 v40 : List GTask) (v41 v42 : Int) (h0 : (decide (v42 < v41)) = false) : ks (fp q0 v1_0 v1_1 v1_2 v1_3 v1_4 v1_5 v40 v41 v42) (.exit 0) (mK q0 v1_0 v1_1 v1_2 v1_3 v1_4 v1_5) :=
 IV [.b false] _ (fun k => by kernel_rfl) (AC h0 <| AN)
noncomputable def gn (v1_0 v1_1 : ByteArray) (v1_2 v1_3 : Int) (v1_5 : List GTask) : List GTask → Nat → Bool → Option uF
 | [], i, v1_4 => some (.x0)
 | hd :: rest, i, v1_4 => if aq.sm hd then cond (iK hd)
  (if (GDag.mk v1_0 v1_1 v1_2 v1_3 v1_4 v1_5).f5.length ≤ 1050000 then cond ((bm (GDag.mk v1_0 v1_1 v1_2 v1_3 v1_4 v1_5) hd.f0) != (i : Int))
   (some (.ret false))
   (if hd.f4.length ≤ 9223372036854775807 then (gp v1_0 v1_1 v1_2 v1_3 v1_5 hd.f4 0 v1_4).bind fun y => match y with
    | .ret w0_2 => (some (.ret w0_2))
    | .x2 => (gn v1_0 v1_1 v1_2 v1_3 v1_5 rest (i + 1) v1_4) else none) else none)
  (some (.ret false)) else none
theorem DL {q0 : Kd} (v1_0 v1_1 : ByteArray) (v1_2 v1_3 : Int) (v1_5 v40 : List GTask) (rest : List GTask) : ∀ (i : Nat) (v1_4 : Bool), (v40).drop i = rest → v40.length ≤ 9223372036854775807 → Ans (gn v1_0 v1_1 v1_2 v1_3 v1_5 rest i v1_4) (DN (q0 := q0) v1_0 v1_1 v1_2 v1_3 v1_4 v1_5 v40 (v40.length : Int) (i : Int)) := by
 induction rest with
 | nil =>
  intro i v1_4 hE hl
  have hb := bH hE
  unfold gn
  exact IX (IZ (Ap (q0 := q0) v1_0 v1_1 v1_2 v1_3 v1_4 v1_5 v40 (v40.length : Int) (i : Int) hb) (by intro h; cases h))
 | cons hd rest ih =>
  intro i v1_4 hE hl
  have hb := bh hE
  have hw := bi hE hl
  have hE2 := aK hE
  have hg := bq hE
  unfold gn
  refine I5 (fun h2 => ?_)
  refine I3 (fun h3 => ?_) (fun h3 => ?_)
  ·refine I5 (fun h4 => ?_)
   refine I3 (fun h5 => ?_) (fun h5 => ?_)
   ·exact IX (IZ (Ak (q0 := q0) v1_0 v1_1 v1_2 v1_3 v1_4 v1_5 v40 (v40.length : Int) (i : Int) hd hb hg h2 h3 h4 h5) (by intro h; cases h))
   ·refine I5 (fun hl4 => ?_)
    refine I4 (fun y hy => ?_)
    replace hy := DM (q0 := q0) v1_0 v1_1 v1_2 v1_3 v1_5 v40 (v40.length : Int) (i : Int) hd.f4 hd.f4 0 v1_4 rfl hl4 y hy
    cases y with
    | ret w0_2 =>
     have h6 := hy
     exact IX (IZ (Al (q0 := q0) v1_0 v1_1 v1_2 v1_3 v1_4 v1_5 v40 (v40.length : Int) (i : Int) hd w0_2 hb hg h2 h3 h4 h5 h6) (by intro h; cases h))
    | x2 =>
     have h6 := hy
     exact (ih (i + 1) v1_4 hE2 hl).mono fun y hy => by have r := An (q0 := q0) v1_0 v1_1 v1_2 v1_3 v1_4 v1_5 v40 (v40.length : Int) (i : Int) hd hb hg h2 h3 h4 h5 h6; rw [hw] at r; cases y <;> exact IY r hy
  ·exact IX (IZ (Ao (q0 := q0) v1_0 v1_1 v1_2 v1_3 v1_4 v1_5 v40 (v40.length : Int) (i : Int) hd hb hg h2 h3) (by intro h; cases h))
noncomputable def ni (x0 : GDag) : Option (Bool) :=
  if x0.f0.size ≤ 2000000 then cond (cY x0.f0)
   (cond (gm x0.f1)
    (cond (decide (x0.f2 < (0 : Int)))
     (some (false))
     (cond (decide (x0.f2 > x0.f3))
      (some (false))
      (cond (decide (x0.f3 > (68374079 : Int)))
       (some (false))
       (cond (aD (x0.f5.length : Int) (1 : Int) (4 : Int))
        (if x0.f5.length ≤ 9223372036854775807 then (gn x0.f0 x0.f1 x0.f2 x0.f3 x0.f5 x0.f5 0 x0.f4).bind fun y => match y with
         | .ret w0_2 => (some (w0_2))
         | .x0 => (if aq.sm x0 then if ez x0.f5 then some (((ke x0).length : Int) == (x0.f5.length : Int)) else none else none) else none)
        (some (false))))))
    (some (false)))
   (some (false)) else none
theorem EY {q0 : Kd} (x0 : GDag) : Ans (ni x0) (fun r => Does E 7 [.agg (GDag.t .far q0 x0)] [(false, [tB r])]) := by
 unfold ni
 refine I5 (fun h0 => ?_)
 refine I3 (fun h1 => ?_) (fun h1 => ?_)
 ·refine I3 (fun h2 => ?_) (fun h2 => ?_)
  ·refine I3 (fun h3 => ?_) (fun h3 => ?_)
   ·exact IX (IW (fn := Tryz.f7) [rT, rT, .b true] _ rfl (fun _ => rfl) (fun k => by kernel_rfl) (AD (I8 (ct x0.f0 h0) h1) <| AD (I8 (gl x0.f1) h2) <| AC h3 <| AN))
   ·refine I3 (fun h4 => ?_) (fun h4 => ?_)
    ·exact IX (IW (fn := Tryz.f7) [rT, rT, .b false, .b true] _ rfl (fun _ => rfl) (fun k => by kernel_rfl) (AD (I8 (ct x0.f0 h0) h1) <| AD (I8 (gl x0.f1) h2) <| AC h3 <| AC h4 <| AN))
    ·refine I3 (fun h5 => ?_) (fun h5 => ?_)
     ·exact IX (IW (fn := Tryz.f7) [rT, rT, .b false, .b false, .b true] _ rfl (fun _ => rfl) (fun k => by kernel_rfl) (AD (I8 (ct x0.f0 h0) h1) <| AD (I8 (gl x0.f1) h2) <| AC h3 <| AC h4 <| AC h5 <| AN))
     ·refine I3 (fun h6 => ?_) (fun h6 => ?_)
      ·refine I5 (fun hl7 => ?_)
       refine I4 (fun y hy => ?_)
       replace hy := DL (q0 := q0) x0.f0 x0.f1 x0.f2 x0.f3 x0.f5 x0.f5 x0.f5 0 x0.f4 rfl hl7 y hy
       cases y with
       | ret w0_2 =>
        have h7 := hy
        exact IX (IW (fn := Tryz.f7) [rT, rT, .b false, .b false, .b false, .val (.int .i64 (x0.f5.length : Int)), rT, .val (.int .i64 (x0.f5.length : Int)), .lp .ret (gH q0 w0_2)] _ rfl (fun _ => rfl) (fun k => by kernel_rfl) (AD (I8 (ct x0.f0 h0) h1) <| AD (I8 (gl x0.f1) h2) <| AC h3 <| AC h4 <| AC h5 <| AC (p := ((x0.f5.map (GTask.t q0)).length : Int) = (x0.f5.length : Int)) ag <| AD (I8 (cC (x0.f5.length : Int) (1 : Int) (4 : Int)) h6) <| AC (p := ((x0.f5.map (GTask.t q0)).length : Int) = (x0.f5.length : Int)) ag <| AL h7 <| AN))
       | x0 =>
        have h7 := hy
        refine I5 (fun h8 => ?_)
        refine I5 (fun h9 => ?_)
        exact IX (IW (fn := Tryz.f7) [rT, rT, .b false, .b false, .b false, .val (.int .i64 (x0.f5.length : Int)), rT, .val (.int .i64 (x0.f5.length : Int)), .lp (.exit 0) (mK q0 x0.f0 x0.f1 x0.f2 x0.f3 x0.f4 x0.f5), .ret [(false, [.s .own () 1 ((ke x0).map etI)])], .val (.int .i64 ((ke x0).length : Int)), .val (.int .i64 (x0.f5.length : Int))] _ rfl (fun _ => rfl) (fun k => by kernel_rfl) (AD (I8 (ct x0.f0 h0) h1) <| AD (I8 (gl x0.f1) h2) <| AC h3 <| AC h4 <| AC h5 <| AC (p := ((x0.f5.map (GTask.t q0)).length : Int) = (x0.f5.length : Int)) ag <| AD (I8 (cC (x0.f5.length : Int) (1 : Int) (4 : Int)) h6) <| AC (p := ((x0.f5.map (GTask.t q0)).length : Int) = (x0.f5.length : Int)) ag <| AL h7 <| AV (ψ := fun k => E.C k 22 [.agg (GDag.t .far q0 x0)] = some [(false, [.s .own () 1 ((ke x0).map etI)])]) (BQ x0 h8 h9) <| AC (p := (((ke x0).map etI).length : Int) = ((ke x0).length : Int)) ag <| AC (p := ((x0.f5.map (GTask.t q0)).length : Int) = (x0.f5.length : Int)) ag <| AN))
      ·exact IX (IW (fn := Tryz.f7) [rT, rT, .b false, .b false, .b false, .val (.int .i64 (x0.f5.length : Int)), rF] _ rfl (fun _ => rfl) (fun k => by kernel_rfl) (AD (I8 (ct x0.f0 h0) h1) <| AD (I8 (gl x0.f1) h2) <| AC h3 <| AC h4 <| AC h5 <| AC (p := ((x0.f5.map (GTask.t q0)).length : Int) = (x0.f5.length : Int)) ag <| AD (I8 (cC (x0.f5.length : Int) (1 : Int) (4 : Int)) h6) <| AN))
  ·exact IX (IW (fn := Tryz.f7) [rT, rF] _ rfl (fun _ => rfl) (fun k => by kernel_rfl) (AD (I8 (ct x0.f0 h0) h1) <| AD (I8 (gl x0.f1) h2) <| AN))
 ·exact IX (IW (fn := Tryz.f7) [rF] _ rfl (fun _ => rfl) (fun k => by kernel_rfl) (AD (I8 (ct x0.f0 h0) h1) <| AN))
noncomputable def dG (ts : List GTask) : List GTask → Nat → Bool
 | [], _ => true
 | t :: r, i => gE ts (i : Int) t && dG ts r (i + 1)
noncomputable def eg (d : GDag) : Bool :=
 cY d.f0 && (gm d.f1 && (aD d.f3 0 68374079 && (aD d.f2 0 d.f3 && (aD (d.f5.length : Int) 1 4 && (dG d.f5 d.f5 0 && ((jv d.f5).length : Int) == (d.f5.length : Int))))))
theorem uV (ts : List GTask) : ∀ (rest : List GTask) (i : Nat), ts.drop i = rest → dG ts rest i = true → ∀ (k : Nat) (t : GTask), i ≤ k → ts[k]? = some t → gE ts (k : Int) t = true
 | [], i, h, _, k, t, hk, hg => by
  have : ts.length ≤ i := List.drop_eq_nil_iff.1 h
  rw [List.getElem?_eq_none (by omega)] at hg; cases hg
 | x :: rest, i, h, hr, k, t, hk, hg => by
  unfold dG at hr
  rw [Bool.and_eq_true] at hr
  by_cases e : k = i
  ·subst e
   have : ts[k]? = some x := by rw [← List.head?_drop, h]; rfl
   rw [this] at hg
   cases hg
   exact hr.1
  ·exact uV ts rest (i + 1) (aK h) hr.2 k t (by omega) hg
theorem uq {ts : List GTask} (h4 : ts.length ≤ 4) (h : dG ts ts 0 = true) : ez ts := by
 refine ⟨h4, fun i t hg => ?_⟩
 have := uV ts ts 0 rfl h i t (Nat.zero_le _) hg
 unfold gE at this
 simp only [Bool.and_eq_true, beq_iff_eq] at this
 exact this.2.1
theorem EC (ts : List GTask) (hs : aq.sm ts) : ∀ (rest : List GTask) (i : Nat) (z : Bool), ts.drop i = rest → gy ts rest i z = some (cond (dG ts rest i) .x0 (.ret false))
 | [], i, z, _ => rfl
 | x :: rest, i, z, h => by
  have hi := mJ h
  have hg := bq h
  have e : gk ts (i : Int) = gE ts (i : Int) x := by unfold gk; rw [hg]
  unfold gy dG
  rw [EC ts hs rest (i + 1) z (aK h), if_pos hs, if_pos (by omega), e]
  cases gE ts (i : Int) x <;> rfl
theorem HL (d : GDag) (h : aq.sm d) : nv d = some (eg d) := by
 have hs : aq.sm d.f5 := h.2.2
 have hn : d.f0.size ≤ 2000000 := by have : d.f0.size ≤ 1050000 := h.1; omega
 unfold nv eg gm
 simp only [hn, AZ, if_true]
 cases (ai d.f1).2 with
 | false => cases cY d.f0 <;> rfl
 | true =>
  rw [cond_true]
  cases cY d.f0 with
  | false => rfl
  | true =>
   rw [cond_true, Bool.true_and, Bool.true_and]
   cases (aT (ai d.f1).1).1.toList == d.f1.toList with
   | false => rfl
   | true =>
    rw [Bool.not_true, cond_false, Bool.true_and]
    cases aD d.f3 0 68374079 with
    | false => rfl
    | true =>
     rw [cond_true, Bool.true_and]
     cases aD d.f2 0 d.f3 with
     | false => rfl
     | true =>
      rw [cond_true, Bool.true_and]
      cases q : aD (d.f5.length : Int) 1 4 with
      | false => rfl
      | true =>
       have h4 : d.f5.length ≤ 4 := by unfold aD at q; simp at q; omega
       rw [cond_true, Bool.true_and, if_pos (by omega), EC d.f5 hs d.f5 0 d.f4 rfl]
       cases w : dG d.f5 d.f5 0 with
       | false => rfl
       | true =>
        rw [cond_true, Option.bind_some, Bool.true_and]
        simp only
        rw [if_pos hs, if_pos (uq h4 w)]
theorem EB (a b : ByteArray) (c e : Int) (ts : List GTask) (ht : ts.length ≤ 1050000) : ∀ (l : List ByteArray) (i : Nat) (z : Bool), gp a b c e ts l i z = some (cond (l.all fun n => decide (0 ≤ ap ts n)) .x2 (.ret false))
 | [], i, z => rfl
 | n :: l, i, z => by
  unfold gp
  rw [if_pos (show (GDag.mk a b c e z ts).f5.length ≤ 1050000 from ht), EB a b c e ts ht l (i + 1) z, List.all_cons]
  show cond (decide (ap ts n < 0)) _ _ = _
  by_cases w : ap ts n < 0
  ·rw [decide_eq_true w, decide_eq_false (by omega : ¬ 0 ≤ ap ts n)]; rfl
  ·rw [decide_eq_false w, decide_eq_true (by omega : 0 ≤ ap ts n)]; rfl
theorem EA (a b : ByteArray) (c e : Int) (ts : List GTask) (hs : aq.sm ts) (h4 : ts.length ≤ 4) : ∀ (l : List GTask) (i : Nat) (z : Bool), (∀ y ∈ l, aq.sm y) → gn a b c e ts l i z = some (cond (dG ts l i) .x0 (.ret false))
 | [], i, z, _ => rfl
 | t :: l, i, z, hl => by
  have ht := hl t (by simp)
  have hf : t.f4.length ≤ 1050000 := ht.2.2.1
  unfold gn dG
  rw [if_pos ht, if_pos (show (GDag.mk a b c e z ts).f5.length ≤ 1050000 from hs.1), if_pos (by omega), EB a b c e ts hs.1, EA a b c e ts hs h4 l (i + 1) z (fun y hy => hl y (by simp [hy])), Eo ts h4]
  have e1 : (bm (GDag.mk a b c e z ts) t.f0 != (i : Int)) = !(ap ts t.f0 == (i : Int)) := rfl
  rw [e1]
  cases iK t <;> cases ap ts t.f0 == (i : Int) <;> cases (t.f4.all fun n => decide (0 ≤ ap ts n)) <;> cases dG ts l (i + 1) <;> rfl
theorem HJ (d : GDag) (h : aq.sm d) : ni d = some (eg d) := by
 have hs : aq.sm d.f5 := h.2.2
 have hn : d.f0.size ≤ 2000000 := by have : d.f0.size ≤ 1050000 := h.1; omega
 unfold ni eg
 rw [if_pos hn]
 cases cY d.f0 with
 | false => rfl
 | true =>
  rw [cond_true, Bool.true_and]
  cases gm d.f1 with
  | false => rfl
  | true =>
   rw [cond_true, Bool.true_and]
   by_cases w0 : d.f2 < 0
   ·have : aD d.f2 0 d.f3 = false := by unfold aD; rw [decide_eq_false (by omega)]; rfl
    rw [decide_eq_true w0, this, Bool.false_and, Bool.and_false]; rfl
   ·rw [decide_eq_false w0, cond_false]
    by_cases w1 : d.f2 > d.f3
    ·have : aD d.f2 0 d.f3 = false := by unfold aD; rw [decide_eq_false (by omega : ¬ d.f2 ≤ d.f3), Bool.and_false]
     rw [decide_eq_true w1, this, Bool.false_and, Bool.and_false]; rfl
    ·rw [decide_eq_false w1, cond_false]
     have e1 : aD d.f2 0 d.f3 = true := by unfold aD; rw [decide_eq_true (by omega), decide_eq_true (by omega)]; rfl
     by_cases w2 : d.f3 > 68374079
     ·have : aD d.f3 0 68374079 = false := by unfold aD; rw [decide_eq_false (by omega : ¬ d.f3 ≤ 68374079), Bool.and_false]
      rw [decide_eq_true w2, this, Bool.false_and]; rfl
     ·have e2 : aD d.f3 0 68374079 = true := by unfold aD; rw [decide_eq_true (by omega), decide_eq_true (by omega)]; rfl
      rw [decide_eq_false w2, cond_false, e1, e2, Bool.true_and, Bool.true_and]
      cases q : aD (d.f5.length : Int) 1 4 with
      | false => rfl
      | true =>
       have h4 : d.f5.length ≤ 4 := by unfold aD at q; simp at q; omega
       rw [cond_true, Bool.true_and, if_pos (by omega), EA d.f0 d.f1 d.f2 d.f3 d.f5 hs h4 d.f5 0 d.f4 hs.2]
       cases w : dG d.f5 d.f5 0 with
       | false => rfl
       | true =>
        rw [cond_true, Option.bind_some, Bool.true_and]
        simp only
        rw [if_pos h, if_pos (uq h4 w)]
        rfl
theorem qc {q0 : Kd} (x0 : GDag) (h : aq.sm x0) : Does E 5 [.agg (GDag.t .far q0 x0)] [(false, [tB (eg x0)])] := by
 exact Fu x0 _ (HL x0 h)
theorem qa {q0 : Kd} (x0 : GDag) (h : aq.sm x0) : Does E 7 [.agg (GDag.t .far q0 x0)] [(false, [tB (eg x0)])] := by
 exact EY x0 _ (HJ x0 h)
end Go.Proofs.YtfbhcpmlihdmcaaGreatDoor.Am
