/- 'laws.FnExactDownsOf' returns true for every plan and place, and leaves the plan as it was. Conditions: none. -/
import Derived.Test.YtjfbofdmjihglaaGreatDoorUps
import Derived.Test.YtjfbofdmjihglaaGreatDoorMarks
import Derived.Test.YtjfbofdmjihglaaGreatDoorRows
import Derived.Test.YtjfbofdmjihglaaGreatDoorCards
import Derived.Test.YtjfbofdmjihglaaGreatDoorTie
import Derived.WalkKit
import Derived.ProofKit
import Derived.OpenShut
import Derived.ShutString
import Derived.ChangeOld
import Derived.Below
import Derived.SizedLaws
import Derived.Lay
import Derived.LaidMore
import Derived.SevenTiedAt
import Derived.Stop.Joined
import Derived.Stop.LaidErr
import Derived.Lib.LaidTab
import Derived.Shelf.Vars
import Derived.HandedShaped
namespace Go.Proofs.YtjfbofdmjihglaaGreatDoor.Am
open Go Go.Proofs Classical
set_option maxRecDepth 100000
set_option linter.unusedVariables false
set_option linter.unusedSimpArgs false
inductive xp where
 | x2 (v5 : List Int)
def ky (q0 : Kd) (v1 : Int) (v2_0 v2_1 : ByteArray) (v2_2 v2_3 : Int) (v2_4 : Bool) (v2_5 : List GTask) (v5 : List Int) (v7 : Int) (v11 : List Int) (v12 v13 : Int) (v19 : List Int) (v20 v21 : Int) : US := stL 42 [(1, .one (tI v1)), (2, .box () [tS v2_0, tS v2_1, tI v2_2, tI v2_3, tB v2_4, .s .far () 5 (v2_5.map (GTask.t q0))]), (5, .one (.s .own () 1 (v5.map etI))), (7, .one (tI v7)), (11, .one (.s .own () 1 (v11.map etI))), (12, .one (tI v12)), (13, .one (tI v13)), (19, .one (.s .own () 1 (v19.map etI))), (20, .one (tI v20)), (21, .one (tI v21))]
def jT (q0 : Kd) (v1 : Int) (v2_0 v2_1 : ByteArray) (v2_2 v2_3 : Int) (v2_4 : Bool) (v2_5 : List GTask) (v11 : List Int) (v12 v13 : Int) (zv5 : List Int) : US := stL 42 [(1, .one (tI v1)), (2, .box () [tS v2_0, tS v2_1, tI v2_2, tI v2_3, tB v2_4, .s .far () 5 (v2_5.map (GTask.t q0))]), (5, .one (.s .own () 1 (zv5.map etI))), (11, .one (.s .own () 1 (v11.map etI))), (12, .one (tI v12)), (13, .one (tI v13))]
abbrev oW : US → Exit → US → Prop := Round E 41 (ax Tryz.f41 1)
def FP {q0 : Kd} (v1 : Int) (v2_0 v2_1 : ByteArray) (v2_2 v2_3 : Int) (v2_4 : Bool) (v2_5 : List GTask) (v5 : List Int) (v7 : Int) (v11 : List Int) (v12 v13 : Int) (v19 : List Int) (v20 v21 : Int) : xp → Prop
 | .x2 zv5 => Loops E 41 (ax Tryz.f41 1) (ky q0 v1 v2_0 v2_1 v2_2 v2_3 v2_4 v2_5 v5 v7 v11 v12 v13 v19 v20 v21) (.exit 2) (jT q0 v1 v2_0 v2_1 v2_2 v2_3 v2_4 v2_5 v11 v12 v13 zv5)
noncomputable def iR (v1 : Int) (v5 : List Int) (v7 : Int) : List Int → Nat → Bool → Option xp
 | [], i, v2_4 => some (.x2 v5)
 | hd :: rest, i, v2_4 => cond (hd == v1)
  (if (v5.length + ([v7]).length) * 8 ≤ 140737488355328 ∧ v5.length + ([v7]).length ≤ 4611686018427387904 then some (.x2 (v5 ++ ([v7]))) else none)
  (if v5.length ≤ 1050000 then cond (bQ v5 hd)
   (if (v5.length + ([v7]).length) * 8 ≤ 140737488355328 ∧ v5.length + ([v7]).length ≤ 4611686018427387904 then some (.x2 (v5 ++ ([v7]))) else none)
   (iR v1 v5 v7 rest (i + 1) v2_4) else none)
theorem FN {q0 : Kd} (v1 : Int) (v2_0 v2_1 : ByteArray) (v2_2 v2_3 : Int) (v2_5 : List GTask) (v5 : List Int) (v7 : Int) (v11 : List Int) (v12 v13 : Int) (v19 : List Int) (rest : List Int) : ∀ (i : Nat) (v2_4 : Bool), (v19).drop i = rest → v19.length ≤ 9223372036854775807 → Ans (iR v1 v5 v7 rest i v2_4) (FP (q0 := q0) v1 v2_0 v2_1 v2_2 v2_3 v2_4 v2_5 v5 v7 v11 v12 v13 v19 (v19.length : Int) (i : Int)) := by
 induction rest with
 | nil =>
  intro i v2_4 hE hl
  have hb := bh hE
  unfold iR
  exact K5 (K7 (show oW (ky q0 v1 v2_0 v2_1 v2_2 v2_3 v2_4 v2_5 v5 v7 v11 v12 v13 v19 (v19.length : Int) (i : Int)) (.exit 2) (jT q0 v1 v2_0 v2_1 v2_2 v2_3 v2_4 v2_5 v11 v12 v13 v5) from K3 [.b false] _ (fun k => by kernel_rfl) (AC hb <| AN)) (by intro h; cases h))
 | cons hd rest ih =>
  intro i v2_4 hE hl
  have hb := aS hE
  have hw := aT hE hl
  have hE2 := aG hE
  have hg := aX hE
  unfold iR
  refine K8 (fun h2 => ?_) (fun h2 => ?_)
  ·refine La (fun h3 => ?_)
   exact K5 (K7 (show oW (ky q0 v1 v2_0 v2_1 v2_2 v2_3 v2_4 v2_5 v5 v7 v11 v12 v13 v19 (v19.length : Int) (i : Int)) (.exit 2) (jT q0 v1 v2_0 v2_1 v2_2 v2_3 v2_4 v2_5 v11 v12 v13 (v5 ++ ([v7]))) from K3 [.b true, .row (etI hd), .b true, .rows ((v5 ++ ([v7])).map etI)] _ (fun k => by kernel_rfl) (AC hb <| AG etI hg <| AC h2 <| AAp etI (fun _ => rfl) h3 <| AN)) (by intro h; cases h))
  ·refine La (fun h3 => ?_)
   refine K8 (fun h4 => ?_) (fun h4 => ?_)
   ·refine La (fun h5 => ?_)
    exact K5 (K7 (show oW (ky q0 v1 v2_0 v2_1 v2_2 v2_3 v2_4 v2_5 v5 v7 v11 v12 v13 v19 (v19.length : Int) (i : Int)) (.exit 2) (jT q0 v1 v2_0 v2_1 v2_2 v2_3 v2_4 v2_5 v11 v12 v13 (v5 ++ ([v7]))) from K3 [.b true, .row (etI hd), .b false, rT, .rows ((v5 ++ ([v7])).map etI)] _ (fun k => by kernel_rfl) (AC hb <| AG etI hg <| AC h2 <| AV (ψ := fun k => E.C k 51 [.one (.s .far () 1 (((v5.map etI).drop 0).take (v5.map etI).length)), .one (tI hd)] = some [(false, [tB true])]) (Lc (by simp only [List.take_length, List.drop_zero]) (Lb (cX v5 hd h3) (by rw [h4]))) <| AAp etI (fun _ => rfl) h5 <| AN)) (by intro h; cases h))
   ·exact (ih (i + 1) v2_4 hE2 hl).mono fun y hy => by have r : oW (ky q0 v1 v2_0 v2_1 v2_2 v2_3 v2_4 v2_5 v5 v7 v11 v12 v13 v19 (v19.length : Int) (i : Int)) .normal (ky q0 v1 v2_0 v2_1 v2_2 v2_3 v2_4 v2_5 v5 v7 v11 v12 v13 v19 (v19.length : Int) (inc (i : Int))) := K3 [.b true, .row (etI hd), .b false, rF] _ (fun k => by kernel_rfl) (AC hb <| AG etI hg <| AC h2 <| AV (ψ := fun k => E.C k 51 [.one (.s .far () 1 (((v5.map etI).drop 0).take (v5.map etI).length)), .one (tI hd)] = some [(false, [tB false])]) (Lc (by simp only [List.take_length, List.drop_zero]) (Lb (cX v5 hd h3) (by rw [h4]))) <| AN); rw [hw] at r; cases y <;> exact K6 r hy
inductive xn where
 | x0 (v5 : List Int)
def oX (q0 : Kd) (v1 : Int) (v2_0 v2_1 : ByteArray) (v2_2 v2_3 : Int) (v2_4 : Bool) (v2_5 : List GTask) (v5 v11 : List Int) (v12 v13 : Int) : US := stL 42 [(1, .one (tI v1)), (2, .box () [tS v2_0, tS v2_1, tI v2_2, tI v2_3, tB v2_4, .s .far () 5 (v2_5.map (GTask.t q0))]), (5, .one (.s .own () 1 (v5.map etI))), (11, .one (.s .own () 1 (v11.map etI))), (12, .one (tI v12)), (13, .one (tI v13))]
def pG (q0 : Kd) (zv5 : List Int) : US := stL 42 [(5, .one (.s .own () 1 (zv5.map etI)))]
abbrev xm : US → Exit → US → Prop := Round E 41 (ax Tryz.f41 0)
def FO {q0 : Kd} (v1 : Int) (v2_0 v2_1 : ByteArray) (v2_2 v2_3 : Int) (v2_4 : Bool) (v2_5 : List GTask) (v5 v11 : List Int) (v12 v13 : Int) : xn → Prop
 | .x0 zv5 => Loops E 41 (ax Tryz.f41 0) (oX q0 v1 v2_0 v2_1 v2_2 v2_3 v2_4 v2_5 v5 v11 v12 v13) (.exit 0) (pG q0 zv5)
noncomputable def gK (v1 : Int) (v2_0 v2_1 : ByteArray) (v2_2 v2_3 : Int) (v2_5 : List GTask) : List Int → Nat → Bool → (List Int) → Option xn
 | [], i, v2_4, v5 => some (.x0 v5)
 | hd :: rest, i, v2_4, v5 => if ao.sm (GDag.mk v2_0 v2_1 v2_2 v2_3 v2_4 v2_5) then if bA (GDag.mk v2_0 v2_1 v2_2 v2_3 v2_4 v2_5) = true then if 0 ≤ hd ∧ hd < ((GDag.mk v2_0 v2_1 v2_2 v2_3 v2_4 v2_5).f5.length : Int) then if (ups (GDag.mk v2_0 v2_1 v2_2 v2_3 v2_4 v2_5) hd).length ≤ 9223372036854775807 then (iR v1 v5 hd (ups (GDag.mk v2_0 v2_1 v2_2 v2_3 v2_4 v2_5) hd) 0 v2_4).bind fun y => match y with
  | .x2 w0_5 => (gK v1 v2_0 v2_1 v2_2 v2_3 v2_5 rest (i + 1) v2_4 w0_5) else none else none else none else none
theorem FM {q0 : Kd} (v1 : Int) (v2_0 v2_1 : ByteArray) (v2_2 v2_3 : Int) (v2_5 : List GTask) (v11 : List Int) (rest : List Int) : ∀ (i : Nat) (v2_4 : Bool) (v5 : List Int), (v11).drop i = rest → v11.length ≤ 9223372036854775807 → Ans (gK v1 v2_0 v2_1 v2_2 v2_3 v2_5 rest i v2_4 v5) (FO (q0 := q0) v1 v2_0 v2_1 v2_2 v2_3 v2_4 v2_5 v5 v11 (v11.length : Int) (i : Int)) := by
 induction rest with
 | nil =>
  intro i v2_4 v5 hE hl
  have hb := bh hE
  unfold gK
  exact K5 (K7 (show xm (oX q0 v1 v2_0 v2_1 v2_2 v2_3 v2_4 v2_5 v5 v11 (v11.length : Int) (i : Int)) (.exit 0) (pG q0 v5) from K3 [.b false] _ (fun k => by kernel_rfl) (AC hb <| AN)) (by intro h; cases h))
 | cons hd rest ih =>
  intro i v2_4 v5 hE hl
  have hb := aS hE
  have hw := aT hE hl
  have hE2 := aG hE
  have hg := aX hE
  unfold gK
  refine La (fun h2 => ?_)
  refine La (fun h3 => ?_)
  refine La (fun h4 => ?_)
  refine La (fun hl2 => ?_)
  refine K9 (fun y hy => ?_)
  replace hy := FN (q0 := q0) v1 v2_0 v2_1 v2_2 v2_3 v2_5 v5 hd v11 (v11.length : Int) (i : Int) (ups (GDag.mk v2_0 v2_1 v2_2 v2_3 v2_4 v2_5) hd) (ups (GDag.mk v2_0 v2_1 v2_2 v2_3 v2_4 v2_5) hd) 0 v2_4 rfl hl2 y hy
  cases y with
  | x2 w0_5 =>
   have h5 := hy
   exact (ih (i + 1) v2_4 w0_5 hE2 hl).mono fun y hy => by have r : xm (oX q0 v1 v2_0 v2_1 v2_2 v2_3 v2_4 v2_5 v5 v11 (v11.length : Int) (i : Int)) .normal (oX q0 v1 v2_0 v2_1 v2_2 v2_3 v2_4 v2_5 w0_5 v11 (v11.length : Int) (inc (i : Int))) := K3 [.b true, .row (etI hd), .ret [(false, [.s .own () 1 ((ups (GDag.mk v2_0 v2_1 v2_2 v2_3 v2_4 v2_5) hd).map etI)])], .val (.int .i64 ((ups (GDag.mk v2_0 v2_1 v2_2 v2_3 v2_4 v2_5) hd).length : Int)), .lp (.exit 2) (jT q0 v1 v2_0 v2_1 v2_2 v2_3 v2_4 v2_5 v11 (v11.length : Int) (i : Int) w0_5)] _ (fun k => by kernel_rfl) (AC hb <| AG etI hg <| AV (ψ := fun k => E.C k 30 [.agg (GDag.t .far q0 (GDag.mk v2_0 v2_1 v2_2 v2_3 v2_4 v2_5)), .one (tI hd)] = some [(false, [.s .own () 1 ((ups (GDag.mk v2_0 v2_1 v2_2 v2_3 v2_4 v2_5) hd).map etI)])]) (Ew (GDag.mk v2_0 v2_1 v2_2 v2_3 v2_4 v2_5) hd h2 h3 h4) <| ALn (ups (GDag.mk v2_0 v2_1 v2_2 v2_3 v2_4 v2_5) hd) etI <| AL h5 <| AN); rw [hw] at r; cases y <;> exact K6 r hy
noncomputable def l5 (x0 : GDag) (x1 : Int) : Option ((List Int)) :=
  if ao.sm x0 then if co x0.f5 then if (dk x0).length ≤ 9223372036854775807 then (gK x1 x0.f0 x0.f1 x0.f2 x0.f3 x0.f5 (dk x0) 0 x0.f4 ([])).bind fun y => match y with
   | .x0 w0_5 => (if w0_5.length < 4611686018427387904 then some (cq w0_5) else none) else none else none else none
theorem GY {q0 : Kd} (x0 : GDag) (x1 : Int) : Ans (l5 x0 x1) (fun r => Does E 41 [.agg (GDag.t .far q0 x0), .one (tI x1)] [(false, [.s .own () 1 (r.map etI)])]) := by
 unfold l5
 refine La (fun h0 => ?_)
 refine La (fun h1 => ?_)
 refine La (fun hl1 => ?_)
 refine K9 (fun y hy => ?_)
 replace hy := FM (q0 := q0) x1 x0.f0 x0.f1 x0.f2 x0.f3 x0.f5 (dk x0) (dk x0) 0 x0.f4 ([]) rfl hl1 y hy
 cases y with
 | x0 w0_5 =>
  have h2 := hy
  refine La (fun h3 => ?_)
  exact K5 (K4 (fn := Tryz.f41) [.ret [(false, [.s .own () 1 ((dk x0).map etI)])], .val (.int .i64 ((dk x0).length : Int)), .lp (.exit 0) (pG q0 w0_5), .ret [(false, [.s .own () 1 ((cq w0_5).map etI)])]] _ rfl (fun _ => rfl) (fun k => by kernel_rfl) (AV (ψ := fun k => E.C k 29 [.agg (GDag.t .far q0 x0)] = some [(false, [.s .own () 1 ((dk x0).map etI)])]) (qC x0 h0 h1) <| ALn (dk x0) etI <| AL h2 <| AC (p := (w0_5.map etI).length = (w0_5.map etI).length) rfl <| AV (ψ := fun k => E.C k 53 [.one (.s .own () 1 (w0_5.map etI))] = some [(false, [.s .own () 1 ((cq w0_5).map etI)])]) (kT w0_5 h3) <| AN))
inductive uR where
 | x4 (v5 : List Int)
def c8 (q0 : Kd) (v5 : List Int) (v7 : List Bool) (v11 : Int) : US := stL 96 [(5, .one (.s .own () 1 (v5.map etI))), (7, .one (.s .own () 1 (v7.map etB))), (11, .one (tI v11))]
def kK (q0 : Kd) (zv5 : List Int) : US := stL 96 [(5, .one (.s .own () 1 (zv5.map etI)))]
abbrev iv : US → Exit → US → Prop := Round E 23 (ax Tryz.f23 2)
def CG {q0 : Kd} (v5 : List Int) (v7 : List Bool) (v11 : Int) : uR → Prop
 | .x4 zv5 => Loops E 23 (ax Tryz.f23 2) (c8 q0 v5 v7 v11) (.exit 4) (kK q0 zv5)
theorem yR {q0 : Kd} (v5 : List Int) (v7 : List Bool) (v11 : Int) (g0 : Bool) (h0 : (decide (v11 < (v7.length : Int))) = true) (h1 : aI v7 v11 = some g0) (h2 : g0 = true) (h3 : (v5.length + ([v11]).length) * 8 ≤ 140737488355328 ∧ v5.length + ([v11]).length ≤ 4611686018427387904) : iv (c8 q0 v5 v7 v11) .normal (c8 q0 (v5 ++ ([v11])) v7 (inc v11)) :=
 K3 [.val (.int .i64 (v7.length : Int)), .b true, .row ([tB true]), .rows ((v5 ++ ([v11])).map etI)] _ (fun k => by kernel_rfl) (ALn v7 etB <| AC h0 <| AC (p := 0 ≤ v11 ∧ v11 < ((v7.map etB).length : Int)) (jA h1) <| AC (p := (v7.map etB)[0 + v11.toNat]? = some ([tB true])) ((eH h1).trans (congrArg some (show [tB g0] = [tB true] by rw [h2]))) <| AAp etI (fun _ => rfl) h3 <| AN)
theorem yS {q0 : Kd} (v5 : List Int) (v7 : List Bool) (v11 : Int) (g0 : Bool) (h0 : (decide (v11 < (v7.length : Int))) = true) (h1 : aI v7 v11 = some g0) (h2 : g0 = false) : iv (c8 q0 v5 v7 v11) .normal (c8 q0 v5 v7 (inc v11)) :=
 K3 [.val (.int .i64 (v7.length : Int)), .b true, .row ([tB false])] _ (fun k => by kernel_rfl) (ALn v7 etB <| AC h0 <| AC (p := 0 ≤ v11 ∧ v11 < ((v7.map etB).length : Int)) (jA h1) <| AC (p := (v7.map etB)[0 + v11.toNat]? = some ([tB false])) ((eH h1).trans (congrArg some (show [tB g0] = [tB false] by rw [h2]))) <| AN)
theorem yT {q0 : Kd} (v5 : List Int) (v7 : List Bool) (v11 : Int) (h0 : (decide (v11 < (v7.length : Int))) = false) : iv (c8 q0 v5 v7 v11) (.exit 4) (kK q0 v5) :=
 K3 [.val (.int .i64 (v7.length : Int)), .b false] _ (fun k => by kernel_rfl) (ALn v7 etB <| AC h0 <| AN)
noncomputable def ff  : List Bool → Nat → (List Int) → Option uR
 | [], i, v5 => some (.x4 v5)
 | hd :: rest, i, v5 => cond (hd)
  (if (v5.length + ([(i : Int)]).length) * 8 ≤ 140737488355328 ∧ v5.length + ([(i : Int)]).length ≤ 4611686018427387904 then ff rest (i + 1) (v5 ++ ([(i : Int)])) else none)
  (ff rest (i + 1) v5)
theorem CE {q0 : Kd} (v7 : List Bool) (rest : List Bool) : ∀ (i : Nat) (v5 : List Int), (v7).drop i = rest → v7.length ≤ 9223372036854775807 → Ans (ff rest i v5) (CG (q0 := q0) v5 v7 (i : Int)) := by
 induction rest with
 | nil =>
  intro i v5 hE hl
  have hb := bh hE
  unfold ff
  exact K5 (K7 (show iv (c8 q0 v5 v7 (i : Int)) (.exit 4) (kK q0 v5) from yT (q0 := q0) v5 v7 (i : Int) hb) (by intro h; cases h))
 | cons hd rest ih =>
  intro i v5 hE hl
  have hb := aS hE
  have hw := aT hE hl
  have hE2 := aG hE
  have hg := aX hE
  unfold ff
  refine K8 (fun h2 => ?_) (fun h2 => ?_)
  ·refine La (fun h3 => ?_)
   exact (ih (i + 1) (v5 ++ ([(i : Int)])) hE2 hl).mono fun y hy => by have r : iv (c8 q0 v5 v7 (i : Int)) .normal (c8 q0 (v5 ++ ([(i : Int)])) v7 (inc (i : Int))) := yR (q0 := q0) v5 v7 (i : Int) hd hb hg h2 h3; rw [hw] at r; cases y <;> exact K6 r hy
  ·exact (ih (i + 1) v5 hE2 hl).mono fun y hy => by have r : iv (c8 q0 v5 v7 (i : Int)) .normal (c8 q0 v5 v7 (inc (i : Int))) := yS (q0 := q0) v5 v7 (i : Int) hd hb hg h2; rw [hw] at r; cases y <;> exact K6 r hy
inductive uQ where
 | x2 (v7 : List Bool)
def bT (q0 : Kd) (v1 : Int) (v2_0 v2_1 : ByteArray) (v2_2 v2_3 : Int) (v2_4 : Bool) (v2_5 : List GTask) (v5 v6 : List Int) (v7 : List Bool) (v8 : Int) (v9 : List Int) (v10 : Int) : US := stL 96 [(1, .one (tI v1)), (2, .box () [tS v2_0, tS v2_1, tI v2_2, tI v2_3, tB v2_4, .s .far () 5 (v2_5.map (GTask.t q0))]), (5, .one (.s .own () 1 (v5.map etI))), (6, .one (.s .own () 1 (v6.map etI))), (7, .one (.s .own () 1 (v7.map etB))), (8, .one (tI v8)), (9, .one (.s .own () 1 (v9.map etI))), (10, .one (tI v10))]
def kJ (q0 : Kd) (v1 : Int) (v2_0 v2_1 : ByteArray) (v2_2 v2_3 : Int) (v2_4 : Bool) (v2_5 : List GTask) (v5 v6 : List Int) (v8 : Int) (zv7 : List Bool) : US := stL 96 [(1, .one (tI v1)), (2, .box () [tS v2_0, tS v2_1, tI v2_2, tI v2_3, tB v2_4, .s .far () 5 (v2_5.map (GTask.t q0))]), (5, .one (.s .own () 1 (v5.map etI))), (6, .one (.s .own () 1 (v6.map etI))), (7, .one (.s .own () 1 (zv7.map etB))), (8, .one (tI v8))]
abbrev fd : US → Exit → US → Prop := Round E 23 (ax Tryz.f23 1)
def uO {q0 : Kd} (v1 : Int) (v2_0 v2_1 : ByteArray) (v2_2 v2_3 : Int) (v2_4 : Bool) (v2_5 : List GTask) (v5 v6 : List Int) (v7 : List Bool) (v8 : Int) (v9 : List Int) (v10 : Int) : uQ → Prop
 | .x2 zv7 => Loops E 23 (ax Tryz.f23 1) (bT q0 v1 v2_0 v2_1 v2_2 v2_3 v2_4 v2_5 v5 v6 v7 v8 v9 v10) (.exit 2) (kJ q0 v1 v2_0 v2_1 v2_2 v2_3 v2_4 v2_5 v5 v6 v8 zv7)
theorem yN {q0 : Kd} (v1 : Int) (v2_0 v2_1 : ByteArray) (v2_2 v2_3 : Int) (v2_4 : Bool) (v2_5 : List GTask) (v5 v6 : List Int) (v7 : List Bool) (v8 : Int) (v9 : List Int) (v10 g0 : Int) (g1 : Bool) (h0 : (decide (v10 < (v9.length : Int))) = true) (h1 : aI v6 v8 = some g0) (h2 : aI v7 g0 = some g1) (h3 : g1 = true) : fd (bT q0 v1 v2_0 v2_1 v2_2 v2_3 v2_4 v2_5 v5 v6 v7 v8 v9 v10) .normal (bT q0 v1 v2_0 v2_1 v2_2 v2_3 v2_4 v2_5 v5 v6 (v7.set g0.toNat true) v8 v9 (inc v10)) :=
 K3 [.val (.int .i64 (v9.length : Int)), .b true, .row (etI g0), .row (etI g0), .row ([tB true]), .row (etB g1), .rows ((v7.set g0.toNat true).map etB)] _ (fun k => by kernel_rfl) (ALn v9 etI <| AC h0 <| AG etI h1 <| AG etI h1 <| AC (p := 0 ≤ g0 ∧ g0 < ((v7.map etB).length : Int)) (jA h2) <| AC (p := (v7.map etB)[0 + g0.toNat]? = some ([tB true])) ((eH h2).trans (congrArg some (show [tB g1] = [tB true] by rw [h3]))) <| AG etB h2 <| AC (p := (v7.map etB).set (0 + g0.toNat) (ay (etB g1) 0 [tB true]) = (v7.set g0.toNat true).map etB) (ea (by rfl)) <| AN)
theorem yO {q0 : Kd} (v1 : Int) (v2_0 v2_1 : ByteArray) (v2_2 v2_3 : Int) (v2_4 : Bool) (v2_5 : List GTask) (v5 v6 : List Int) (v7 : List Bool) (v8 : Int) (v9 : List Int) (v10 g0 : Int) (g1 : Bool) (g2 : Int) (h0 : (decide (v10 < (v9.length : Int))) = true) (h1 : aI v6 v8 = some g0) (h2 : aI v7 g0 = some g1) (h3 : g1 = false) (h4 : aI v9 v10 = some g2) (h5 : (g2 == v1) = true) : fd (bT q0 v1 v2_0 v2_1 v2_2 v2_3 v2_4 v2_5 v5 v6 v7 v8 v9 v10) .normal (bT q0 v1 v2_0 v2_1 v2_2 v2_3 v2_4 v2_5 v5 v6 (v7.set g0.toNat true) v8 v9 (inc v10)) :=
 K3 [.val (.int .i64 (v9.length : Int)), .b true, .row (etI g0), .row (etI g0), .row ([tB false]), .row (etI g2), .b true, .row (etB g1), .rows ((v7.set g0.toNat true).map etB)] _ (fun k => by kernel_rfl) (ALn v9 etI <| AC h0 <| AG etI h1 <| AG etI h1 <| AC (p := 0 ≤ g0 ∧ g0 < ((v7.map etB).length : Int)) (jA h2) <| AC (p := (v7.map etB)[0 + g0.toNat]? = some ([tB false])) ((eH h2).trans (congrArg some (show [tB g1] = [tB false] by rw [h3]))) <| AG etI h4 <| AC h5 <| AG etB h2 <| AC (p := (v7.map etB).set (0 + g0.toNat) (ay (etB g1) 0 [tB true]) = (v7.set g0.toNat true).map etB) (ea (by rfl)) <| AN)
theorem yP {q0 : Kd} (v1 : Int) (v2_0 v2_1 : ByteArray) (v2_2 v2_3 : Int) (v2_4 : Bool) (v2_5 : List GTask) (v5 v6 : List Int) (v7 : List Bool) (v8 : Int) (v9 : List Int) (v10 g0 : Int) (g1 : Bool) (g2 : Int) (g3 : Bool) (h0 : (decide (v10 < (v9.length : Int))) = true) (h1 : aI v6 v8 = some g0) (h2 : aI v7 g0 = some g1) (h3 : g1 = false) (h4 : aI v9 v10 = some g2) (h5 : (g2 == v1) = false) (h6 : aI v7 g2 = some g3) : fd (bT q0 v1 v2_0 v2_1 v2_2 v2_3 v2_4 v2_5 v5 v6 v7 v8 v9 v10) .normal (bT q0 v1 v2_0 v2_1 v2_2 v2_3 v2_4 v2_5 v5 v6 (v7.set g0.toNat g3) v8 v9 (inc v10)) :=
 K3 [.val (.int .i64 (v9.length : Int)), .b true, .row (etI g0), .row (etI g0), .row ([tB false]), .row (etI g2), .b false, .row (etI g2), .row (etB g3), .row (etB g1), .rows ((v7.set g0.toNat g3).map etB)] _ (fun k => by kernel_rfl) (ALn v9 etI <| AC h0 <| AG etI h1 <| AG etI h1 <| AC (p := 0 ≤ g0 ∧ g0 < ((v7.map etB).length : Int)) (jA h2) <| AC (p := (v7.map etB)[0 + g0.toNat]? = some ([tB false])) ((eH h2).trans (congrArg some (show [tB g1] = [tB false] by rw [h3]))) <| AG etI h4 <| AC h5 <| AG etI h4 <| AG etB h6 <| AG etB h2 <| AC (p := (v7.map etB).set (0 + g0.toNat) (ay (etB g1) 0 [tB g3]) = (v7.set g0.toNat g3).map etB) (ea (by rfl)) <| AN)
theorem yQ {q0 : Kd} (v1 : Int) (v2_0 v2_1 : ByteArray) (v2_2 v2_3 : Int) (v2_4 : Bool) (v2_5 : List GTask) (v5 v6 : List Int) (v7 : List Bool) (v8 : Int) (v9 : List Int) (v10 : Int) (h0 : (decide (v10 < (v9.length : Int))) = false) : fd (bT q0 v1 v2_0 v2_1 v2_2 v2_3 v2_4 v2_5 v5 v6 v7 v8 v9 v10) (.exit 2) (kJ q0 v1 v2_0 v2_1 v2_2 v2_3 v2_4 v2_5 v5 v6 v8 v7) :=
 K3 [.val (.int .i64 (v9.length : Int)), .b false] _ (fun k => by kernel_rfl) (ALn v9 etI <| AC h0 <| AN)
noncomputable def dM (v1 : Int) (v6 : List Int) (v8 : Int) : List Int → Nat → Bool → (List Bool) → Option uQ
 | [], i, v2_4, v7 => some (.x2 v7)
 | hd :: rest, i, v2_4, v7 => (aI v6 v8).bind fun g0 => (aI v7 g0).bind fun g1 => cond (g1)
  (dM v1 v6 v8 rest (i + 1) v2_4 (v7.set g0.toNat true))
  (cond (hd == v1)
   (dM v1 v6 v8 rest (i + 1) v2_4 (v7.set g0.toNat true))
   ((aI v7 hd).bind fun g3 => dM v1 v6 v8 rest (i + 1) v2_4 (v7.set g0.toNat g3)))
theorem CD {q0 : Kd} (v1 : Int) (v2_0 v2_1 : ByteArray) (v2_2 v2_3 : Int) (v2_5 : List GTask) (v5 v6 : List Int) (v8 : Int) (v9 : List Int) (rest : List Int) : ∀ (i : Nat) (v2_4 : Bool) (v7 : List Bool), (v9).drop i = rest → v9.length ≤ 9223372036854775807 → Ans (dM v1 v6 v8 rest i v2_4 v7) (uO (q0 := q0) v1 v2_0 v2_1 v2_2 v2_3 v2_4 v2_5 v5 v6 v7 v8 v9 (i : Int)) := by
 induction rest with
 | nil =>
  intro i v2_4 v7 hE hl
  have hb := bh hE
  unfold dM
  exact K5 (K7 (show fd (bT q0 v1 v2_0 v2_1 v2_2 v2_3 v2_4 v2_5 v5 v6 v7 v8 v9 (i : Int)) (.exit 2) (kJ q0 v1 v2_0 v2_1 v2_2 v2_3 v2_4 v2_5 v5 v6 v8 v7) from yQ (q0 := q0) v1 v2_0 v2_1 v2_2 v2_3 v2_4 v2_5 v5 v6 v7 v8 v9 (i : Int) hb) (by intro h; cases h))
 | cons hd rest ih =>
  intro i v2_4 v7 hE hl
  have hb := aS hE
  have hw := aT hE hl
  have hE2 := aG hE
  have hg := aX hE
  unfold dM
  refine K9 (fun g0 h1 => ?_)
  refine K9 (fun g1 h2 => ?_)
  refine K8 (fun h3 => ?_) (fun h3 => ?_)
  ·exact (ih (i + 1) v2_4 (v7.set g0.toNat true) hE2 hl).mono fun y hy => by have r : fd (bT q0 v1 v2_0 v2_1 v2_2 v2_3 v2_4 v2_5 v5 v6 v7 v8 v9 (i : Int)) .normal (bT q0 v1 v2_0 v2_1 v2_2 v2_3 v2_4 v2_5 v5 v6 (v7.set g0.toNat true) v8 v9 (inc (i : Int))) := yN (q0 := q0) v1 v2_0 v2_1 v2_2 v2_3 v2_4 v2_5 v5 v6 v7 v8 v9 (i : Int) g0 g1 hb h1 h2 h3; rw [hw] at r; cases y <;> exact K6 r hy
  ·refine K8 (fun h5 => ?_) (fun h5 => ?_)
   ·exact (ih (i + 1) v2_4 (v7.set g0.toNat true) hE2 hl).mono fun y hy => by have r : fd (bT q0 v1 v2_0 v2_1 v2_2 v2_3 v2_4 v2_5 v5 v6 v7 v8 v9 (i : Int)) .normal (bT q0 v1 v2_0 v2_1 v2_2 v2_3 v2_4 v2_5 v5 v6 (v7.set g0.toNat true) v8 v9 (inc (i : Int))) := yO (q0 := q0) v1 v2_0 v2_1 v2_2 v2_3 v2_4 v2_5 v5 v6 v7 v8 v9 (i : Int) g0 g1 hd hb h1 h2 h3 hg h5; rw [hw] at r; cases y <;> exact K6 r hy
   ·refine K9 (fun g3 h6 => ?_)
    exact (ih (i + 1) v2_4 (v7.set g0.toNat g3) hE2 hl).mono fun y hy => by have r : fd (bT q0 v1 v2_0 v2_1 v2_2 v2_3 v2_4 v2_5 v5 v6 v7 v8 v9 (i : Int)) .normal (bT q0 v1 v2_0 v2_1 v2_2 v2_3 v2_4 v2_5 v5 v6 (v7.set g0.toNat g3) v8 v9 (inc (i : Int))) := yP (q0 := q0) v1 v2_0 v2_1 v2_2 v2_3 v2_4 v2_5 v5 v6 v7 v8 v9 (i : Int) g0 g1 hd g3 hb h1 h2 h3 hg h5 h6; rw [hw] at r; cases y <;> exact K6 r hy
inductive uP where
 | x0 (v7 : List Bool)
def gm (q0 : Kd) (v1 : Int) (v2_0 v2_1 : ByteArray) (v2_2 v2_3 : Int) (v2_4 : Bool) (v2_5 : List GTask) (v5 v6 : List Int) (v7 : List Bool) (v8 : Int) : US := stL 96 [(1, .one (tI v1)), (2, .box () [tS v2_0, tS v2_1, tI v2_2, tI v2_3, tB v2_4, .s .far () 5 (v2_5.map (GTask.t q0))]), (5, .one (.s .own () 1 (v5.map etI))), (6, .one (.s .own () 1 (v6.map etI))), (7, .one (.s .own () 1 (v7.map etB))), (8, .one (tI v8))]
def kI (q0 : Kd) (v5 : List Int) (zv7 : List Bool) : US := stL 96 [(5, .one (.s .own () 1 (v5.map etI))), (7, .one (.s .own () 1 (zv7.map etB)))]
abbrev mS : US → Exit → US → Prop := Round E 23 (ax Tryz.f23 0)
def CF {q0 : Kd} (v1 : Int) (v2_0 v2_1 : ByteArray) (v2_2 v2_3 : Int) (v2_4 : Bool) (v2_5 : List GTask) (v5 v6 : List Int) (v7 : List Bool) (v8 : Int) : uP → Prop
 | .x0 zv7 => Loops E 23 (ax Tryz.f23 0) (gm q0 v1 v2_0 v2_1 v2_2 v2_3 v2_4 v2_5 v5 v6 v7 v8) (.exit 0) (kI q0 v5 zv7)
theorem yL {q0 : Kd} (v1 : Int) (v2_0 v2_1 : ByteArray) (v2_2 v2_3 : Int) (v2_4 : Bool) (v2_5 : List GTask) (v5 v6 : List Int) (v7 : List Bool) (v8 g0 : Int) (w0_7 : List Bool) (h0 : (decide (v8 < (v6.length : Int))) = true) (h1 : aI v6 v8 = some g0) (h2 : ao.sm (GDag.mk v2_0 v2_1 v2_2 v2_3 v2_4 v2_5)) (h3 : bA (GDag.mk v2_0 v2_1 v2_2 v2_3 v2_4 v2_5) = true) (h4 : 0 ≤ g0 ∧ g0 < ((GDag.mk v2_0 v2_1 v2_2 v2_3 v2_4 v2_5).f5.length : Int)) (h5 : uO (q0 := q0) v1 v2_0 v2_1 v2_2 v2_3 v2_4 v2_5 v5 v6 v7 v8 (ups (GDag.mk v2_0 v2_1 v2_2 v2_3 v2_4 v2_5) g0) (0 : Int) (.x2 w0_7)) : mS (gm q0 v1 v2_0 v2_1 v2_2 v2_3 v2_4 v2_5 v5 v6 v7 v8) .normal (gm q0 v1 v2_0 v2_1 v2_2 v2_3 v2_4 v2_5 v5 v6 w0_7 (inc v8)) :=
 K3 [.val (.int .i64 (v6.length : Int)), .b true, .row (etI g0), .ret [(false, [.s .own () 1 ((ups (GDag.mk v2_0 v2_1 v2_2 v2_3 v2_4 v2_5) g0).map etI)])], .lp (.exit 2) (kJ q0 v1 v2_0 v2_1 v2_2 v2_3 v2_4 v2_5 v5 v6 v8 w0_7)] _ (fun k => by kernel_rfl) (ALn v6 etI <| AC h0 <| AG etI h1 <| AV (ψ := fun k => E.C k 26 [.agg (GDag.t .far q0 (GDag.mk v2_0 v2_1 v2_2 v2_3 v2_4 v2_5)), .one (tI g0)] = some [(false, [.s .own () 1 ((ups (GDag.mk v2_0 v2_1 v2_2 v2_3 v2_4 v2_5) g0).map etI)])]) (wS (GDag.mk v2_0 v2_1 v2_2 v2_3 v2_4 v2_5) g0 h2 h3 h4) <| AL h5 <| AN)
theorem yM {q0 : Kd} (v1 : Int) (v2_0 v2_1 : ByteArray) (v2_2 v2_3 : Int) (v2_4 : Bool) (v2_5 : List GTask) (v5 v6 : List Int) (v7 : List Bool) (v8 : Int) (h0 : (decide (v8 < (v6.length : Int))) = false) : mS (gm q0 v1 v2_0 v2_1 v2_2 v2_3 v2_4 v2_5 v5 v6 v7 v8) (.exit 0) (kI q0 v5 v7) :=
 K3 [.val (.int .i64 (v6.length : Int)), .b false] _ (fun k => by kernel_rfl) (ALn v6 etI <| AC h0 <| AN)
noncomputable def fe (v1 : Int) (v2_0 v2_1 : ByteArray) (v2_2 v2_3 : Int) (v2_5 : List GTask) (v6 : List Int) : List Int → Nat → Bool → (List Bool) → Option uP
 | [], i, v2_4, v7 => some (.x0 v7)
 | hd :: rest, i, v2_4, v7 => if ao.sm (GDag.mk v2_0 v2_1 v2_2 v2_3 v2_4 v2_5) then if bA (GDag.mk v2_0 v2_1 v2_2 v2_3 v2_4 v2_5) = true then if 0 ≤ hd ∧ hd < ((GDag.mk v2_0 v2_1 v2_2 v2_3 v2_4 v2_5).f5.length : Int) then if (ups (GDag.mk v2_0 v2_1 v2_2 v2_3 v2_4 v2_5) hd).length ≤ 9223372036854775807 then (dM v1 v6 (i : Int) (ups (GDag.mk v2_0 v2_1 v2_2 v2_3 v2_4 v2_5) hd) 0 v2_4 v7).bind fun y => match y with
  | .x2 w0_7 => (fe v1 v2_0 v2_1 v2_2 v2_3 v2_5 v6 rest (i + 1) v2_4 w0_7) else none else none else none else none
theorem CC {q0 : Kd} (v1 : Int) (v2_0 v2_1 : ByteArray) (v2_2 v2_3 : Int) (v2_5 : List GTask) (v5 v6 : List Int) (rest : List Int) : ∀ (i : Nat) (v2_4 : Bool) (v7 : List Bool), (v6).drop i = rest → v6.length ≤ 9223372036854775807 → Ans (fe v1 v2_0 v2_1 v2_2 v2_3 v2_5 v6 rest i v2_4 v7) (CF (q0 := q0) v1 v2_0 v2_1 v2_2 v2_3 v2_4 v2_5 v5 v6 v7 (i : Int)) := by
 induction rest with
 | nil =>
  intro i v2_4 v7 hE hl
  have hb := bh hE
  unfold fe
  exact K5 (K7 (show mS (gm q0 v1 v2_0 v2_1 v2_2 v2_3 v2_4 v2_5 v5 v6 v7 (i : Int)) (.exit 0) (kI q0 v5 v7) from yM (q0 := q0) v1 v2_0 v2_1 v2_2 v2_3 v2_4 v2_5 v5 v6 v7 (i : Int) hb) (by intro h; cases h))
 | cons hd rest ih =>
  intro i v2_4 v7 hE hl
  have hb := aS hE
  have hw := aT hE hl
  have hE2 := aG hE
  have hg := aX hE
  unfold fe
  refine La (fun h2 => ?_)
  refine La (fun h3 => ?_)
  refine La (fun h4 => ?_)
  refine La (fun hl2 => ?_)
  refine K9 (fun y hy => ?_)
  replace hy := CD (q0 := q0) v1 v2_0 v2_1 v2_2 v2_3 v2_5 v5 v6 (i : Int) (ups (GDag.mk v2_0 v2_1 v2_2 v2_3 v2_4 v2_5) hd) (ups (GDag.mk v2_0 v2_1 v2_2 v2_3 v2_4 v2_5) hd) 0 v2_4 v7 rfl hl2 y hy
  cases y with
  | x2 w0_7 =>
   have h5 := hy
   exact (ih (i + 1) v2_4 w0_7 hE2 hl).mono fun y hy => by have r : mS (gm q0 v1 v2_0 v2_1 v2_2 v2_3 v2_4 v2_5 v5 v6 v7 (i : Int)) .normal (gm q0 v1 v2_0 v2_1 v2_2 v2_3 v2_4 v2_5 v5 v6 w0_7 (inc (i : Int))) := yL (q0 := q0) v1 v2_0 v2_1 v2_2 v2_3 v2_4 v2_5 v5 v6 v7 (i : Int) hd w0_7 hb hg h2 h3 h4 h5; rw [hw] at r; cases y <;> exact K6 r hy
noncomputable def hY (x0 : GDag) (x1 : Int) : Option ((List Int)) :=
  if ao.sm x0 then cond (bA x0)
   (cond (aH x1 (0 : Int) (IntKind.wrap .i64 ((x0.f5.length : Int) - (1 : Int))))
    (if ao.sm x0.f5 then if co x0.f5 then if 0 ≤ (x0.f5.length : Int) ∧ (x0.f5.length : Int) ≤ (x0.f5.length : Int) ∧ ((1 : Nat) : Int) * (x0.f5.length : Int) ≤ 281474976710656 ∧ (x0.f5.length : Int) ≤ 4611686018427387904 then if (cy x0.f5).length ≤ 9223372036854775807 then (fe x1 x0.f0 x0.f1 x0.f2 x0.f3 x0.f5 (cy x0.f5) (cy x0.f5) 0 x0.f4 (List.replicate (x0.f5.length : Int).toNat false)).bind fun y => match y with
     | .x0 w0_7 => (if w0_7.length ≤ 9223372036854775807 then (ff w0_7 0 ([])).bind fun y => match y with
      | .x4 w1_5 => (some (w1_5)) else none) else none else none else none else none)
    (some (([] : List Int))))
   (some (([] : List Int))) else none
theorem Ed {q0 : Kd} (x0 : GDag) (x1 : Int) : Ans (hY x0 x1) (fun r => Does E 23 [.agg (GDag.t .far q0 x0), .one (tI x1)] [(false, [.s .own () 1 (r.map etI)])]) := by
 unfold hY
 refine La (fun h0 => ?_)
 refine K8 (fun h1 => ?_) (fun h1 => ?_)
 ·refine K8 (fun h2 => ?_) (fun h2 => ?_)
  ·refine La (fun h3 => ?_)
   refine La (fun h4 => ?_)
   refine La (fun h5 => ?_)
   refine La (fun hl3 => ?_)
   refine K9 (fun y hy => ?_)
   replace hy := CC (q0 := q0) x1 x0.f0 x0.f1 x0.f2 x0.f3 x0.f5 ([]) (cy x0.f5) (cy x0.f5) 0 x0.f4 (List.replicate (x0.f5.length : Int).toNat false) rfl hl3 y hy
   cases y with
   | x0 w0_7 =>
    have h6 := hy
    refine La (fun hl4 => ?_)
    refine K9 (fun y hy => ?_)
    replace hy := CE (q0 := q0) w0_7 w0_7 0 ([]) rfl hl4 y hy
    cases y with
    | x4 w1_5 =>
     have h7 := hy
     exact K5 (K4 (fn := Tryz.f23) [rT, .val (.int .i64 (x0.f5.length : Int)), rT, .ret [(false, [.s .own () 1 ((cy x0.f5).map etI)])], .val (.int .i64 (x0.f5.length : Int)), .rows ((List.replicate (x0.f5.length : Int).toNat false).map etB), .lp (.exit 0) (kI q0 ([]) w0_7), .lp (.exit 4) (kK q0 w1_5)] _ rfl (fun _ => rfl) (fun k => by kernel_rfl) (AV (ψ := fun k => E.C k 32 [.agg (GDag.t .far q0 x0)] = some [(false, [tB true])]) (Lb (eI x0 h0) (by rw [h1])) <| ALn x0.f5 (GTask.t q0) <| AD (Ld (bq x1 (0 : Int) (IntKind.wrap .i64 ((x0.f5.length : Int) - (1 : Int)))) h2) <| AV (ψ := fun k => E.C k 37 [.one (.s .far () 5 (x0.f5.map (GTask.t q0)))] = some [(false, [.s .own () 1 ((cy x0.f5).map etI)])]) (pp x0.f5 h3 h4) <| ALn x0.f5 (GTask.t q0) <| AC h5 <| AC (p := List.replicate (x0.f5.length : Int).toNat [tB false] = (List.replicate (x0.f5.length : Int).toNat false).map etB) (pQ rfl) <| AL h6 <| AL h7 <| AN))
  ·exact K5 (K4 (fn := Tryz.f23) [rT, .val (.int .i64 (x0.f5.length : Int)), rF] _ rfl (fun _ => rfl) (fun k => by kernel_rfl) (AV (ψ := fun k => E.C k 32 [.agg (GDag.t .far q0 x0)] = some [(false, [tB true])]) (Lb (eI x0 h0) (by rw [h1])) <| ALn x0.f5 (GTask.t q0) <| AD (Ld (bq x1 (0 : Int) (IntKind.wrap .i64 ((x0.f5.length : Int) - (1 : Int)))) h2) <| AN))
 ·exact K5 (K4 (fn := Tryz.f23) [rF] _ rfl (fun _ => rfl) (fun k => by kernel_rfl) (AV (ψ := fun k => E.C k 32 [.agg (GDag.t .far q0 x0)] = some [(false, [tB false])]) (Lb (eI x0 h0) (by rw [h1])) <| AN))
theorem EX {v : List Bool} {k : Nat} {b : Bool} (hk : k < v.length) (x : Int) (hx : 0 ≤ x) : aI (v.set k b) x = if x = (k : Int) then some b else aI v x := by
 unfold aI
 rw [if_pos hx, List.getElem?_set]
 by_cases e : x = (k : Int)
 ·rw [if_pos (by omega), if_pos (by omega), if_pos e]
 ·rw [if_neg (by omega), if_neg e, if_pos hx]
def below (i : Int) (out : List Int) (l : List Int) : Bool := l.any fun u => u == i || bQ out u
theorem ED (i : Int) (o : List Int) (p : Int) (k n : Nat) (hp : aI o p = some (k : Int)) (out : List Int) (v : List Bool) (hM : Marks 0 ((n : Int) - 1) v out) (hk : k < n) (hko : (k : Int) ∉ out) : ∀ (l : List Int) (j : Nat) (z b : Bool), (∀ x ∈ l, 0 ≤ x ∧ x < (n : Int)) →
  dM i o p l j z (v.set k b) = some (.x2 (v.set k (b || below i out l)))
 | [], j, z, b, _ => by unfold dM below; simp
 | x :: l, j, z, b, hl => by
  have hx := hl x (by simp)
  have hv := hM.1
  have gk := EX (v := v) (b := b) (by omega : k < v.length) (k : Int) (by omega)
  rw [if_pos rfl] at gk
  have ih := fun b' => ED i o p k n hp out v hM hk hko l (j + 1) z b' fun y hy => hl y (by simp [hy])
  have ss : ∀ b', (v.set k b).set (k : Int).toNat b' = v.set k b' := fun b' => by
   rw [show (k : Int).toNat = k by omega, List.set_set]
  unfold dM
  rw [hp, Option.bind_some, gk, Option.bind_some, ss]
  cases b with
  | true => rw [cond_true, ih]; simp [below]
  | false =>
   rw [cond_false]
   cases q : x == i with
   | true => rw [cond_true, ih]; simp [below, q]
   | false =>
    rw [cond_false, EX (by omega) x hx.1]
    have hb : below i out (x :: l) = (bQ out x || below i out l) := by unfold below; rw [List.any_cons, q, Bool.false_or]
    by_cases e : x = (k : Int)
    ·have : bQ out x = false := by rw [← Bool.not_eq_true, nb, e]; exact hko
     rw [if_pos e, Option.bind_some, ss, ih, hb, this]; rfl
    ·obtain ⟨c, hc, _⟩ := l4 (l := v) (k := x) (by omega)
     have hc2 := (iJ hc).2
     have hm := hM.2.2 x.toNat (by omega)
     rw [show ((x.toNat : Nat) : Int) = x by omega, hc2] at hm
     have : bQ out x = c := by
      cases c with
      | true => exact nb.2 (hm.1 rfl)
      | false => rw [← Bool.not_eq_true, nb]; exact fun w => by have := hm.2 w; cases this
     rw [if_neg e, hc, Option.bind_some, ss, ih, hb, this, Bool.false_or]
theorem EC (i k : Int) (out : List Int) (ho : out.length ≤ 1000) : ∀ (l : List Int) (j : Nat) (z : Bool), iR i out k l j z = some (.x2 (cond (below i out l) (out ++ [k]) out))
 | [], j, z => rfl
 | x :: l, j, z => by
  have ih := EC i k out ho l (j + 1) z
  have hb : below i out (x :: l) = ((x == i || bQ out x) || below i out l) := by unfold below; rw [List.any_cons]
  unfold iR
  rw [hb]
  cases x == i with
  | true => rw [cond_true, if_pos (by simp; omega)]; rfl
  | false =>
   rw [cond_false, if_pos (by omega)]
   cases bQ out x with
   | true => rw [cond_true, if_pos (by simp; omega)]; rfl
   | false => rw [cond_false, ih]; rfl
theorem tP (d : GDag) (h : ao.sm d) (hd : bA d = true) (i : Int) (o : List Int) (ho : o.Nodup) (hr : ∀ x ∈ o, 0 ≤ x ∧ x < (d.f5.length : Int)) (hol : o.length ≤ 4) : ∀ (l : List Int) (j : Nat) (v : List Bool) (out : List Int), o.drop j = l → Marks 0 ((d.f5.length : Int) - 1) v out → out.Nodup → out.length + l.length ≤ 100 → (∀ x ∈ out, x ∈ o.take j) →
  ∃ v' out', fe i d.f0 d.f1 d.f2 d.f3 d.f5 o l j d.f4 v = some (.x0 v') ∧ gK i d.f0 d.f1 d.f2 d.f3 d.f5 l j d.f4 out = some (.x0 out') ∧ Marks 0 ((d.f5.length : Int) - 1) v' out' ∧ out'.Nodup ∧ out'.length ≤ 100
 | [], j, v, out, _, hM, hn, hlen, _ => ⟨v, out, rfl, rfl, hM, hn, by simpa using hlen⟩
 | k :: l, j, v, out, hdr, hM, hn, hlen, hsub => by
  have e : GDag.mk d.f0 d.f1 d.f2 d.f3 d.f4 d.f5 = d := rfl
  have hj : o[j]? = some k := by rw [← List.head?_drop, hdr]; rfl
  have hjl := oc hdr
  have hk := hr k (List.mem_of_getElem? hj)
  obtain ⟨u1, u2⟩ := HN hd hk
  obtain ⟨kn, rfl⟩ : ∃ m : Nat, k = (m : Int) := ⟨k.toNat, by omega⟩
  have hko : (kn : Int) ∉ out := fun w => by
   have hw := hsub _ w
   obtain ⟨a, ha, hae⟩ := List.getElem_of_mem hw
   rw [List.getElem_take] at hae
   simp only [List.length_take] at ha
   rw [List.getElem?_eq_getElem hjl] at hj
   exact List.pairwise_iff_getElem.1 ho a j (by omega) hjl (by omega) (by rw [hae, Option.some.inj hj])
  have hp : aI o (j : Int) = some (kn : Int) := by rw [eR]; exact hj
  have hv := hM.1
  have hkf : v[kn]? = some false := by
   obtain ⟨c, hc, _⟩ := l4 (l := v) (k := (kn : Int)) (by omega)
   have hc2 := (iJ hc).2
   rw [show ((kn : Int)).toNat = kn by omega] at hc2
   cases c with
   | true => exact absurd ((hM.2.2 kn (by omega)).1 hc2) hko
   | false => exact hc2
  have sv : v.set kn false = v := by
   refine List.ext_getElem? fun a => ?_
   rw [List.getElem?_set]
   split
   ·rename_i ee
    subst ee
    rw [if_pos (by omega), hkf]
   ·rfl
  have s1 := ED i o (j : Int) kn d.f5.length hp out v hM (by omega) hko (ups d kn) 0 d.f4 false u1
  rw [sv, Bool.false_or] at s1
  have i1 := EC i kn out (by simp only [List.length_cons] at hlen; omega) (ups d kn) 0 d.f4
  simp only [List.length_cons] at hlen
  have htk : ∀ x, x ∈ o.take j → x ∈ o.take (j + 1) := fun x hx => by
   rw [List.take_add_one, hj]; simp [hx]
  have fin : ∃ v' out', fe i d.f0 d.f1 d.f2 d.f3 d.f5 o l (j + 1) d.f4 (v.set kn (below i out (ups d kn))) = some (.x0 v') ∧ gK i d.f0 d.f1 d.f2 d.f3 d.f5 l (j + 1) d.f4 (cond (below i out (ups d kn)) (out ++ [(kn : Int)]) out) = some (.x0 out') ∧ Marks 0 ((d.f5.length : Int) - 1) v' out' ∧ out'.Nodup ∧ out'.length ≤ 100 := by
   cases below i out (ups d kn) with
   | true =>
    refine tP d h hd i o ho hr hol l (j + 1) _ _ (aG hdr) ?_ ?_ (by simp; omega) fun x hx => ?_
    ·have := hM.add (Int.le_refl 0) (x := (kn : Int)) (by omega)
     exact this
    ·rw [cond_true, List.nodup_append]
     exact ⟨hn, by simp, fun a ha b hb q => by rw [List.mem_singleton] at hb; subst hb; subst q; exact hko ha⟩
    ·rw [cond_true] at hx
     rcases List.mem_append.1 hx with hx | hx
     ·exact htk x (hsub x hx)
     ·rw [List.mem_singleton] at hx; subst hx; rw [List.take_add_one, hj]; simp
   | false =>
    rw [sv, cond_false]
    exact tP d h hd i o ho hr hol l (j + 1) v out (aG hdr) hM hn (by omega) fun x hx => htk x (hsub x hx)
  obtain ⟨v', out', f1, f2, f3⟩ := fin
  refine ⟨v', out', ?_, ?_, f3⟩
  ·unfold fe
   rw [e, if_pos h, if_pos hd, if_pos hk, if_pos (by omega), s1, Option.bind_some]
   exact f1
  ·unfold gK
   rw [e, if_pos h, if_pos hd, if_pos hk, if_pos (by omega), i1, Option.bind_some]
   exact f2
theorem we : ∀ (l : List Bool) (k : Nat) (v : List Int), v.length + l.length ≤ 1000 → v.Pairwise (· < ·) → (∀ y ∈ v, y < (k : Int)) → ∃ w, ff l k v = some (.x4 w) ∧ w.Pairwise (· < ·) ∧ ∀ y, y ∈ w ↔ y ∈ v ∨ ∃ j : Nat, l[j]? = some true ∧ y = ((k + j : Nat) : Int)
 | [], k, v, _, hp, _ => ⟨v, rfl, hp, fun y => by simp⟩
 | b :: l, k, v, hl, hp, hm => by
  simp only [List.length_cons] at hl
  unfold ff
  cases b with
  | true =>
   obtain ⟨w, w1, w2, w3⟩ := we l (k + 1) (v ++ [(k : Int)]) (by simp; omega)
    (by rw [List.pairwise_append]; exact ⟨hp, by simp, fun a ha c hc => by rw [List.mem_singleton] at hc; subst hc; exact hm a ha⟩)
    (fun y hy => by rcases List.mem_append.1 hy with hy | hy; have := hm y hy; omega; rw [List.mem_singleton] at hy; omega)
   refine ⟨w, by rw [cond_true, if_pos (by simp; omega)]; exact w1, w2, fun y => ?_⟩
   rw [w3, List.mem_append, List.mem_singleton]
   constructor
   ·rintro ((h | h) | ⟨j, h1, h2⟩)
    ·exact .inl h
    ·exact .inr ⟨0, rfl, by omega⟩
    ·exact .inr ⟨j + 1, h1, by omega⟩
   ·rintro (h | ⟨j, h1, h2⟩)
    ·exact .inl (.inl h)
    ·cases j with
     | zero => exact .inl (.inr (by omega))
     | succ j => exact .inr ⟨j, h1, by omega⟩
  | false =>
   obtain ⟨w, w1, w2, w3⟩ := we l (k + 1) v (by omega) hp (fun y hy => by have := hm y hy; omega)
   refine ⟨w, w1, w2, fun y => ?_⟩
   rw [w3]
   constructor
   ·rintro (h | ⟨j, h1, h2⟩)
    ·exact .inl h
    ·exact .inr ⟨j + 1, h1, by omega⟩
   ·rintro (h | ⟨j, h1, h2⟩)
    ·exact .inl h
    ·cases j with
     | zero => cases h1
     | succ j => exact .inr ⟨j, h1, by omega⟩
noncomputable def mo (d : GDag) (i : Int) : List Int := (l5 d i).getD []
noncomputable def am (d : GDag) (i : Int) : List Int := cond (bA d && gL d i) (mo d i) []
theorem wg (d : GDag) (i : Int) (h : ao.sm d) (hd : bA d = true) (hi : 0 ≤ i ∧ i < (d.f5.length : Int)) : l5 d i = some (mo d i) ∧ (mo d i).length ≤ 100 ∧ hY d i = some (mo d i) := by
 obtain ⟨h4, h1, -, hg, ho⟩ := lH hd
 have hs : ao.sm d.f5 := h.2.2
 obtain ⟨o1, o2⟩ := Hm hg
 have hM : Marks 0 ((d.f5.length : Int) - 1) (List.replicate d.f5.length false) [] := by
  refine ⟨by rw [List.length_replicate]; omega, fun x hx => (by cases hx), fun j hj => ?_⟩
  rw [List.getElem?_replicate, if_pos (by omega)]
  simp
 obtain ⟨v, out, s1, i1, m1, n1, l1⟩ := tP d h hd i (cy d.f5) o1 o2 (by omega) (cy d.f5) 0 _ [] rfl hM (by simp) (by simp; omega) (fun x hx => by cases hx)
 obtain ⟨w, w1, w2, w3⟩ := we v 0 [] (by have := m1.1; simp; omega) (by simp) (fun y hy => by cases hy)
 obtain ⟨b1, b2⟩ := oN n1
 have hw : w = cq out := qy w2 b1 fun y => by
  rw [w3, b2]
  constructor
  ·rintro (hy | ⟨j, e1, e2⟩)
   ·cases hy
   ·have hj : j < v.length := by
     rcases Nat.lt_or_ge j v.length with g | g
     ·exact g
     ·rw [List.getElem?_eq_none g] at e1; cases e1
    have := (m1.2.2 j (by have := m1.1; omega)).1 e1
    rw [e2, Nat.zero_add]; exact this
  ·intro hy
   have hb := m1.2.1 y hy
   refine .inr ⟨y.toNat, (m1.2.2 y.toNat (by omega)).2 ?_, by omega⟩
   rw [show ((y.toNat : Nat) : Int) = y by omega]; exact hy
 have e : dk d = cy d.f5 := rfl
 have iF : l5 d i = some (cq out) := by
  unfold l5
  rw [if_pos h, if_pos hg, e, if_pos (by omega), i1, Option.bind_some]
  simp only
  rw [if_pos (by omega)]
 have p : mo d i = cq out := by unfold mo; rw [iF]; rfl
 refine ⟨by rw [p]; exact iF, by rw [p]; show (List.mergeSort _ _).length ≤ _; rw [List.length_mergeSort]; exact l1, ?_⟩
 unfold hY
 have hin : aH i 0 (IntKind.wrap .i64 ((d.f5.length : Int) - 1)) = true := by
  rw [cP _ (by omega) (by omega)]; unfold aH; rw [decide_eq_true (by omega), decide_eq_true (by omega)]; rfl
 rw [if_pos h, hd, cond_true, hin, cond_true, if_pos hs, if_pos hg, if_pos (by omega), if_pos (by omega), show ((d.f5.length : Int)).toNat = d.f5.length by omega, s1, Option.bind_some]
 simp only
 rw [if_pos (by have := m1.1; omega), w1, Option.bind_some, hw, p]
theorem GC (d : GDag) (i : Int) (h : ao.sm d) : hY d i = some (am d i) := by
 unfold am
 cases q : bA d with
 | false =>
  unfold hY
  rw [if_pos h, q]; rfl
 | true =>
  cases q2 : gL d i with
  | false =>
   have e : aH i 0 (IntKind.wrap .i64 ((d.f5.length : Int) - 1)) = gL d i := rfl
   unfold hY
   rw [if_pos h, q, e, q2]; rfl
  | true => exact (wg d i h q (og q2 h)).2.2
theorem Gn {q0 : Kd} (x0 : GDag) (x1 : Int) (h : ao.sm x0) (hd : bA x0 = true) (hi : 0 ≤ x1 ∧ x1 < (x0.f5.length : Int)) : Does E 41 [.agg (GDag.t .far q0 x0), .one (tI x1)] [(false, [.s .own () 1 ((mo x0 x1).map etI)])] := by
 exact GY x0 x1 _ (wg x0 x1 h hd hi).1
theorem jj {q0 : Kd} (x0 : GDag) (x1 : Int) (h : ao.sm x0) : Does E 23 [.agg (GDag.t .far q0 x0), .one (tI x1)] [(false, [.s .own () 1 ((am x0 x1).map etI)])] := by
 exact Ed x0 x1 _ (GC x0 x1 h)
noncomputable def nI (x0 : GDag) (x1 : Int) : Option ((List Int)) :=
  cond (gL x0 x1)
   (if ao.sm x0 then cond (bA x0)
    (if bA x0 = true then if 0 ≤ x1 ∧ x1 < (x0.f5.length : Int) then some (mo x0 x1) else none else none)
    (some (([] : List Int))) else none)
   (some (([] : List Int)))
theorem DI {q0 : Kd} (x0 : GDag) (x1 : Int) : Ans (nI x0 x1) (fun r => Does E 24 [.agg (GDag.t .far q0 x0), .one (tI x1)] [(false, [.s .own () 1 (r.map etI)])]) := by
 unfold nI
 refine K8 (fun h0 => ?_) (fun h0 => ?_)
 ·refine La (fun h1 => ?_)
  refine K8 (fun h2 => ?_) (fun h2 => ?_)
  ·refine La (fun h3 => ?_)
   refine La (fun h4 => ?_)
   exact K5 (K4 (fn := Tryz.f24) [rT, rT, .ret [(false, [.s .own () 1 ((mo x0 x1).map etI)])]] _ rfl (fun _ => rfl) (fun k => by kernel_rfl) (AV (ψ := fun k => E.C k 40 [.agg (GDag.t .far q0 x0), .one (tI x1)] = some [(false, [tB true])]) (Lb (ko x0 x1) (by rw [h0])) <| AV (ψ := fun k => E.C k 28 [.agg (GDag.t .far q0 x0)] = some [(false, [tB true])]) (Lb (fK x0 h1) (by rw [h2])) <| AV (ψ := fun k => E.C k 41 [.agg (GDag.t .far q0 x0), .one (tI x1)] = some [(false, [.s .own () 1 ((mo x0 x1).map etI)])]) (Gn x0 x1 h1 h3 h4) <| AN))
  ·exact K5 (K4 (fn := Tryz.f24) [rT, rF] _ rfl (fun _ => rfl) (fun k => by kernel_rfl) (AV (ψ := fun k => E.C k 40 [.agg (GDag.t .far q0 x0), .one (tI x1)] = some [(false, [tB true])]) (Lb (ko x0 x1) (by rw [h0])) <| AV (ψ := fun k => E.C k 28 [.agg (GDag.t .far q0 x0)] = some [(false, [tB false])]) (Lb (fK x0 h1) (by rw [h2])) <| AN))
 ·exact K5 (K4 (fn := Tryz.f24) [rF] _ rfl (fun _ => rfl) (fun k => by kernel_rfl) (AV (ψ := fun k => E.C k 40 [.agg (GDag.t .far q0 x0), .one (tI x1)] = some [(false, [tB false])]) (Lb (ko x0 x1) (by rw [h0])) <| AN))
theorem GB (d : GDag) (i : Int) (h : ao.sm d) : nI d i = some (am d i) := by
 unfold nI am
 cases q2 : gL d i with
 | false => cases bA d <;> rfl
 | true =>
  have hi := og q2 h
  rw [cond_true, if_pos h]
  cases q : bA d with
  | false => rfl
  | true => rw [cond_true, if_pos rfl, if_pos hi]; rfl
theorem Gg (d : GDag) (i : Int) (h : ao.sm d) : ao.sm (am d i) := by
 unfold am
 cases q : bA d with
 | false => exact mb (by simp)
 | true =>
  cases q2 : gL d i with
  | false => exact mb (by simp)
  | true =>
   have := (wg d i h q (og q2 h)).2.1
   exact mb (by show (mo d i).length ≤ _; omega)
theorem gT {q0 : Kd} (x0 : GDag) (x1 : Int) (h : ao.sm x0) : Does E 24 [.agg (GDag.t .far q0 x0), .one (tI x1)] [(false, [.s .own () 1 ((am x0 x1).map etI)])] := by
 exact DI x0 x1 _ (GB x0 x1 h)
end Go.Proofs.YtjfbofdmjihglaaGreatDoor.Am
namespace Go.Proofs.YtjfbofdmjihglaaGreatDoor.Am
open Go Go.Proofs Classical
set_option maxRecDepth 100000
set_option linter.unusedVariables false
set_option linter.unusedSimpArgs false
noncomputable def jZ (x0 : LDag) (x1 : Int) : Option (Bool) :=
  if Wf.wf x0 then cond (decide ((aC x0 (1048576 : Int)) < (0 : Int)))
   (some (true))
   (if ao.sm x0 then if ao.sm (aa x0) then if (am (aa x0) x1) = (am (aa x0) x1) then if ao.sm (am (aa x0) x1) then cond (yes (am (aa x0) x1) (am (aa x0) x1))
    (if (aa x0) = (aa x0) then cond (yes (aa x0) (aa x0))
     (if ek (aa x0) (1 : Int) = some (aq (aa x0) (1 : Int)) then cond (decide (((aq (aa x0) (1 : Int)).2) < (0 : Int)))
      (some (false))
      (if dI (am (aa x0) x1) (1 : Int) = some (ac (am (aa x0) x1) (1 : Int)) then if dH ((ac (am (aa x0) x1) (1 : Int)).1) (1 : Int) = some (aD ((ac (am (aa x0) x1) (1 : Int)).1) (1 : Int)) then cond (decide ((aD ((ac (am (aa x0) x1) (1 : Int)).1) (1 : Int)) < (0 : Int)))
       (some (false))
       (cond ((aD ((ac (am (aa x0) x1) (1 : Int)).1) (1 : Int)) != ((ac (am (aa x0) x1) (1 : Int)).2))
        (some (false))
        (some (true))) else none else none) else none)
     (some (false)) else none)
    (some (false)) else none else none else none else none) else none
theorem uw {q0 : Kd} (x0 : LDag) (x1 : Int) : Ans (jZ x0 x1) (fun r => Does E 7 [.agg (LDag.t .far q0 x0), .one (tI x1)] [(false, [tB r])]) := by
 unfold jZ
 refine La (fun h0 => ?_)
 refine K8 (fun h1 => ?_) (fun h1 => ?_)
 ·exact K5 (K4 (fn := Tryz.f7) [.ret [(false, [tI (aC x0 (1048576 : Int))])], .b true] _ rfl (fun _ => rfl) (fun k => by kernel_rfl) (AV (ψ := fun k => E.C k 8 [.agg (LDag.t .far q0 x0), .one (tI (1048576 : Int))] = some [(false, [tI (aC x0 (1048576 : Int))])]) (bz x0 (1048576 : Int) h0) <| AC h1 <| AN))
 ·refine La (fun h2 => ?_)
  refine La (fun h3 => ?_)
  refine La (fun h4 => ?_)
  refine La (fun h5 => ?_)
  refine K8 (fun h6 => ?_) (fun h6 => ?_)
  ·refine La (fun h7 => ?_)
   refine K8 (fun h8 => ?_) (fun h8 => ?_)
   ·refine La (fun h9 => ?_)
    refine K8 (fun h10 => ?_) (fun h10 => ?_)
    ·exact K5 (K4 (fn := Tryz.f7) [.ret [(false, [tI (aC x0 (1048576 : Int))])], .b false, .ret [(true, GDag.t .own .own (aa x0))], .ret [(false, [.s .own () 1 ((am (aa x0) x1).map etI)])], .ret [(true, GDag.t .own .own (aa x0))], .ret [(false, [.s .own () 1 ((am (aa x0) x1).map etI)])], rT, .ret [(true, GDag.t .own .own (aa x0))], rT, .ret [(true, GDag.t .own .own ((aq (aa x0) (1 : Int)).1)), (false, [tI ((aq (aa x0) (1 : Int)).2)])], .b true] _ rfl (fun _ => rfl) (fun k => by kernel_rfl) (AV (ψ := fun k => E.C k 8 [.agg (LDag.t .far q0 x0), .one (tI (1048576 : Int))] = some [(false, [tI (aC x0 (1048576 : Int))])]) (bz x0 (1048576 : Int) h0) <| AC h1 <| AV (ψ := fun k => E.C k 10 [.agg (LDag.t .far q0 x0)] = some [(true, GDag.t .own .own (aa x0))]) (aA x0 h2) <| AV (ψ := fun k => E.C k 23 [.agg (GDag.t .far .own (aa x0)), .one (tI x1)] = some [(false, [.s .own () 1 ((am (aa x0) x1).map etI)])]) (jj (aa x0) x1 h3) <| AV (ψ := fun k => E.C k 10 [.agg (LDag.t .far q0 x0)] = some [(true, GDag.t .own .own (aa x0))]) (aA x0 h2) <| AV (ψ := fun k => E.C k 24 [.agg (GDag.t .far .own (aa x0)), .one (tI x1)] = some [(false, [.s .own () 1 ((am (aa x0) x1).map etI)])]) (gT (aa x0) x1 h3) <| AV (ψ := fun k => E.C k 17 [.one (.s .far () 1 ((((am (aa x0) x1).map etI).drop 0).take ((am (aa x0) x1).map etI).length)), .one (.s .far () 1 ((((am (aa x0) x1).map etI).drop 0).take ((am (aa x0) x1).map etI).length))] = some [(false, [tB true])]) (Lc (by simp only [List.take_length, List.drop_zero]) (Lb (aV (am (aa x0) x1) (am (aa x0) x1) h4 h5) (by rw [h6]))) <| AV (ψ := fun k => E.C k 10 [.agg (LDag.t .far q0 x0)] = some [(true, GDag.t .own .own (aa x0))]) (aA x0 h2) <| AV (ψ := fun k => E.C k 12 [.agg (GDag.t .far .own (aa x0)), .agg (GDag.t .far .own (aa x0))] = some [(false, [tB true])]) (Lb (cw (aa x0) (aa x0) h7 h3) (by rw [h8])) <| AV (ψ := fun k => E.C k 18 [.agg (GDag.t .own .own (aa x0)), .one (tI (1 : Int))] = some [(true, GDag.t .own .own ((aq (aa x0) (1 : Int)).1)), (false, [tI ((aq (aa x0) (1 : Int)).2)])]) (db (aa x0) (1 : Int) h9) <| AC h10 <| AN))
    ·refine La (fun h11 => ?_)
     refine La (fun h12 => ?_)
     refine K8 (fun h13 => ?_) (fun h13 => ?_)
     ·exact K5 (K4 (fn := Tryz.f7) [.ret [(false, [tI (aC x0 (1048576 : Int))])], .b false, .ret [(true, GDag.t .own .own (aa x0))], .ret [(false, [.s .own () 1 ((am (aa x0) x1).map etI)])], .ret [(true, GDag.t .own .own (aa x0))], .ret [(false, [.s .own () 1 ((am (aa x0) x1).map etI)])], rT, .ret [(true, GDag.t .own .own (aa x0))], rT, .ret [(true, GDag.t .own .own ((aq (aa x0) (1 : Int)).1)), (false, [tI ((aq (aa x0) (1 : Int)).2)])], .b false, rT, .ret [(false, [.s .own () 1 (((ac (am (aa x0) x1) (1 : Int)).1).map etI)]), (false, [tI ((ac (am (aa x0) x1) (1 : Int)).2)])], .ret [(false, [tI (aD ((ac (am (aa x0) x1) (1 : Int)).1) (1 : Int))])], .b true] _ rfl (fun _ => rfl) (fun k => by kernel_rfl) (AV (ψ := fun k => E.C k 8 [.agg (LDag.t .far q0 x0), .one (tI (1048576 : Int))] = some [(false, [tI (aC x0 (1048576 : Int))])]) (bz x0 (1048576 : Int) h0) <| AC h1 <| AV (ψ := fun k => E.C k 10 [.agg (LDag.t .far q0 x0)] = some [(true, GDag.t .own .own (aa x0))]) (aA x0 h2) <| AV (ψ := fun k => E.C k 23 [.agg (GDag.t .far .own (aa x0)), .one (tI x1)] = some [(false, [.s .own () 1 ((am (aa x0) x1).map etI)])]) (jj (aa x0) x1 h3) <| AV (ψ := fun k => E.C k 10 [.agg (LDag.t .far q0 x0)] = some [(true, GDag.t .own .own (aa x0))]) (aA x0 h2) <| AV (ψ := fun k => E.C k 24 [.agg (GDag.t .far .own (aa x0)), .one (tI x1)] = some [(false, [.s .own () 1 ((am (aa x0) x1).map etI)])]) (gT (aa x0) x1 h3) <| AV (ψ := fun k => E.C k 17 [.one (.s .far () 1 ((((am (aa x0) x1).map etI).drop 0).take ((am (aa x0) x1).map etI).length)), .one (.s .far () 1 ((((am (aa x0) x1).map etI).drop 0).take ((am (aa x0) x1).map etI).length))] = some [(false, [tB true])]) (Lc (by simp only [List.take_length, List.drop_zero]) (Lb (aV (am (aa x0) x1) (am (aa x0) x1) h4 h5) (by rw [h6]))) <| AV (ψ := fun k => E.C k 10 [.agg (LDag.t .far q0 x0)] = some [(true, GDag.t .own .own (aa x0))]) (aA x0 h2) <| AV (ψ := fun k => E.C k 12 [.agg (GDag.t .far .own (aa x0)), .agg (GDag.t .far .own (aa x0))] = some [(false, [tB true])]) (Lb (cw (aa x0) (aa x0) h7 h3) (by rw [h8])) <| AV (ψ := fun k => E.C k 18 [.agg (GDag.t .own .own (aa x0)), .one (tI (1 : Int))] = some [(true, GDag.t .own .own ((aq (aa x0) (1 : Int)).1)), (false, [tI ((aq (aa x0) (1 : Int)).2)])]) (db (aa x0) (1 : Int) h9) <| AC h10 <| AV (ψ := fun k => E.C k 17 [.one (.s .far () 1 ((((am (aa x0) x1).map etI).drop 0).take ((am (aa x0) x1).map etI).length)), .one (.s .far () 1 ((((am (aa x0) x1).map etI).drop 0).take ((am (aa x0) x1).map etI).length))] = some [(false, [tB true])]) (Lc (by simp only [List.take_length, List.drop_zero]) (Lb (aV (am (aa x0) x1) (am (aa x0) x1) h4 h5) (by rw [h6]))) <| AC (p := ((am (aa x0) x1).map etI).length = ((am (aa x0) x1).map etI).length) rfl <| AV (ψ := fun k => E.C k 19 [.one (.s .own () 1 ((am (aa x0) x1).map etI)), .one (tI (1 : Int))] = some [(false, [.s .own () 1 (((ac (am (aa x0) x1) (1 : Int)).1).map etI)]), (false, [tI ((ac (am (aa x0) x1) (1 : Int)).2)])]) (eo (am (aa x0) x1) (1 : Int) h11) <| AV (ψ := fun k => E.C k 20 [.one (.s .far () 1 (((((ac (am (aa x0) x1) (1 : Int)).1).map etI).drop 0).take (((ac (am (aa x0) x1) (1 : Int)).1).map etI).length)), .one (tI (1 : Int))] = some [(false, [tI (aD ((ac (am (aa x0) x1) (1 : Int)).1) (1 : Int))])]) (Lc (by simp only [List.take_length, List.drop_zero]) (cC ((ac (am (aa x0) x1) (1 : Int)).1) (1 : Int) h12)) <| AC h13 <| AN))
     ·refine K8 (fun h14 => ?_) (fun h14 => ?_)
      ·exact K5 (K4 (fn := Tryz.f7) [.ret [(false, [tI (aC x0 (1048576 : Int))])], .b false, .ret [(true, GDag.t .own .own (aa x0))], .ret [(false, [.s .own () 1 ((am (aa x0) x1).map etI)])], .ret [(true, GDag.t .own .own (aa x0))], .ret [(false, [.s .own () 1 ((am (aa x0) x1).map etI)])], rT, .ret [(true, GDag.t .own .own (aa x0))], rT, .ret [(true, GDag.t .own .own ((aq (aa x0) (1 : Int)).1)), (false, [tI ((aq (aa x0) (1 : Int)).2)])], .b false, rT, .ret [(false, [.s .own () 1 (((ac (am (aa x0) x1) (1 : Int)).1).map etI)]), (false, [tI ((ac (am (aa x0) x1) (1 : Int)).2)])], .ret [(false, [tI (aD ((ac (am (aa x0) x1) (1 : Int)).1) (1 : Int))])], .b false, .b true] _ rfl (fun _ => rfl) (fun k => by kernel_rfl) (AV (ψ := fun k => E.C k 8 [.agg (LDag.t .far q0 x0), .one (tI (1048576 : Int))] = some [(false, [tI (aC x0 (1048576 : Int))])]) (bz x0 (1048576 : Int) h0) <| AC h1 <| AV (ψ := fun k => E.C k 10 [.agg (LDag.t .far q0 x0)] = some [(true, GDag.t .own .own (aa x0))]) (aA x0 h2) <| AV (ψ := fun k => E.C k 23 [.agg (GDag.t .far .own (aa x0)), .one (tI x1)] = some [(false, [.s .own () 1 ((am (aa x0) x1).map etI)])]) (jj (aa x0) x1 h3) <| AV (ψ := fun k => E.C k 10 [.agg (LDag.t .far q0 x0)] = some [(true, GDag.t .own .own (aa x0))]) (aA x0 h2) <| AV (ψ := fun k => E.C k 24 [.agg (GDag.t .far .own (aa x0)), .one (tI x1)] = some [(false, [.s .own () 1 ((am (aa x0) x1).map etI)])]) (gT (aa x0) x1 h3) <| AV (ψ := fun k => E.C k 17 [.one (.s .far () 1 ((((am (aa x0) x1).map etI).drop 0).take ((am (aa x0) x1).map etI).length)), .one (.s .far () 1 ((((am (aa x0) x1).map etI).drop 0).take ((am (aa x0) x1).map etI).length))] = some [(false, [tB true])]) (Lc (by simp only [List.take_length, List.drop_zero]) (Lb (aV (am (aa x0) x1) (am (aa x0) x1) h4 h5) (by rw [h6]))) <| AV (ψ := fun k => E.C k 10 [.agg (LDag.t .far q0 x0)] = some [(true, GDag.t .own .own (aa x0))]) (aA x0 h2) <| AV (ψ := fun k => E.C k 12 [.agg (GDag.t .far .own (aa x0)), .agg (GDag.t .far .own (aa x0))] = some [(false, [tB true])]) (Lb (cw (aa x0) (aa x0) h7 h3) (by rw [h8])) <| AV (ψ := fun k => E.C k 18 [.agg (GDag.t .own .own (aa x0)), .one (tI (1 : Int))] = some [(true, GDag.t .own .own ((aq (aa x0) (1 : Int)).1)), (false, [tI ((aq (aa x0) (1 : Int)).2)])]) (db (aa x0) (1 : Int) h9) <| AC h10 <| AV (ψ := fun k => E.C k 17 [.one (.s .far () 1 ((((am (aa x0) x1).map etI).drop 0).take ((am (aa x0) x1).map etI).length)), .one (.s .far () 1 ((((am (aa x0) x1).map etI).drop 0).take ((am (aa x0) x1).map etI).length))] = some [(false, [tB true])]) (Lc (by simp only [List.take_length, List.drop_zero]) (Lb (aV (am (aa x0) x1) (am (aa x0) x1) h4 h5) (by rw [h6]))) <| AC (p := ((am (aa x0) x1).map etI).length = ((am (aa x0) x1).map etI).length) rfl <| AV (ψ := fun k => E.C k 19 [.one (.s .own () 1 ((am (aa x0) x1).map etI)), .one (tI (1 : Int))] = some [(false, [.s .own () 1 (((ac (am (aa x0) x1) (1 : Int)).1).map etI)]), (false, [tI ((ac (am (aa x0) x1) (1 : Int)).2)])]) (eo (am (aa x0) x1) (1 : Int) h11) <| AV (ψ := fun k => E.C k 20 [.one (.s .far () 1 (((((ac (am (aa x0) x1) (1 : Int)).1).map etI).drop 0).take (((ac (am (aa x0) x1) (1 : Int)).1).map etI).length)), .one (tI (1 : Int))] = some [(false, [tI (aD ((ac (am (aa x0) x1) (1 : Int)).1) (1 : Int))])]) (Lc (by simp only [List.take_length, List.drop_zero]) (cC ((ac (am (aa x0) x1) (1 : Int)).1) (1 : Int) h12)) <| AC h13 <| AC h14 <| AN))
      ·exact K5 (K4 (fn := Tryz.f7) [.ret [(false, [tI (aC x0 (1048576 : Int))])], .b false, .ret [(true, GDag.t .own .own (aa x0))], .ret [(false, [.s .own () 1 ((am (aa x0) x1).map etI)])], .ret [(true, GDag.t .own .own (aa x0))], .ret [(false, [.s .own () 1 ((am (aa x0) x1).map etI)])], rT, .ret [(true, GDag.t .own .own (aa x0))], rT, .ret [(true, GDag.t .own .own ((aq (aa x0) (1 : Int)).1)), (false, [tI ((aq (aa x0) (1 : Int)).2)])], .b false, rT, .ret [(false, [.s .own () 1 (((ac (am (aa x0) x1) (1 : Int)).1).map etI)]), (false, [tI ((ac (am (aa x0) x1) (1 : Int)).2)])], .ret [(false, [tI (aD ((ac (am (aa x0) x1) (1 : Int)).1) (1 : Int))])], .b false, .b false, .ret [(true, GDag.t .own .own (aa x0))], .ret [(false, [.s .own () 1 ((am (aa x0) x1).map etI)])], rT, .ret [(false, [tI (aD ((ac (am (aa x0) x1) (1 : Int)).1) (1 : Int))])], .b false, .b false] _ rfl (fun _ => rfl) (fun k => by kernel_rfl) (AV (ψ := fun k => E.C k 8 [.agg (LDag.t .far q0 x0), .one (tI (1048576 : Int))] = some [(false, [tI (aC x0 (1048576 : Int))])]) (bz x0 (1048576 : Int) h0) <| AC h1 <| AV (ψ := fun k => E.C k 10 [.agg (LDag.t .far q0 x0)] = some [(true, GDag.t .own .own (aa x0))]) (aA x0 h2) <| AV (ψ := fun k => E.C k 23 [.agg (GDag.t .far .own (aa x0)), .one (tI x1)] = some [(false, [.s .own () 1 ((am (aa x0) x1).map etI)])]) (jj (aa x0) x1 h3) <| AV (ψ := fun k => E.C k 10 [.agg (LDag.t .far q0 x0)] = some [(true, GDag.t .own .own (aa x0))]) (aA x0 h2) <| AV (ψ := fun k => E.C k 24 [.agg (GDag.t .far .own (aa x0)), .one (tI x1)] = some [(false, [.s .own () 1 ((am (aa x0) x1).map etI)])]) (gT (aa x0) x1 h3) <| AV (ψ := fun k => E.C k 17 [.one (.s .far () 1 ((((am (aa x0) x1).map etI).drop 0).take ((am (aa x0) x1).map etI).length)), .one (.s .far () 1 ((((am (aa x0) x1).map etI).drop 0).take ((am (aa x0) x1).map etI).length))] = some [(false, [tB true])]) (Lc (by simp only [List.take_length, List.drop_zero]) (Lb (aV (am (aa x0) x1) (am (aa x0) x1) h4 h5) (by rw [h6]))) <| AV (ψ := fun k => E.C k 10 [.agg (LDag.t .far q0 x0)] = some [(true, GDag.t .own .own (aa x0))]) (aA x0 h2) <| AV (ψ := fun k => E.C k 12 [.agg (GDag.t .far .own (aa x0)), .agg (GDag.t .far .own (aa x0))] = some [(false, [tB true])]) (Lb (cw (aa x0) (aa x0) h7 h3) (by rw [h8])) <| AV (ψ := fun k => E.C k 18 [.agg (GDag.t .own .own (aa x0)), .one (tI (1 : Int))] = some [(true, GDag.t .own .own ((aq (aa x0) (1 : Int)).1)), (false, [tI ((aq (aa x0) (1 : Int)).2)])]) (db (aa x0) (1 : Int) h9) <| AC h10 <| AV (ψ := fun k => E.C k 17 [.one (.s .far () 1 ((((am (aa x0) x1).map etI).drop 0).take ((am (aa x0) x1).map etI).length)), .one (.s .far () 1 ((((am (aa x0) x1).map etI).drop 0).take ((am (aa x0) x1).map etI).length))] = some [(false, [tB true])]) (Lc (by simp only [List.take_length, List.drop_zero]) (Lb (aV (am (aa x0) x1) (am (aa x0) x1) h4 h5) (by rw [h6]))) <| AC (p := ((am (aa x0) x1).map etI).length = ((am (aa x0) x1).map etI).length) rfl <| AV (ψ := fun k => E.C k 19 [.one (.s .own () 1 ((am (aa x0) x1).map etI)), .one (tI (1 : Int))] = some [(false, [.s .own () 1 (((ac (am (aa x0) x1) (1 : Int)).1).map etI)]), (false, [tI ((ac (am (aa x0) x1) (1 : Int)).2)])]) (eo (am (aa x0) x1) (1 : Int) h11) <| AV (ψ := fun k => E.C k 20 [.one (.s .far () 1 (((((ac (am (aa x0) x1) (1 : Int)).1).map etI).drop 0).take (((ac (am (aa x0) x1) (1 : Int)).1).map etI).length)), .one (tI (1 : Int))] = some [(false, [tI (aD ((ac (am (aa x0) x1) (1 : Int)).1) (1 : Int))])]) (Lc (by simp only [List.take_length, List.drop_zero]) (cC ((ac (am (aa x0) x1) (1 : Int)).1) (1 : Int) h12)) <| AC h13 <| AC h14 <| AV (ψ := fun k => E.C k 10 [.agg (LDag.t .far q0 x0)] = some [(true, GDag.t .own .own (aa x0))]) (aA x0 h2) <| AV (ψ := fun k => E.C k 24 [.agg (GDag.t .far .own (aa x0)), .one (tI x1)] = some [(false, [.s .own () 1 ((am (aa x0) x1).map etI)])]) (gT (aa x0) x1 h3) <| AV (ψ := fun k => E.C k 17 [.one (.s .far () 1 ((((am (aa x0) x1).map etI).drop 0).take ((am (aa x0) x1).map etI).length)), .one (.s .far () 1 ((((am (aa x0) x1).map etI).drop 0).take ((am (aa x0) x1).map etI).length))] = some [(false, [tB true])]) (Lc (by simp only [List.take_length, List.drop_zero]) (Lb (aV (am (aa x0) x1) (am (aa x0) x1) h4 h5) (by rw [h6]))) <| AV (ψ := fun k => E.C k 20 [.one (.s .far () 1 (((((ac (am (aa x0) x1) (1 : Int)).1).map etI).drop 0).take (((ac (am (aa x0) x1) (1 : Int)).1).map etI).length)), .one (tI (1 : Int))] = some [(false, [tI (aD ((ac (am (aa x0) x1) (1 : Int)).1) (1 : Int))])]) (Lc (by simp only [List.take_length, List.drop_zero]) (cC ((ac (am (aa x0) x1) (1 : Int)).1) (1 : Int) h12)) <| AC h13 <| AC h14 <| AN))
   ·exact K5 (K4 (fn := Tryz.f7) [.ret [(false, [tI (aC x0 (1048576 : Int))])], .b false, .ret [(true, GDag.t .own .own (aa x0))], .ret [(false, [.s .own () 1 ((am (aa x0) x1).map etI)])], .ret [(true, GDag.t .own .own (aa x0))], .ret [(false, [.s .own () 1 ((am (aa x0) x1).map etI)])], rT, .ret [(true, GDag.t .own .own (aa x0))], rF] _ rfl (fun _ => rfl) (fun k => by kernel_rfl) (AV (ψ := fun k => E.C k 8 [.agg (LDag.t .far q0 x0), .one (tI (1048576 : Int))] = some [(false, [tI (aC x0 (1048576 : Int))])]) (bz x0 (1048576 : Int) h0) <| AC h1 <| AV (ψ := fun k => E.C k 10 [.agg (LDag.t .far q0 x0)] = some [(true, GDag.t .own .own (aa x0))]) (aA x0 h2) <| AV (ψ := fun k => E.C k 23 [.agg (GDag.t .far .own (aa x0)), .one (tI x1)] = some [(false, [.s .own () 1 ((am (aa x0) x1).map etI)])]) (jj (aa x0) x1 h3) <| AV (ψ := fun k => E.C k 10 [.agg (LDag.t .far q0 x0)] = some [(true, GDag.t .own .own (aa x0))]) (aA x0 h2) <| AV (ψ := fun k => E.C k 24 [.agg (GDag.t .far .own (aa x0)), .one (tI x1)] = some [(false, [.s .own () 1 ((am (aa x0) x1).map etI)])]) (gT (aa x0) x1 h3) <| AV (ψ := fun k => E.C k 17 [.one (.s .far () 1 ((((am (aa x0) x1).map etI).drop 0).take ((am (aa x0) x1).map etI).length)), .one (.s .far () 1 ((((am (aa x0) x1).map etI).drop 0).take ((am (aa x0) x1).map etI).length))] = some [(false, [tB true])]) (Lc (by simp only [List.take_length, List.drop_zero]) (Lb (aV (am (aa x0) x1) (am (aa x0) x1) h4 h5) (by rw [h6]))) <| AV (ψ := fun k => E.C k 10 [.agg (LDag.t .far q0 x0)] = some [(true, GDag.t .own .own (aa x0))]) (aA x0 h2) <| AV (ψ := fun k => E.C k 12 [.agg (GDag.t .far .own (aa x0)), .agg (GDag.t .far .own (aa x0))] = some [(false, [tB false])]) (Lb (cw (aa x0) (aa x0) h7 h3) (by rw [h8])) <| AN))
  ·exact K5 (K4 (fn := Tryz.f7) [.ret [(false, [tI (aC x0 (1048576 : Int))])], .b false, .ret [(true, GDag.t .own .own (aa x0))], .ret [(false, [.s .own () 1 ((am (aa x0) x1).map etI)])], .ret [(true, GDag.t .own .own (aa x0))], .ret [(false, [.s .own () 1 ((am (aa x0) x1).map etI)])], rF] _ rfl (fun _ => rfl) (fun k => by kernel_rfl) (AV (ψ := fun k => E.C k 8 [.agg (LDag.t .far q0 x0), .one (tI (1048576 : Int))] = some [(false, [tI (aC x0 (1048576 : Int))])]) (bz x0 (1048576 : Int) h0) <| AC h1 <| AV (ψ := fun k => E.C k 10 [.agg (LDag.t .far q0 x0)] = some [(true, GDag.t .own .own (aa x0))]) (aA x0 h2) <| AV (ψ := fun k => E.C k 23 [.agg (GDag.t .far .own (aa x0)), .one (tI x1)] = some [(false, [.s .own () 1 ((am (aa x0) x1).map etI)])]) (jj (aa x0) x1 h3) <| AV (ψ := fun k => E.C k 10 [.agg (LDag.t .far q0 x0)] = some [(true, GDag.t .own .own (aa x0))]) (aA x0 h2) <| AV (ψ := fun k => E.C k 24 [.agg (GDag.t .far .own (aa x0)), .one (tI x1)] = some [(false, [.s .own () 1 ((am (aa x0) x1).map etI)])]) (gT (aa x0) x1 h3) <| AV (ψ := fun k => E.C k 17 [.one (.s .far () 1 ((((am (aa x0) x1).map etI).drop 0).take ((am (aa x0) x1).map etI).length)), .one (.s .far () 1 ((((am (aa x0) x1).map etI).drop 0).take ((am (aa x0) x1).map etI).length))] = some [(false, [tB false])]) (Lc (by simp only [List.take_length, List.drop_zero]) (Lb (aV (am (aa x0) x1) (am (aa x0) x1) h4 h5) (by rw [h6]))) <| AN))
theorem zR {q0 : Kd} (x0 : LDag) (x1 : Int) (h : Wf.wf x0) : Does E 7 [.agg (LDag.t .far q0 x0), .one (tI x1)] [(false, [tB true])] := by
 have hs := o7 x0 1048576 h (by omega) (by omega)
 exact uw x0 x1 _ (by
  unfold jZ
  refine xx h (AU fun q => ?_)
  have ht : ao.sm (aa x0) := pd (hs q).2
  have hr : ao.sm (am (aa x0) x1) := Gg _ _ ht
  obtain ⟨a1, a2, a3, a4, a5, a6, a7⟩ := pO (aa x0) 1 ht (by omega) (by omega)
  obtain ⟨b1, b2, b3, b4, b5, b6⟩ := oD (am (aa x0) x1) 1 hr (by omega) (by omega)
  have ha : decide ((aq (aa x0) 1).2 < (0 : Int)) = false := decide_eq_false (by omega)
  have hb : decide ((ac (am (aa x0) x1) 1).2 < (0 : Int)) = false := decide_eq_false (by omega)
  simp [(hs q).2, ht, hr, yes, a1, b1, b2, b3, ha, hb])
end Go.Proofs.YtjfbofdmjihglaaGreatDoor.Am
namespace Go.Proofs.YtjfbofdmjihglaaGreatDoor.fnExactDownsOf
open Go.ChangeShapes Go.WideShapes Go.ChangeAt Go.RowKit Go.Proofs.YtjfbofdmjihglaaGreatDoor.Am
open Go.ChangeMaps (open_string shut_string)
set_option linter.unusedVariables false
set_option linter.unusedSimpArgs false
theorem own : ownKnob Tryz.prog.godebug = none := by kernel_rfl
theorem laid : laidOutB Tryz.prog = true := by kernel_rfl
theorem dW {α : Type} {enc : α → List (T Unit)} {B : α → Prop} : ∀ (rows : List (List DT)), (∀ r ∈ rows, ∃ x, erL r = enc x ∧ B x) → ∃ l : List α, rows.map erL = l.map enc ∧ l.length = rows.length ∧ ∀ y ∈ l, B y
 | [], _ => ⟨[], rfl, rfl, fun y h => by cases h⟩
 | r :: rs, h => by
  obtain ⟨x, h1, h2⟩ := h r (by simp)
  obtain ⟨l, g1, g2, g3⟩ := dW rs fun q hq => h q (by simp [hq])
  refine ⟨x :: l, by simp only [List.map_cons, h1, g1], by simp [g2], fun y hy => ?_⟩
  rcases List.mem_cons.1 hy with rfl | hy
  ·exact h2
  ·exact g3 y hy
def dZ : Ty := (.struct (.cons .str (.cons .str (.cons (.int .i64) (.cons .bool (.cons (.slice .str) .nil))))))
theorem iV {ts : List DT} (h : Shape dZ ts) : ∃ x : GTask, erL ts = GTask.t .far x ∧ Wf.wf x := by
 simp only [dZ, Shape, ShapeF] at h
 obtain ⟨xs0, ys0, rfl, s0, xs1, ys1, rfl, s1, xs2, ys2, rfl, s2, xs3, ys3, rfl, s3, xs4, ys4, rfl, s4, rfl⟩ := h
 obtain ⟨v0, rfl, k0⟩ := s0
 obtain ⟨v1, rfl, k1⟩ := s1
 obtain ⟨v2, rfl, k2⟩ := s2
 obtain ⟨v3, rfl⟩ := s3
 obtain ⟨d4, r4, rfl, k4, a4⟩ := s4
 obtain ⟨v4, e4, b4, c4⟩ := dW (enc := etS) (B := Wf.wf) r4 (fun r hr => (by obtain ⟨s, rfl, hs⟩ := a4 r hr; exact ⟨s, rfl, hs⟩))
 refine ⟨⟨v0, v1, v2, v3, v4⟩, ?_, ⟨k0, k1, ⟨by rw [b4]; exact k4, c4⟩⟩⟩
 simp only [List.map_append, List.map_cons, List.map_nil, erL, aB, cA, e4]
 rfl
def dq : Ty := (.struct (.cons .str (.cons .str (.cons (.int .i64) (.cons (.int .i64) (.cons .bool (.cons (.slice (.struct (.cons .str (.cons .str (.cons (.int .i64) (.cons .bool (.cons (.slice .str) .nil))))))) .nil)))))))
theorem j9 {ts : List DT} (h : Shape dq ts) : ∃ x : LDag, erL ts = LDag.t .far .far x ∧ Wf.wf x := by
 simp only [dq, Shape, ShapeF] at h
 obtain ⟨xs0, ys0, rfl, s0, xs1, ys1, rfl, s1, xs2, ys2, rfl, s2, xs3, ys3, rfl, s3, xs4, ys4, rfl, s4, xs5, ys5, rfl, s5, rfl⟩ := h
 obtain ⟨v0, rfl, k0⟩ := s0
 obtain ⟨v1, rfl, k1⟩ := s1
 obtain ⟨v2, rfl, k2⟩ := s2
 obtain ⟨v3, rfl, k3⟩ := s3
 obtain ⟨v4, rfl⟩ := s4
 obtain ⟨d5, r5, rfl, k5, a5⟩ := s5
 obtain ⟨v5, e5, b5, c5⟩ := dW (enc := (GTask.t .far)) (B := Wf.wf) r5 (fun r hr => iV (by simp only [dZ, Shape, ShapeF]; exact a5 r hr))
 refine ⟨⟨v0, v1, v2, v3, v4, v5⟩, ?_, ⟨k0, k1, ⟨by rw [b5]; exact k5, c5⟩⟩⟩
 simp only [List.map_append, List.map_cons, List.map_nil, erL, aB, cA, e5]
 rfl
theorem iM {H : Type} {enc : TypeId × Value → H} {a : Assume} {C : Checked} {os : Os} {f : FuncId} {fn : Func} {s : ChangeSpec} {conds : List PathCond} {apart fresh handsOn again : Bool} {X : World → Array Value → Prop}
  (hX : ∀ (w w' : World) (args : Array Value), w.heap = w'.heap → X w args → X w' args)
  (own : ownKnob C.prog.godebug = none) (started : os.Started) (noInit : C.prog.inits.idxOf? f = none) (hfn : C.prog.funcs[f]? = some fn)
  (witness : ∃ (w : World) (tape : Tape) (i : Input), w.os = os ∧ (w.forCall tape i).Shaped C.prog ∧ i.vars = [] ∧ Input.okWide C.prog (w.forCall tape i) .any w.heap.size f i ∧
   ((s.pre enc C.prog fn conds apart (w.forCall tape i).memory i.args ∧ X (w.forCall tape i).memory i.args) ∧ sizedMet enc C.prog fn (OpenSpec.ofChange s) apart (w.forCall tape i).memory i.args) ∧ a.holds C.prog (lone (Frame.enter C.prog f i.args .normal) [] (w.forCall tape i)))
  (contract : ∀ (W : World) (base : Nat) (args : Array Value) (ds gs : List (DataW H)) (before : List MemPlace),
   (∀ (j : Nat) t v, fn.params[j]? = some t → args[j]? = some v → Value.okWide C.prog W .any base t v) →
   DataW.Whole enc C.prog fn.params.toList s.vars apart W args.toList ds gs before →
   X W args → W.ShapedOpen C.prog →
   Calls C.prog f args W fun e W' => ∃ v, e = .returned v ∧ s.post enc C.prog fn apart fresh handsOn again W args v W') :
  ReturnsInHanded a C os f .any (fun w args => (s.pre enc C.prog fn conds apart w args ∧ X w args) ∧ sizedMet enc C.prog fn (OpenSpec.ofChange s) apart w args) (s.post enc C.prog fn apart fresh handsOn again) := by
 refine returnsInHanded_of_calls own started noInit witness ?_
 intro w tape i _ hsh _ hok hpre _
 obtain ⟨_, _, _, fn', hfn', _, _, _, _, hval⟩ := hok
 have e : fn' = fn := Option.some.inj (hfn'.symm.trans hfn)
 subst e
 obtain ⟨⟨⟨ds, gs, before, hw, hc⟩, hx⟩, hz⟩ := hpre
 have hw' := DataW.Whole.of_heap (w' := w.forCall tape i) (by rfl) hw
 refine (contract (w.forCall tape i) w.heap.size i.args ds gs before hval hw' (hX _ _ _ (by rfl) hx) hsh).mono fun e W' ⟨v, he, hp⟩ => ?_
 subst he
 exact ChangeSpec.post_blind hp
theorem m6 {W : World} (hS : W.ShapedOpen Tryz.prog) (hL : laidMetH Tryz.prog Rows.fnExactDownsOfRow.laid W) : fH.ok W [] := by
 rw [MakeChecks.laidMetH_plain _ _ _ (by kernel_rfl)] at hL
 refine ⟨?_, fun b h => (by cases h), ?_, ?_⟩
 ·obtain ⟨x, hx⟩ := Option.isSome_iff_exists.1 (show (((begin Tryz.prog (fun _ _ => 0) default).world.heap[5]?).bind Obj.row?).isSome = true by kernel_rfl)
  obtain ⟨cs, hh, _⟩ := hS.1 5 x.1 x.2 (of_decide_eq_true (by kernel_rfl)) hx
  have hn : fH.n = 6 := by show Tryz.prog.globals.size = 6; kernel_rfl
  rw [hn]
  rcases Nat.lt_or_ge 5 W.heap.size with g | g
  ·exact g
  ·rw [Array.getElem?_eq_none g] at hh; cases hh
 ·exact cell_of_shapedOpen_int (t := 3) (zero := #[.int .i64 0]) hS (of_decide_eq_true (by kernel_rfl)) (by kernel_rfl) rfl (by kernel_rfl) (by kernel_rfl) Tryz.underlying3
 ·have e : Rows.laid_internal_strconv_uint64pow10 (H := Unit) = Lib.tabData .u64 Lib.pow10Tab := by kernel_rfl
  refine Lib.tabIs_of_head (rest := Rows.fnExactDownsOfRow.laid.drop 3) (g := 0) (t := 151) (e := 117) (n := 20) (by kernel_rfl) (by kernel_rfl) Tryz.underlying151 (by kernel_rfl) (by kernel_rfl) (by kernel_rfl) ?_
  rw [← e]
  exact hL.tail.tail
set_option maxRecDepth 100000 in
theorem pL (os : Os) (started : os.Started) (H : Type) (enc : TypeId × Value → H) :
  ReturnsInHanded {} Tryz.checked os 7 .any (fun w args => (Rows.fnExactDownsOfSpec.pre enc Tryz.prog Tryz.f7 Rows.fnExactDownsOfRow.domain false w args ∧ laidMetH Tryz.prog Rows.fnExactDownsOfRow.laid w) ∧ sizedMet enc Tryz.prog Tryz.f7 (OpenSpec.ofChange Rows.fnExactDownsOfSpec) false w args)
   (Rows.fnExactDownsOfSpec.post enc Tryz.prog Tryz.f7 false true false false) := by
 refine iM (C := Tryz.checked) (X := fun w _ => laidMetH Tryz.prog Rows.fnExactDownsOfRow.laid w) (fun _ _ _ hh h => h.of_heap hh) own started (by kernel_rfl) Tryz.func7
  (ChangeSpec.witness_shaped (enc := enc) (C := Tryz.checked) (os := os) (X := fun w _ => laidMetH Tryz.prog Rows.fnExactDownsOfRow.laid w) false (World.laidAll Tryz.prog os Rows.fnExactDownsOfRow.laid) #[.agg #[.string ByteArray.empty, .string ByteArray.empty, .int .i64 0, .int .i64 0, .bool false, .slice none 0 0], .int .i64 0] 8 (World.laidAll_os _ _ _)
   (World.shaped_of_ZipB (by kernel_rfl) (by kernel_rfl)) (by kernel_rfl) (by kernel_rfl) (by kernel_rfl)
   (by rw [MakeChecks.laidMetH_plain _ _ _ (by kernel_rfl)]; exact laidMet_laidAll _ (by kernel_rfl) (by kernel_rfl))) ?_
 intro W base args ds gs before hval0 hW hL hS
 have hB := m6 hS hL
 have hval : ∀ (j : Nat) t v, Tryz.f7.params[j]? = some t → args[j]? = some v → Value.okWide Tryz.prog W .any base t v := hval0
 have hW' := hW
 obtain ⟨p, q, hA0, hV, rfl, hfz, hnd⟩ := hW
 have hA : DataW.TrodAll enc Tryz.prog W 0 (fun _ => true) true Tryz.f7.params.toList args.toList ds p := hA0
 rw [Tryz.params7] at hA hval
 have hlt := hA.lt
 obtain ⟨v0, vs0, d0, ds0, p0, q0, hargs, rfl, rfl, h0, r0⟩ := trodAll_cons hA
 obtain ⟨v1, vs1, d1, ds1, p1, q1, hargs1, rfl, rfl, h1, r1⟩ := trodAll_cons r0
 obtain ⟨rfl, rfl, rfl⟩ := trodAll_nil r1
 obtain rfl : args = #[v0, v1] := by cases args; simp_all
 obtain ⟨rfl, rfl⟩ := trodVars_none hV
 have hok0 := hval 0 24 v0 rfl rfl
 unfold Value.okWide at hok0
 rw [Tryz.underlying24] at hok0
 obtain ⟨cs0, rfl, _, _⟩ := hok0
 have h0k := h0
 obtain ⟨n0, h0⟩ := h0
 obtain ⟨ts0, R0, S0, L0⟩ := Ty.open dq n0 24 _ _ (by kernel_rfl) h0
 obtain ⟨x0, e0, k0⟩ := j9 S0
 obtain ⟨x1, rfl, rfl, rfl, k1⟩ := open_int Tryz.underlying3 (hval 1 3 v1 rfl rfl) h1
 clear hA0 hval0
 refine (F6 (zR x0 x1 k0) hB (ad := [.agg ts0, .one (.v (.int .i64 x1))]) (by simp only [List.map_cons, List.map_nil, Sl.er, cA, aB]; rw [e0]) (ArgsIn.cons (AOk.agg R0 (Shape.noLent dq _ S0)) (ArgsIn.cons (AOk.one (t := .v (.int .i64 x1)) (Reads.val rfl) rfl) (ArgsIn.nil W)))).mono fun e W' ⟨he, bel⟩ => ?_
 subst he
 exact ⟨_, rfl, _, _, _, [], _, [], hW', trodAll_mk1 (shut_bool Tryz.underlying4 _), (trodAll_cons_mk (Below.trod laid (by kernel_rfl) (of_decide_eq_true (by kernel_rfl)) h0k bel (fun x hx => hlt x (by simp [hx]))) (trodAll_cons_mk (shut_int Tryz.underlying3 k1) trodAll_mk0)), rfl, bel.frame _, fun h => by cases h⟩
theorem wA : Rows.fnExactDownsOfRow.holds Tryz.pinned (OpenSpec.ofChange Rows.fnExactDownsOfSpec) :=
 OpenClaim.holds_of_wide 7 Tryz.f7 rfl rfl rfl rfl rfl rfl rfl ⟨rfl, rfl, rfl, rfl, rfl⟩ rfl rfl rfl rfl rfl (by kernel_rfl) Tryz.func7 (by kernel_rfl)
  (of_decide_eq_true (by kernel_rfl)) (by unfold Func.isWrapper; first | (rw [if_pos (by decide +kernel)]; kernel_rfl) | (rw [if_neg (by decide +kernel)]; exact ⟨rfl, rfl⟩))
  (fun os started H enc _ => pL os started H enc)
theorem proved : Rows.FnExactDownsOfCardSaid :=
 Claim7.holds_tied_plain_at .later [] [.data, .data, .data, .data, .pinned] true (true, "5d2d9a259d95ac017517471e890a3483be5bccce4816c56c5b0c681b7087e1c6") false wA (fun _ h => by cases h) (by kernel_rfl) (fun _ h => by cases h) fnExactDownsOf_row_tie rfl ⟨rfl, rfl⟩ (by kernel_rfl) rfl
  (fun f fn hf hfn => by
   obtain rfl : f = 7 := Option.some.inj ((show Tryz.prog.funcNamed "loop.example/g00188/laws.FnExactDownsOf" = some 7 by kernel_rfl).symm.trans hf) |>.symm
   obtain rfl : fn = Tryz.f7 := (Option.some.inj (Tryz.func7.symm.trans hfn)).symm
   exact ⟨by kernel_rfl, fun j t ht => by
    rw [Tryz.params7] at ht
    have hm : t ∈ [24, 3] := by simpa using Array.mem_of_getElem? ht
    have hall : ([24, 3].all fun u => !Tryz.prog.wantsStandIn u) = true := by kernel_rfl
    exact (show Tryz.prog.wantsStandIn t = false by simpa using List.all_eq_true.1 hall t hm)⟩)
  (by kernel_rfl)
end Go.Proofs.YtjfbofdmjihglaaGreatDoor.fnExactDownsOf
namespace Go.Proofs.YtjfbofdmjihglaaGreatDoor
theorem fnExactDownsOf_holds : Rows.FnExactDownsOfCardSaid := fnExactDownsOf.proved
end Go.Proofs.YtjfbofdmjihglaaGreatDoor
