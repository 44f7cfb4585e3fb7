/- 'laws.FnExactHeightOf' returns true for every plan, and leaves the plan as it was. Conditions: none. -/
import Derived.Test.YtjfbofdmjihglaaGreatDoorUps
import Derived.Test.YtjfbofdmjihglaaGreatDoorRows
import Derived.Test.YtjfbofdmjihglaaGreatDoorCards
import Derived.Test.YtjfbofdmjihglaaGreatDoorTie
import Derived.WalkKit
import Derived.ProofKit
import Derived.OpenShut
import Derived.ShutString
import Derived.ChangeOld
import Derived.Below
import Derived.SizedLaws
import Derived.Lay
import Derived.LaidMore
import Derived.SevenTiedAt
import Derived.Stop.Joined
import Derived.Stop.LaidErr
import Derived.Lib.LaidTab
import Derived.Shelf.Vars
import Derived.HandedShaped
namespace Go.Proofs.YtjfbofdmjihglaaGreatDoor.Am
open Go Go.Proofs Classical
set_option maxRecDepth 100000
set_option linter.unusedVariables false
set_option linter.unusedSimpArgs false
inductive s8 where
 | x2 (v4 : List Int)
def gp (q0 : Kd) (v1_0 v1_1 : ByteArray) (v1_2 v1_3 : Int) (v1_4 : Bool) (v1_5 : List GTask) (v3 v4 : List Int) (v5 v6 v7 : Int) (v8 : List Int) (v9 : Int) : US := stL 72 [(1, .box () [tS v1_0, tS v1_1, tI v1_2, tI v1_3, tB v1_4, .s .far () 5 (v1_5.map (GTask.t q0))]), (3, .one (.s .own () 1 (v3.map etI))), (4, .one (.s .own () 1 (v4.map etI))), (5, .one (tI v5)), (6, .one (tI v6)), (7, .one (tI v7)), (8, .one (.s .own () 1 (v8.map etI))), (9, .one (tI v9))]
def jB (q0 : Kd) (v1_0 v1_1 : ByteArray) (v1_2 v1_3 : Int) (v1_4 : Bool) (v1_5 : List GTask) (v3 : List Int) (v5 v6 v7 : Int) (zv4 : List Int) : US := stL 72 [(1, .box () [tS v1_0, tS v1_1, tI v1_2, tI v1_3, tB v1_4, .s .far () 5 (v1_5.map (GTask.t q0))]), (3, .one (.s .own () 1 (v3.map etI))), (4, .one (.s .own () 1 (zv4.map etI))), (5, .one (tI v5)), (6, .one (tI v6)), (7, .one (tI v7))]
abbrev ou : US → Exit → US → Prop := Round E 9 (aw Tryz.f9 1)
def Ah {q0 : Kd} (v1_0 v1_1 : ByteArray) (v1_2 v1_3 : Int) (v1_4 : Bool) (v1_5 : List GTask) (v3 v4 : List Int) (v5 v6 v7 : Int) (v8 : List Int) (v9 : Int) : s8 → Prop
 | .x2 zv4 => Loops E 9 (aw Tryz.f9 1) (gp q0 v1_0 v1_1 v1_2 v1_3 v1_4 v1_5 v3 v4 v5 v6 v7 v8 v9) (.exit 2) (jB q0 v1_0 v1_1 v1_2 v1_3 v1_4 v1_5 v3 v5 v6 v7 zv4)
noncomputable def eA (v7 : Int) : List Int → Nat → Bool → (List Int) → Option s8
 | [], i, v1_4, v4 => some (.x2 v4)
 | hd :: rest, i, v1_4, v4 => (aD v4 hd).bind fun g1 => (aD v4 v7).bind fun g2 => cond (decide ((inc g1) > g2))
  (eA v7 rest (i + 1) v1_4 (v4.set v7.toNat (inc g1)))
  (eA v7 rest (i + 1) v1_4 v4)
theorem Af {q0 : Kd} (v1_0 v1_1 : ByteArray) (v1_2 v1_3 : Int) (v1_5 : List GTask) (v3 : List Int) (v5 v6 v7 : Int) (v8 : List Int) (rest : List Int) : ∀ (i : Nat) (v1_4 : Bool) (v4 : List Int), (v8).drop i = rest → v8.length ≤ 9223372036854775807 → Ans (eA v7 rest i v1_4 v4) (Ah (q0 := q0) v1_0 v1_1 v1_2 v1_3 v1_4 v1_5 v3 v4 v5 v6 v7 v8 (i : Int)) := by
 induction rest with
 | nil =>
  intro i v1_4 v4 hE hl
  have hb := bd hE
  unfold eA
  exact KL (KN (show ou (gp q0 v1_0 v1_1 v1_2 v1_3 v1_4 v1_5 v3 v4 v5 v6 v7 v8 (i : Int)) (.exit 2) (jB q0 v1_0 v1_1 v1_2 v1_3 v1_4 v1_5 v3 v5 v6 v7 v4) from KJ [.val (.int .i64 (v8.length : Int)), .b false] _ (fun k => by kernel_rfl) (ALn v8 etI <| AC hb <| AN)) (by intro h; cases h))
 | cons hd rest ih =>
  intro i v1_4 v4 hE hl
  have hb := aQ hE
  have hw := aR hE hl
  have hE2 := aF hE
  have hg := aS hE
  unfold eA
  refine KP (fun g1 h2 => ?_)
  refine KP (fun g2 h3 => ?_)
  refine KO (fun h4 => ?_) (fun h4 => ?_)
  ·exact (ih (i + 1) v1_4 (v4.set v7.toNat (inc g1)) hE2 hl).mono fun y hy => by have r : ou (gp q0 v1_0 v1_1 v1_2 v1_3 v1_4 v1_5 v3 v4 v5 v6 v7 v8 (i : Int)) .normal (gp q0 v1_0 v1_1 v1_2 v1_3 v1_4 v1_5 v3 (v4.set v7.toNat (inc g1)) v5 v6 v7 v8 (inc (i : Int))) := KJ [.val (.int .i64 (v8.length : Int)), .b true, .row (etI hd), .row (etI g1), .row (etI g2), .b true, .row (etI hd), .row (etI g1), .row (etI g2), .rows ((v4.set v7.toNat (inc g1)).map etI)] _ (fun k => by kernel_rfl) (ALn v8 etI <| AC hb <| AG etI hg <| AG etI h2 <| AG etI h3 <| AC h4 <| AG etI hg <| AG etI h2 <| AG etI h3 <| AC (p := (v4.map etI).set (0 + v7.toNat) (av (etI g2) 0 [tI (inc g1)]) = (v4.set v7.toNat (inc g1)).map etI) (cI (by rfl)) <| AN); rw [hw] at r; cases y <;> exact KM r hy
  ·exact (ih (i + 1) v1_4 v4 hE2 hl).mono fun y hy => by have r : ou (gp q0 v1_0 v1_1 v1_2 v1_3 v1_4 v1_5 v3 v4 v5 v6 v7 v8 (i : Int)) .normal (gp q0 v1_0 v1_1 v1_2 v1_3 v1_4 v1_5 v3 v4 v5 v6 v7 v8 (inc (i : Int))) := KJ [.val (.int .i64 (v8.length : Int)), .b true, .row (etI hd), .row (etI g1), .row (etI g2), .b false] _ (fun k => by kernel_rfl) (ALn v8 etI <| AC hb <| AG etI hg <| AG etI h2 <| AG etI h3 <| AC h4 <| AN); rw [hw] at r; cases y <;> exact KM r hy
inductive s7 where
 | x0 (v5 : Int)
def gn (q0 : Kd) (v1_0 v1_1 : ByteArray) (v1_2 v1_3 : Int) (v1_4 : Bool) (v1_5 : List GTask) (v3 v4 : List Int) (v5 v6 : Int) : US := stL 72 [(1, .box () [tS v1_0, tS v1_1, tI v1_2, tI v1_3, tB v1_4, .s .far () 5 (v1_5.map (GTask.t q0))]), (3, .one (.s .own () 1 (v3.map etI))), (4, .one (.s .own () 1 (v4.map etI))), (5, .one (tI v5)), (6, .one (tI v6))]
def mK (q0 : Kd) (zv5 : Int) : US := stL 72 [(5, .one (tI zv5))]
abbrev ot : US → Exit → US → Prop := Round E 9 (aw Tryz.f9 0)
def Ag {q0 : Kd} (v1_0 v1_1 : ByteArray) (v1_2 v1_3 : Int) (v1_4 : Bool) (v1_5 : List GTask) (v3 v4 : List Int) (v5 v6 : Int) : s7 → Prop
 | .x0 zv5 => Loops E 9 (aw Tryz.f9 0) (gn q0 v1_0 v1_1 v1_2 v1_3 v1_4 v1_5 v3 v4 v5 v6) (.exit 0) (mK q0 zv5)
noncomputable def ez (v1_0 v1_1 : ByteArray) (v1_2 v1_3 : Int) (v1_5 : List GTask) : List Int → Nat → Bool → (List Int) → Int → Option s7
 | [], i, v1_4, v4, v5 => some (.x0 v5)
 | hd :: rest, i, v1_4, v4, v5 => (aD v4 hd).bind fun g1 => if an.sm (GDag.mk v1_0 v1_1 v1_2 v1_3 v1_4 v1_5) then if bE (GDag.mk v1_0 v1_1 v1_2 v1_3 v1_4 v1_5) = true then if 0 ≤ hd ∧ hd < ((GDag.mk v1_0 v1_1 v1_2 v1_3 v1_4 v1_5).f5.length : Int) then if (ups (GDag.mk v1_0 v1_1 v1_2 v1_3 v1_4 v1_5) hd).length ≤ 9223372036854775807 then (eA hd (ups (GDag.mk v1_0 v1_1 v1_2 v1_3 v1_4 v1_5) hd) 0 v1_4 (v4.set hd.toNat (1 : Int))).bind fun y => match y with
  | .x2 w0_4 => ((aD w0_4 hd).bind fun g2 => cond (decide (g2 > v5))
   (ez v1_0 v1_1 v1_2 v1_3 v1_5 rest (i + 1) v1_4 w0_4 g2)
   (ez v1_0 v1_1 v1_2 v1_3 v1_5 rest (i + 1) v1_4 w0_4 v5)) else none else none else none else none
theorem Ae {q0 : Kd} (v1_0 v1_1 : ByteArray) (v1_2 v1_3 : Int) (v1_5 : List GTask) (v3 : List Int) (rest : List Int) : ∀ (i : Nat) (v1_4 : Bool) (v4 : List Int) (v5 : Int), (v3).drop i = rest → v3.length ≤ 9223372036854775807 → Ans (ez v1_0 v1_1 v1_2 v1_3 v1_5 rest i v1_4 v4 v5) (Ag (q0 := q0) v1_0 v1_1 v1_2 v1_3 v1_4 v1_5 v3 v4 v5 (i : Int)) := by
 induction rest with
 | nil =>
  intro i v1_4 v4 v5 hE hl
  have hb := bd hE
  unfold ez
  exact KL (KN (show ot (gn q0 v1_0 v1_1 v1_2 v1_3 v1_4 v1_5 v3 v4 v5 (i : Int)) (.exit 0) (mK q0 v5) from KJ [.val (.int .i64 (v3.length : Int)), .b false] _ (fun k => by kernel_rfl) (ALn v3 etI <| AC hb <| AN)) (by intro h; cases h))
 | cons hd rest ih =>
  intro i v1_4 v4 v5 hE hl
  have hb := aQ hE
  have hw := aR hE hl
  have hE2 := aF hE
  have hg := aS hE
  unfold ez
  refine KP (fun g1 h2 => ?_)
  refine KQ (fun h3 => ?_)
  refine KQ (fun h4 => ?_)
  refine KQ (fun h5 => ?_)
  refine KQ (fun hl2 => ?_)
  refine KP (fun y hy => ?_)
  replace hy := Af (q0 := q0) v1_0 v1_1 v1_2 v1_3 v1_5 v3 v5 (i : Int) hd (ups (GDag.mk v1_0 v1_1 v1_2 v1_3 v1_4 v1_5) hd) (ups (GDag.mk v1_0 v1_1 v1_2 v1_3 v1_4 v1_5) hd) 0 v1_4 (v4.set hd.toNat (1 : Int)) rfl hl2 y hy
  cases y with
  | x2 w0_4 =>
   have h6 := hy
   refine KP (fun g2 h7 => ?_)
   refine KO (fun h8 => ?_) (fun h8 => ?_)
   ·exact (ih (i + 1) v1_4 w0_4 g2 hE2 hl).mono fun y hy => by have r : ot (gn q0 v1_0 v1_1 v1_2 v1_3 v1_4 v1_5 v3 v4 v5 (i : Int)) .normal (gn q0 v1_0 v1_1 v1_2 v1_3 v1_4 v1_5 v3 w0_4 g2 (inc (i : Int))) := KJ [.val (.int .i64 (v3.length : Int)), .b true, .row (etI hd), .row (etI g1), .rows ((v4.set hd.toNat (1 : Int)).map etI), .ret [(false, [.s .own () 1 ((ups (GDag.mk v1_0 v1_1 v1_2 v1_3 v1_4 v1_5) hd).map etI)])], .lp (.exit 2) (jB q0 v1_0 v1_1 v1_2 v1_3 v1_4 v1_5 v3 v5 (i : Int) hd w0_4), .row (etI g2), .b true, .row (etI g2)] _ (fun k => by kernel_rfl) (ALn v3 etI <| AC hb <| AG etI hg <| AG etI h2 <| AC (p := (v4.map etI).set (0 + hd.toNat) (av (etI g1) 0 [tI (1 : Int)]) = (v4.set hd.toNat (1 : Int)).map etI) (cI (by rfl)) <| AV (ψ := fun k => E.C k 26 [.agg (GDag.t .far q0 (GDag.mk v1_0 v1_1 v1_2 v1_3 v1_4 v1_5)), .one (tI hd)] = some [(false, [.s .own () 1 ((ups (GDag.mk v1_0 v1_1 v1_2 v1_3 v1_4 v1_5) hd).map etI)])]) (oF (GDag.mk v1_0 v1_1 v1_2 v1_3 v1_4 v1_5) hd h3 h4 h5) <| AL h6 <| AG etI h7 <| AC h8 <| AG etI h7 <| AN); rw [hw] at r; cases y <;> exact KM r hy
   ·exact (ih (i + 1) v1_4 w0_4 v5 hE2 hl).mono fun y hy => by have r : ot (gn q0 v1_0 v1_1 v1_2 v1_3 v1_4 v1_5 v3 v4 v5 (i : Int)) .normal (gn q0 v1_0 v1_1 v1_2 v1_3 v1_4 v1_5 v3 w0_4 v5 (inc (i : Int))) := KJ [.val (.int .i64 (v3.length : Int)), .b true, .row (etI hd), .row (etI g1), .rows ((v4.set hd.toNat (1 : Int)).map etI), .ret [(false, [.s .own () 1 ((ups (GDag.mk v1_0 v1_1 v1_2 v1_3 v1_4 v1_5) hd).map etI)])], .lp (.exit 2) (jB q0 v1_0 v1_1 v1_2 v1_3 v1_4 v1_5 v3 v5 (i : Int) hd w0_4), .row (etI g2), .b false] _ (fun k => by kernel_rfl) (ALn v3 etI <| AC hb <| AG etI hg <| AG etI h2 <| AC (p := (v4.map etI).set (0 + hd.toNat) (av (etI g1) 0 [tI (1 : Int)]) = (v4.set hd.toNat (1 : Int)).map etI) (cI (by rfl)) <| AV (ψ := fun k => E.C k 26 [.agg (GDag.t .far q0 (GDag.mk v1_0 v1_1 v1_2 v1_3 v1_4 v1_5)), .one (tI hd)] = some [(false, [.s .own () 1 ((ups (GDag.mk v1_0 v1_1 v1_2 v1_3 v1_4 v1_5) hd).map etI)])]) (oF (GDag.mk v1_0 v1_1 v1_2 v1_3 v1_4 v1_5) hd h3 h4 h5) <| AL h6 <| AG etI h7 <| AC h8 <| AN); rw [hw] at r; cases y <;> exact KM r hy
noncomputable def iq (x0 : GDag) : Option (Int) :=
  if an.sm x0 then if 0 ≤ ((ah x0).length : Int) ∧ ((ah x0).length : Int) ≤ ((ah x0).length : Int) ∧ ((8 : Nat) : Int) * ((ah x0).length : Int) ≤ 281474976710656 ∧ ((ah x0).length : Int) ≤ 4611686018427387904 then if (ah x0).length ≤ 9223372036854775807 then (ez x0.f0 x0.f1 x0.f2 x0.f3 x0.f5 (ah x0) 0 x0.f4 (List.replicate ((ah x0).length : Int).toNat (0 : Int)) (0 : Int)).bind fun y => match y with
   | .x0 w0_5 => (some (w0_5)) else none else none else none
theorem Cy {q0 : Kd} (x0 : GDag) : Ans (iq x0) (fun r => Does E 9 [.agg (GDag.t .far q0 x0)] [(false, [tI r])]) := by
 unfold iq
 refine KQ (fun h0 => ?_)
 refine KQ (fun h1 => ?_)
 refine KQ (fun hl1 => ?_)
 refine KP (fun y hy => ?_)
 replace hy := Ae (q0 := q0) x0.f0 x0.f1 x0.f2 x0.f3 x0.f5 (ah x0) (ah x0) 0 x0.f4 (List.replicate ((ah x0).length : Int).toNat (0 : Int)) (0 : Int) rfl hl1 y hy
 cases y with
 | x0 w0_5 =>
  have h2 := hy
  exact KL (KK (fn := Tryz.f9) [.ret [(false, [.s .own () 1 ((ah x0).map etI)])], .val (.int .i64 ((ah x0).length : Int)), .rows ((List.replicate ((ah x0).length : Int).toNat (0 : Int)).map etI), .lp (.exit 0) (mK q0 w0_5)] _ rfl (fun _ => rfl) (fun k => by kernel_rfl) (AV (ψ := fun k => E.C k 15 [.agg (GDag.t .far q0 x0)] = some [(false, [.s .own () 1 ((ah x0).map etI)])]) (gP x0 h0) <| ALn (ah x0) etI <| AC h1 <| AC (p := List.replicate ((ah x0).length : Int).toNat [tI (0 : Int)] = (List.replicate ((ah x0).length : Int).toNat (0 : Int)).map etI) (mG rfl) <| AL h2 <| AN))
inductive sQ where
 | x2 (v4 : List Int)
def lc (q0 : Kd) (v1_0 v1_1 : ByteArray) (v1_2 v1_3 : Int) (v1_4 : Bool) (v1_5 : List GTask) (v3 : Int) (v4 : List Int) (v6 : Int) (v17 : List Int) (v18 v19 : Int) (v28 : List Int) (v29 v30 : Int) : US := stL 56 [(1, .box () [tS v1_0, tS v1_1, tI v1_2, tI v1_3, tB v1_4, .s .far () 5 (v1_5.map (GTask.t q0))]), (3, .one (tI v3)), (4, .one (.s .own () 1 (v4.map etI))), (6, .one (tI v6)), (17, .one (.s .own () 1 (v17.map etI))), (18, .one (tI v18)), (19, .one (tI v19)), (28, .one (.s .own () 1 (v28.map etI))), (29, .one (tI v29)), (30, .one (tI v30))]
def mm (q0 : Kd) (v1_0 v1_1 : ByteArray) (v1_2 v1_3 : Int) (v1_4 : Bool) (v1_5 : List GTask) (v3 v6 : Int) (v17 : List Int) (v18 v19 : Int) (zv4 : List Int) : US := stL 56 [(1, .box () [tS v1_0, tS v1_1, tI v1_2, tI v1_3, tB v1_4, .s .far () 5 (v1_5.map (GTask.t q0))]), (3, .one (tI v3)), (4, .one (.s .own () 1 (zv4.map etI))), (6, .one (tI v6)), (17, .one (.s .own () 1 (v17.map etI))), (18, .one (tI v18)), (19, .one (tI v19))]
abbrev sO : US → Exit → US → Prop := Round E 11 (aw Tryz.f11 1)
def zQ {q0 : Kd} (v1_0 v1_1 : ByteArray) (v1_2 v1_3 : Int) (v1_4 : Bool) (v1_5 : List GTask) (v3 : Int) (v4 : List Int) (v6 : Int) (v17 : List Int) (v18 v19 : Int) (v28 : List Int) (v29 v30 : Int) : sQ → Prop
 | .x2 zv4 => Loops E 11 (aw Tryz.f11 1) (lc q0 v1_0 v1_1 v1_2 v1_3 v1_4 v1_5 v3 v4 v6 v17 v18 v19 v28 v29 v30) (.exit 2) (mm q0 v1_0 v1_1 v1_2 v1_3 v1_4 v1_5 v3 v6 v17 v18 v19 zv4)
noncomputable def fk (v6 : Int) : List Int → Nat → Bool → (List Int) → Option sQ
 | [], i, v1_4, v4 => some (.x2 v4)
 | hd :: rest, i, v1_4, v4 => (aD v4 v6).bind fun g1 => (aD v4 hd).bind fun g2 => fk v6 rest (i + 1) v1_4 (v4.set v6.toNat (kR g1 (inc g2)))
theorem zO {q0 : Kd} (v1_0 v1_1 : ByteArray) (v1_2 v1_3 : Int) (v1_5 : List GTask) (v3 v6 : Int) (v17 : List Int) (v18 v19 : Int) (v28 : List Int) (rest : List Int) : ∀ (i : Nat) (v1_4 : Bool) (v4 : List Int), (v28).drop i = rest → v28.length ≤ 9223372036854775807 → Ans (fk v6 rest i v1_4 v4) (zQ (q0 := q0) v1_0 v1_1 v1_2 v1_3 v1_4 v1_5 v3 v4 v6 v17 v18 v19 v28 (v28.length : Int) (i : Int)) := by
 induction rest with
 | nil =>
  intro i v1_4 v4 hE hl
  have hb := bd hE
  unfold fk
  exact KL (KN (show sO (lc q0 v1_0 v1_1 v1_2 v1_3 v1_4 v1_5 v3 v4 v6 v17 v18 v19 v28 (v28.length : Int) (i : Int)) (.exit 2) (mm q0 v1_0 v1_1 v1_2 v1_3 v1_4 v1_5 v3 v6 v17 v18 v19 v4) from KJ [.b false] _ (fun k => by kernel_rfl) (AC hb <| AN)) (by intro h; cases h))
 | cons hd rest ih =>
  intro i v1_4 v4 hE hl
  have hb := aQ hE
  have hw := aR hE hl
  have hE2 := aF hE
  have hg := aS hE
  unfold fk
  refine KP (fun g1 h2 => ?_)
  refine KP (fun g2 h3 => ?_)
  exact (ih (i + 1) v1_4 (v4.set v6.toNat (kR g1 (inc g2))) hE2 hl).mono fun y hy => by have r : sO (lc q0 v1_0 v1_1 v1_2 v1_3 v1_4 v1_5 v3 v4 v6 v17 v18 v19 v28 (v28.length : Int) (i : Int)) .normal (lc q0 v1_0 v1_1 v1_2 v1_3 v1_4 v1_5 v3 (v4.set v6.toNat (kR g1 (inc g2))) v6 v17 v18 v19 v28 (v28.length : Int) (inc (i : Int))) := KJ [.b true, .row (etI hd), .row (etI g1), .row (etI g2), .no, .val (.int .i64 (kR g1 (inc g2))), .row (etI g1), .rows ((v4.set v6.toNat (kR g1 (inc g2))).map etI)] _ (fun k => by kernel_rfl) (AC hb <| AG etI hg <| AG etI h2 <| AG etI h3 <| AC (p := (if (inc g2) > g1 then (inc g2) else g1) = kR g1 (inc g2)) rfl <| AG etI h2 <| AC (p := (v4.map etI).set (0 + v6.toNat) (av (etI g1) 0 [tI (kR g1 (inc g2))]) = (v4.set v6.toNat (kR g1 (inc g2))).map etI) (cI (by rfl)) <| AN); rw [hw] at r; cases y <;> exact KM r hy
inductive sP where
 | x0 (v3 : Int)
def lb (q0 : Kd) (v1_0 v1_1 : ByteArray) (v1_2 v1_3 : Int) (v1_4 : Bool) (v1_5 : List GTask) (v3 : Int) (v4 v17 : List Int) (v18 v19 : Int) : US := stL 56 [(1, .box () [tS v1_0, tS v1_1, tI v1_2, tI v1_3, tB v1_4, .s .far () 5 (v1_5.map (GTask.t q0))]), (3, .one (tI v3)), (4, .one (.s .own () 1 (v4.map etI))), (17, .one (.s .own () 1 (v17.map etI))), (18, .one (tI v18)), (19, .one (tI v19))]
def ml (q0 : Kd) (zv3 : Int) : US := stL 56 [(3, .one (tI zv3))]
abbrev sN : US → Exit → US → Prop := Round E 11 (aw Tryz.f11 0)
def zP {q0 : Kd} (v1_0 v1_1 : ByteArray) (v1_2 v1_3 : Int) (v1_4 : Bool) (v1_5 : List GTask) (v3 : Int) (v4 v17 : List Int) (v18 v19 : Int) : sP → Prop
 | .x0 zv3 => Loops E 11 (aw Tryz.f11 0) (lb q0 v1_0 v1_1 v1_2 v1_3 v1_4 v1_5 v3 v4 v17 v18 v19) (.exit 0) (ml q0 zv3)
noncomputable def fj (v1_0 v1_1 : ByteArray) (v1_2 v1_3 : Int) (v1_5 : List GTask) : List Int → Nat → Bool → Int → (List Int) → Option sP
 | [], i, v1_4, v3, v4 => some (.x0 v3)
 | hd :: rest, i, v1_4, v3, v4 => (aD v4 hd).bind fun g1 => if an.sm (GDag.mk v1_0 v1_1 v1_2 v1_3 v1_4 v1_5) then if bE (GDag.mk v1_0 v1_1 v1_2 v1_3 v1_4 v1_5) = true then if 0 ≤ hd ∧ hd < ((GDag.mk v1_0 v1_1 v1_2 v1_3 v1_4 v1_5).f5.length : Int) then if (ups (GDag.mk v1_0 v1_1 v1_2 v1_3 v1_4 v1_5) hd).length ≤ 9223372036854775807 then (fk hd (ups (GDag.mk v1_0 v1_1 v1_2 v1_3 v1_4 v1_5) hd) 0 v1_4 (v4.set hd.toNat (1 : Int))).bind fun y => match y with
  | .x2 w0_4 => ((aD w0_4 hd).bind fun g2 => fj v1_0 v1_1 v1_2 v1_3 v1_5 rest (i + 1) v1_4 (kR v3 g2) w0_4) else none else none else none else none
theorem zN {q0 : Kd} (v1_0 v1_1 : ByteArray) (v1_2 v1_3 : Int) (v1_5 : List GTask) (v17 : List Int) (rest : List Int) : ∀ (i : Nat) (v1_4 : Bool) (v3 : Int) (v4 : List Int), (v17).drop i = rest → v17.length ≤ 9223372036854775807 → Ans (fj v1_0 v1_1 v1_2 v1_3 v1_5 rest i v1_4 v3 v4) (zP (q0 := q0) v1_0 v1_1 v1_2 v1_3 v1_4 v1_5 v3 v4 v17 (v17.length : Int) (i : Int)) := by
 induction rest with
 | nil =>
  intro i v1_4 v3 v4 hE hl
  have hb := bd hE
  unfold fj
  exact KL (KN (show sN (lb q0 v1_0 v1_1 v1_2 v1_3 v1_4 v1_5 v3 v4 v17 (v17.length : Int) (i : Int)) (.exit 0) (ml q0 v3) from KJ [.b false] _ (fun k => by kernel_rfl) (AC hb <| AN)) (by intro h; cases h))
 | cons hd rest ih =>
  intro i v1_4 v3 v4 hE hl
  have hb := aQ hE
  have hw := aR hE hl
  have hE2 := aF hE
  have hg := aS hE
  unfold fj
  refine KP (fun g1 h2 => ?_)
  refine KQ (fun h3 => ?_)
  refine KQ (fun h4 => ?_)
  refine KQ (fun h5 => ?_)
  refine KQ (fun hl2 => ?_)
  refine KP (fun y hy => ?_)
  replace hy := zO (q0 := q0) v1_0 v1_1 v1_2 v1_3 v1_5 v3 hd v17 (v17.length : Int) (i : Int) (ups (GDag.mk v1_0 v1_1 v1_2 v1_3 v1_4 v1_5) hd) (ups (GDag.mk v1_0 v1_1 v1_2 v1_3 v1_4 v1_5) hd) 0 v1_4 (v4.set hd.toNat (1 : Int)) rfl hl2 y hy
  cases y with
  | x2 w0_4 =>
   have h6 := hy
   refine KP (fun g2 h7 => ?_)
   exact (ih (i + 1) v1_4 (kR v3 g2) w0_4 hE2 hl).mono fun y hy => by have r : sN (lb q0 v1_0 v1_1 v1_2 v1_3 v1_4 v1_5 v3 v4 v17 (v17.length : Int) (i : Int)) .normal (lb q0 v1_0 v1_1 v1_2 v1_3 v1_4 v1_5 (kR v3 g2) w0_4 v17 (v17.length : Int) (inc (i : Int))) := KJ [.b true, .row (etI hd), .row (etI g1), .rows ((v4.set hd.toNat (1 : Int)).map etI), .ret [(false, [.s .own () 1 ((ups (GDag.mk v1_0 v1_1 v1_2 v1_3 v1_4 v1_5) hd).map etI)])], .val (.int .i64 ((ups (GDag.mk v1_0 v1_1 v1_2 v1_3 v1_4 v1_5) hd).length : Int)), .lp (.exit 2) (mm q0 v1_0 v1_1 v1_2 v1_3 v1_4 v1_5 v3 hd v17 (v17.length : Int) (i : Int) w0_4), .row (etI g2), .val (.int .i64 (kR v3 g2))] _ (fun k => by kernel_rfl) (AC hb <| AG etI hg <| AG etI h2 <| AC (p := (v4.map etI).set (0 + hd.toNat) (av (etI g1) 0 [tI (1 : Int)]) = (v4.set hd.toNat (1 : Int)).map etI) (cI (by rfl)) <| AV (ψ := fun k => E.C k 30 [.agg (GDag.t .far q0 (GDag.mk v1_0 v1_1 v1_2 v1_3 v1_4 v1_5)), .one (tI hd)] = some [(false, [.s .own () 1 ((ups (GDag.mk v1_0 v1_1 v1_2 v1_3 v1_4 v1_5) hd).map etI)])]) (xN (GDag.mk v1_0 v1_1 v1_2 v1_3 v1_4 v1_5) hd h3 h4 h5) <| ALn (ups (GDag.mk v1_0 v1_1 v1_2 v1_3 v1_4 v1_5) hd) etI <| AL h6 <| AG etI h7 <| AC (p := (if g2 > v3 then g2 else v3) = kR v3 g2) rfl <| AN); rw [hw] at r; cases y <;> exact KM r hy
noncomputable def jP (x0 : GDag) : Option (Int) :=
  if an.sm x0 then cond (bE x0)
   (if 0 ≤ (x0.f5.length : Int) ∧ (x0.f5.length : Int) ≤ (x0.f5.length : Int) ∧ ((8 : Nat) : Int) * (x0.f5.length : Int) ≤ 281474976710656 ∧ (x0.f5.length : Int) ≤ 4611686018427387904 then if b8 x0.f5 then if (bK x0).length ≤ 9223372036854775807 then (fj x0.f0 x0.f1 x0.f2 x0.f3 x0.f5 (bK x0) 0 x0.f4 (0 : Int) (List.replicate (x0.f5.length : Int).toNat (0 : Int))).bind fun y => match y with
    | .x0 w0_3 => (some (w0_3)) else none else none else none)
   (some ((0 : Int))) else none
theorem BD {q0 : Kd} (x0 : GDag) : Ans (jP x0) (fun r => Does E 11 [.agg (GDag.t .far q0 x0)] [(false, [tI r])]) := by
 unfold jP
 refine KQ (fun h0 => ?_)
 refine KO (fun h1 => ?_) (fun h1 => ?_)
 ·refine KQ (fun h2 => ?_)
  refine KQ (fun h3 => ?_)
  refine KQ (fun hl2 => ?_)
  refine KP (fun y hy => ?_)
  replace hy := zN (q0 := q0) x0.f0 x0.f1 x0.f2 x0.f3 x0.f5 (bK x0) (bK x0) 0 x0.f4 (0 : Int) (List.replicate (x0.f5.length : Int).toNat (0 : Int)) rfl hl2 y hy
  cases y with
  | x0 w0_3 =>
   have h4 := hy
   exact KL (KK (fn := Tryz.f11) [rT, .val (.int .i64 (x0.f5.length : Int)), .rows ((List.replicate (x0.f5.length : Int).toNat (0 : Int)).map etI), .ret [(false, [.s .own () 1 ((bK x0).map etI)])], .val (.int .i64 ((bK x0).length : Int)), .lp (.exit 0) (ml q0 w0_3)] _ rfl (fun _ => rfl) (fun k => by kernel_rfl) (AV (ψ := fun k => E.C k 28 [.agg (GDag.t .far q0 x0)] = some [(false, [tB true])]) (KR (iz x0 h0) (by rw [h1])) <| ALn x0.f5 (GTask.t q0) <| AC h2 <| AC (p := List.replicate (x0.f5.length : Int).toNat [tI (0 : Int)] = (List.replicate (x0.f5.length : Int).toNat (0 : Int)).map etI) (mG rfl) <| AV (ψ := fun k => E.C k 29 [.agg (GDag.t .far q0 x0)] = some [(false, [.s .own () 1 ((bK x0).map etI)])]) (nu x0 h0 h3) <| ALn (bK x0) etI <| AL h4 <| AN))
 ·exact KL (KK (fn := Tryz.f11) [rF] _ rfl (fun _ => rfl) (fun k => by kernel_rfl) (AV (ψ := fun k => E.C k 28 [.agg (GDag.t .far q0 x0)] = some [(false, [tB false])]) (KR (iz x0 h0) (by rw [h1])) <| AN))
theorem Bz (k : Int) (n : Nat) (hk : 0 ≤ k ∧ k < (n : Int)) : ∀ (l : List Int) (i : Nat) (z : Bool) (v : List Int), v.length = n → (∀ x ∈ l, 0 ≤ x ∧ x < (n : Int)) → ∃ w, eA k l i z v = some (.x2 w) ∧ fk k l i z v = some (.x2 w) ∧ w.length = n
 | [], i, z, v, hv, _ => ⟨v, rfl, rfl, hv⟩
 | x :: l, i, z, v, hv, hl => by
  have hx := hl x (by simp)
  obtain ⟨a, ha, _⟩ := gj (l := v) (k := x) (by omega)
  obtain ⟨b, hb, _⟩ := gj (l := v) (k := k) (by omega)
  unfold eA fk
  rw [ha, hb]
  simp only [Option.bind_some]
  unfold kR
  by_cases q : inc a > b
  ·rw [decide_eq_true q, cond_true, if_pos q]
   exact Bz k n hk l (i + 1) z _ (by rw [List.length_set]; exact hv) fun y hy => hl y (by simp [hy])
  ·rw [decide_eq_false q, cond_false, if_neg q]
   have e : v.set k.toNat b = v := by
    obtain ⟨h0, h1⟩ := gC hb
    refine List.ext_getElem? fun j => ?_
    rw [List.getElem?_set]
    split
    ·rename_i e
     subst e
     rw [if_pos (by omega), h1]
    ·rfl
   rw [e]
   exact Bz k n hk l (i + 1) z v hv fun y hy => hl y (by simp [hy])
theorem Ey (d : GDag) (h : an.sm d) (hd : bE d = true) : ∀ (l : List Int) (i : Nat) (v : List Int) (m : Int), v.length = d.f5.length → (∀ x ∈ l, 0 ≤ x ∧ x < (d.f5.length : Int)) → ∃ r,
  ez d.f0 d.f1 d.f2 d.f3 d.f5 l i d.f4 v m = some (.x0 r) ∧ fj d.f0 d.f1 d.f2 d.f3 d.f5 l i d.f4 m v = some (.x0 r)
 | [], i, v, m, _, _ => ⟨m, rfl, rfl⟩
 | k :: l, i, v, m, hv, hl => by
  have hk := hl k (by simp)
  have e : GDag.mk d.f0 d.f1 d.f2 d.f3 d.f4 d.f5 = d := rfl
  obtain ⟨u1, u2⟩ := CY hd hk
  obtain ⟨a, ha, _⟩ := gj (l := v) (k := k) (by omega)
  obtain ⟨w, w1, w2, w3⟩ := Bz k d.f5.length hk (ups d k) 0 d.f4 (v.set k.toNat 1) (by rw [List.length_set]; exact hv) u1
  obtain ⟨b, hb, _⟩ := gj (l := w) (k := k) (by omega)
  obtain ⟨r, r1, r2⟩ := Ey d h hd l (i + 1) w (kR m b) w3 fun y hy => hl y (by simp [hy])
  refine ⟨r, ?_, ?_⟩
  ·unfold ez
   rw [ha, Option.bind_some, e, if_pos h, if_pos hd, if_pos hk, if_pos (by omega), w1, Option.bind_some]
   simp only [hb, Option.bind_some]
   rw [← r1]
   unfold kR
   by_cases q : b > m
   ·rw [decide_eq_true q, cond_true, if_pos q]
   ·rw [decide_eq_false q, cond_false, if_neg q]
  ·unfold fj
   rw [ha, Option.bind_some, e, if_pos h, if_pos hd, if_pos hk, if_pos (by omega), w2, Option.bind_some]
   simp only [hb, Option.bind_some]
   exact r2
noncomputable def cr (d : GDag) : Int := (iq d).getD 0
theorem zd (d : GDag) (h : an.sm d) : iq d = some (cr d) ∧ jP d = some (cr d) := by
 have hh : ∃ r, iq d = some r ∧ jP d = some r := by
  unfold iq jP ah
  rw [if_pos h, if_pos h]
  cases q : bE d with
  | false => exact ⟨0, rfl, rfl⟩
  | true =>
   obtain ⟨h4, -, -, hg, ho⟩ := mX q
   obtain ⟨r, r1, r2⟩ := Ey d h q (cl d.f5) 0 (List.replicate d.f5.length 0) 0 (by simp) (zh hg).2
   have e : bK d = cl d.f5 := rfl
   refine ⟨r, ?_, ?_⟩
   ·rw [cond_true, ho, if_pos (by omega), if_pos (by omega), show ((d.f5.length : Int)).toNat = d.f5.length by omega, r1]; rfl
   ·rw [cond_true, if_pos (by omega), if_pos hg, e, ho, if_pos (by omega), show ((d.f5.length : Int)).toNat = d.f5.length by omega, r2]; rfl
 obtain ⟨r, r1, r2⟩ := hh
 have p : cr d = r := by unfold cr; rw [r1]; rfl
 rw [p]; exact ⟨r1, r2⟩
theorem pa {q0 : Kd} (x0 : GDag) (h : an.sm x0) : Does E 9 [.agg (GDag.t .far q0 x0)] [(false, [tI (cr x0)])] := by
 exact Cy x0 _ (zd x0 h).1
theorem o8 {q0 : Kd} (x0 : GDag) (h : an.sm x0) : Does E 11 [.agg (GDag.t .far q0 x0)] [(false, [tI (cr x0)])] := by
 exact BD x0 _ (zd x0 h).2
end Go.Proofs.YtjfbofdmjihglaaGreatDoor.Am
namespace Go.Proofs.YtjfbofdmjihglaaGreatDoor.Am
open Go Go.Proofs Classical
set_option maxRecDepth 100000
set_option linter.unusedVariables false
set_option linter.unusedSimpArgs false
noncomputable def js (x0 : LDag) : Option (Bool) :=
  if Wf.wf x0 then cond (decide ((aA x0 (1048576 : Int)) < (0 : Int)))
   (some (true))
   (if an.sm x0 then if an.sm (aa x0) then cond ((cr (aa x0)) != (cr (aa x0)))
    (some (false))
    (if (aa x0) = (aa x0) then cond (yes (aa x0) (aa x0))
     (some (true))
     (some (false)) else none) else none else none) else none
theorem tq {q0 : Kd} (x0 : LDag) : Ans (js x0) (fun r => Does E 3 [.agg (LDag.t .far q0 x0)] [(false, [tB r])]) := by
 unfold js
 refine KQ (fun h0 => ?_)
 refine KO (fun h1 => ?_) (fun h1 => ?_)
 ·exact KL (KK (fn := Tryz.f3) [.ret [(false, [tI (aA x0 (1048576 : Int))])], .b true] _ rfl (fun _ => rfl) (fun k => by kernel_rfl) (AV (ψ := fun k => E.C k 8 [.agg (LDag.t .far q0 x0), .one (tI (1048576 : Int))] = some [(false, [tI (aA x0 (1048576 : Int))])]) (bv x0 (1048576 : Int) h0) <| AC h1 <| AN))
 ·refine KQ (fun h2 => ?_)
  refine KQ (fun h3 => ?_)
  refine KO (fun h4 => ?_) (fun h4 => ?_)
  ·exact KL (KK (fn := Tryz.f3) [.ret [(false, [tI (aA x0 (1048576 : Int))])], .b false, .ret [(true, GDag.t .own .own (aa x0))], .ret [(false, [tI (cr (aa x0))])], .ret [(true, GDag.t .own .own (aa x0))], .ret [(false, [tI (cr (aa x0))])], .b true] _ rfl (fun _ => rfl) (fun k => by kernel_rfl) (AV (ψ := fun k => E.C k 8 [.agg (LDag.t .far q0 x0), .one (tI (1048576 : Int))] = some [(false, [tI (aA x0 (1048576 : Int))])]) (bv x0 (1048576 : Int) h0) <| AC h1 <| AV (ψ := fun k => E.C k 10 [.agg (LDag.t .far q0 x0)] = some [(true, GDag.t .own .own (aa x0))]) (ay x0 h2) <| AV (ψ := fun k => E.C k 9 [.agg (GDag.t .far .own (aa x0))] = some [(false, [tI (cr (aa x0))])]) (pa (aa x0) h3) <| AV (ψ := fun k => E.C k 10 [.agg (LDag.t .far q0 x0)] = some [(true, GDag.t .own .own (aa x0))]) (ay x0 h2) <| AV (ψ := fun k => E.C k 11 [.agg (GDag.t .far .own (aa x0))] = some [(false, [tI (cr (aa x0))])]) (o8 (aa x0) h3) <| AC h4 <| AN))
  ·refine KQ (fun h5 => ?_)
   refine KO (fun h6 => ?_) (fun h6 => ?_)
   ·exact KL (KK (fn := Tryz.f3) [.ret [(false, [tI (aA x0 (1048576 : Int))])], .b false, .ret [(true, GDag.t .own .own (aa x0))], .ret [(false, [tI (cr (aa x0))])], .ret [(true, GDag.t .own .own (aa x0))], .ret [(false, [tI (cr (aa x0))])], .b false, .ret [(true, GDag.t .own .own (aa x0))], rT] _ rfl (fun _ => rfl) (fun k => by kernel_rfl) (AV (ψ := fun k => E.C k 8 [.agg (LDag.t .far q0 x0), .one (tI (1048576 : Int))] = some [(false, [tI (aA x0 (1048576 : Int))])]) (bv x0 (1048576 : Int) h0) <| AC h1 <| AV (ψ := fun k => E.C k 10 [.agg (LDag.t .far q0 x0)] = some [(true, GDag.t .own .own (aa x0))]) (ay x0 h2) <| AV (ψ := fun k => E.C k 9 [.agg (GDag.t .far .own (aa x0))] = some [(false, [tI (cr (aa x0))])]) (pa (aa x0) h3) <| AV (ψ := fun k => E.C k 10 [.agg (LDag.t .far q0 x0)] = some [(true, GDag.t .own .own (aa x0))]) (ay x0 h2) <| AV (ψ := fun k => E.C k 11 [.agg (GDag.t .far .own (aa x0))] = some [(false, [tI (cr (aa x0))])]) (o8 (aa x0) h3) <| AC h4 <| AV (ψ := fun k => E.C k 10 [.agg (LDag.t .far q0 x0)] = some [(true, GDag.t .own .own (aa x0))]) (ay x0 h2) <| AV (ψ := fun k => E.C k 12 [.agg (GDag.t .far .own (aa x0)), .agg (GDag.t .far .own (aa x0))] = some [(false, [tB true])]) (KR (cv (aa x0) (aa x0) h5 h3) (by rw [h6])) <| AN))
   ·exact KL (KK (fn := Tryz.f3) [.ret [(false, [tI (aA x0 (1048576 : Int))])], .b false, .ret [(true, GDag.t .own .own (aa x0))], .ret [(false, [tI (cr (aa x0))])], .ret [(true, GDag.t .own .own (aa x0))], .ret [(false, [tI (cr (aa x0))])], .b false, .ret [(true, GDag.t .own .own (aa x0))], rF] _ rfl (fun _ => rfl) (fun k => by kernel_rfl) (AV (ψ := fun k => E.C k 8 [.agg (LDag.t .far q0 x0), .one (tI (1048576 : Int))] = some [(false, [tI (aA x0 (1048576 : Int))])]) (bv x0 (1048576 : Int) h0) <| AC h1 <| AV (ψ := fun k => E.C k 10 [.agg (LDag.t .far q0 x0)] = some [(true, GDag.t .own .own (aa x0))]) (ay x0 h2) <| AV (ψ := fun k => E.C k 9 [.agg (GDag.t .far .own (aa x0))] = some [(false, [tI (cr (aa x0))])]) (pa (aa x0) h3) <| AV (ψ := fun k => E.C k 10 [.agg (LDag.t .far q0 x0)] = some [(true, GDag.t .own .own (aa x0))]) (ay x0 h2) <| AV (ψ := fun k => E.C k 11 [.agg (GDag.t .far .own (aa x0))] = some [(false, [tI (cr (aa x0))])]) (o8 (aa x0) h3) <| AC h4 <| AV (ψ := fun k => E.C k 10 [.agg (LDag.t .far q0 x0)] = some [(true, GDag.t .own .own (aa x0))]) (ay x0 h2) <| AV (ψ := fun k => E.C k 12 [.agg (GDag.t .far .own (aa x0)), .agg (GDag.t .far .own (aa x0))] = some [(false, [tB false])]) (KR (cv (aa x0) (aa x0) h5 h3) (by rw [h6])) <| AN))
theorem xO {q0 : Kd} (x0 : LDag) (h : Wf.wf x0) : Does E 3 [.agg (LDag.t .far q0 x0)] [(false, [tB true])] := by
 have hs := oR x0 1048576 h (by omega) (by omega)
 exact tq x0 _ (by
  unfold js
  refine xg h (AO fun q => ?_)
  have hs := (hs q).2
  have ht := oV hs
  simp [hs, ht, yes])
end Go.Proofs.YtjfbofdmjihglaaGreatDoor.Am
namespace Go.Proofs.YtjfbofdmjihglaaGreatDoor.fnExactHeightOf
open Go.ChangeShapes Go.WideShapes Go.ChangeAt Go.RowKit Go.Proofs.YtjfbofdmjihglaaGreatDoor.Am
open Go.ChangeMaps (open_string shut_string)
set_option linter.unusedVariables false
set_option linter.unusedSimpArgs false
theorem own : ownKnob Tryz.prog.godebug = none := by kernel_rfl
theorem laid : laidOutB Tryz.prog = true := by kernel_rfl
theorem dQ {α : Type} {enc : α → List (T Unit)} {B : α → Prop} : ∀ (rows : List (List DT)), (∀ r ∈ rows, ∃ x, erL r = enc x ∧ B x) → ∃ l : List α, rows.map erL = l.map enc ∧ l.length = rows.length ∧ ∀ y ∈ l, B y
 | [], _ => ⟨[], rfl, rfl, fun y h => by cases h⟩
 | r :: rs, h => by
  obtain ⟨x, h1, h2⟩ := h r (by simp)
  obtain ⟨l, g1, g2, g3⟩ := dQ rs fun q hq => h q (by simp [hq])
  refine ⟨x :: l, by simp only [List.map_cons, h1, g1], by simp [g2], fun y hy => ?_⟩
  rcases List.mem_cons.1 hy with rfl | hy
  ·exact h2
  ·exact g3 y hy
def dT : Ty := (.struct (.cons .str (.cons .str (.cons (.int .i64) (.cons .bool (.cons (.slice .str) .nil))))))
theorem iR {ts : List DT} (h : Shape dT ts) : ∃ x : GTask, erL ts = GTask.t .far x ∧ Wf.wf x := by
 simp only [dT, Shape, ShapeF] at h
 obtain ⟨xs0, ys0, rfl, s0, xs1, ys1, rfl, s1, xs2, ys2, rfl, s2, xs3, ys3, rfl, s3, xs4, ys4, rfl, s4, rfl⟩ := h
 obtain ⟨v0, rfl, k0⟩ := s0
 obtain ⟨v1, rfl, k1⟩ := s1
 obtain ⟨v2, rfl, k2⟩ := s2
 obtain ⟨v3, rfl⟩ := s3
 obtain ⟨d4, r4, rfl, k4, a4⟩ := s4
 obtain ⟨v4, e4, b4, c4⟩ := dQ (enc := etS) (B := Wf.wf) r4 (fun r hr => (by obtain ⟨s, rfl, hs⟩ := a4 r hr; exact ⟨s, rfl, hs⟩))
 refine ⟨⟨v0, v1, v2, v3, v4⟩, ?_, ⟨k0, k1, ⟨by rw [b4]; exact k4, c4⟩⟩⟩
 simp only [List.map_append, List.map_cons, List.map_nil, erL, az, cy, e4]
 rfl
def dm : Ty := (.struct (.cons .str (.cons .str (.cons (.int .i64) (.cons (.int .i64) (.cons .bool (.cons (.slice (.struct (.cons .str (.cons .str (.cons (.int .i64) (.cons .bool (.cons (.slice .str) .nil))))))) .nil)))))))
theorem jY {ts : List DT} (h : Shape dm ts) : ∃ x : LDag, erL ts = LDag.t .far .far x ∧ Wf.wf x := by
 simp only [dm, Shape, ShapeF] at h
 obtain ⟨xs0, ys0, rfl, s0, xs1, ys1, rfl, s1, xs2, ys2, rfl, s2, xs3, ys3, rfl, s3, xs4, ys4, rfl, s4, xs5, ys5, rfl, s5, rfl⟩ := h
 obtain ⟨v0, rfl, k0⟩ := s0
 obtain ⟨v1, rfl, k1⟩ := s1
 obtain ⟨v2, rfl, k2⟩ := s2
 obtain ⟨v3, rfl, k3⟩ := s3
 obtain ⟨v4, rfl⟩ := s4
 obtain ⟨d5, r5, rfl, k5, a5⟩ := s5
 obtain ⟨v5, e5, b5, c5⟩ := dQ (enc := (GTask.t .far)) (B := Wf.wf) r5 (fun r hr => iR (by simp only [dT, Shape, ShapeF]; exact a5 r hr))
 refine ⟨⟨v0, v1, v2, v3, v4, v5⟩, ?_, ⟨k0, k1, ⟨by rw [b5]; exact k5, c5⟩⟩⟩
 simp only [List.map_append, List.map_cons, List.map_nil, erL, az, cy, e5]
 rfl
theorem iI {H : Type} {enc : TypeId × Value → H} {a : Assume} {C : Checked} {os : Os} {f : FuncId} {fn : Func} {s : ChangeSpec} {conds : List PathCond} {apart fresh handsOn again : Bool} {X : World → Array Value → Prop}
  (hX : ∀ (w w' : World) (args : Array Value), w.heap = w'.heap → X w args → X w' args)
  (own : ownKnob C.prog.godebug = none) (started : os.Started) (noInit : C.prog.inits.idxOf? f = none) (hfn : C.prog.funcs[f]? = some fn)
  (witness : ∃ (w : World) (tape : Tape) (i : Input), w.os = os ∧ (w.forCall tape i).Shaped C.prog ∧ i.vars = [] ∧ Input.okWide C.prog (w.forCall tape i) .any w.heap.size f i ∧
   ((s.pre enc C.prog fn conds apart (w.forCall tape i).memory i.args ∧ X (w.forCall tape i).memory i.args) ∧ sizedMet enc C.prog fn (OpenSpec.ofChange s) apart (w.forCall tape i).memory i.args) ∧ a.holds C.prog (lone (Frame.enter C.prog f i.args .normal) [] (w.forCall tape i)))
  (contract : ∀ (W : World) (base : Nat) (args : Array Value) (ds gs : List (DataW H)) (before : List MemPlace),
   (∀ (j : Nat) t v, fn.params[j]? = some t → args[j]? = some v → Value.okWide C.prog W .any base t v) →
   DataW.Whole enc C.prog fn.params.toList s.vars apart W args.toList ds gs before →
   X W args → W.ShapedOpen C.prog →
   Calls C.prog f args W fun e W' => ∃ v, e = .returned v ∧ s.post enc C.prog fn apart fresh handsOn again W args v W') :
  ReturnsInHanded a C os f .any (fun w args => (s.pre enc C.prog fn conds apart w args ∧ X w args) ∧ sizedMet enc C.prog fn (OpenSpec.ofChange s) apart w args) (s.post enc C.prog fn apart fresh handsOn again) := by
 refine returnsInHanded_of_calls own started noInit witness ?_
 intro w tape i _ hsh _ hok hpre _
 obtain ⟨_, _, _, fn', hfn', _, _, _, _, hval⟩ := hok
 have e : fn' = fn := Option.some.inj (hfn'.symm.trans hfn)
 subst e
 obtain ⟨⟨⟨ds, gs, before, hw, hc⟩, hx⟩, hz⟩ := hpre
 have hw' := DataW.Whole.of_heap (w' := w.forCall tape i) (by rfl) hw
 refine (contract (w.forCall tape i) w.heap.size i.args ds gs before hval hw' (hX _ _ _ (by rfl) hx) hsh).mono fun e W' ⟨v, he, hp⟩ => ?_
 subst he
 exact ChangeSpec.post_blind hp
theorem mV {W : World} (hS : W.ShapedOpen Tryz.prog) (hL : laidMetH Tryz.prog Rows.fnExactHeightOfRow.laid W) : fx.ok W [] := by
 rw [MakeChecks.laidMetH_plain _ _ _ (by kernel_rfl)] at hL
 refine ⟨?_, fun b h => (by cases h), ?_, ?_⟩
 ·obtain ⟨x, hx⟩ := Option.isSome_iff_exists.1 (show (((begin Tryz.prog (fun _ _ => 0) default).world.heap[5]?).bind Obj.row?).isSome = true by kernel_rfl)
  obtain ⟨cs, hh, _⟩ := hS.1 5 x.1 x.2 (of_decide_eq_true (by kernel_rfl)) hx
  have hn : fx.n = 6 := by show Tryz.prog.globals.size = 6; kernel_rfl
  rw [hn]
  rcases Nat.lt_or_ge 5 W.heap.size with g | g
  ·exact g
  ·rw [Array.getElem?_eq_none g] at hh; cases hh
 ·exact cell_of_shapedOpen_int (t := 3) (zero := #[.int .i64 0]) hS (of_decide_eq_true (by kernel_rfl)) (by kernel_rfl) rfl (by kernel_rfl) (by kernel_rfl) Tryz.underlying3
 ·have e : Rows.laid_internal_strconv_uint64pow10 (H := Unit) = Lib.tabData .u64 Lib.pow10Tab := by kernel_rfl
  refine Lib.tabIs_of_head (rest := Rows.fnExactHeightOfRow.laid.drop 3) (g := 0) (t := 151) (e := 117) (n := 20) (by kernel_rfl) (by kernel_rfl) Tryz.underlying151 (by kernel_rfl) (by kernel_rfl) (by kernel_rfl) ?_
  rw [← e]
  exact hL.tail.tail
set_option maxRecDepth 100000 in
theorem pB (os : Os) (started : os.Started) (H : Type) (enc : TypeId × Value → H) :
  ReturnsInHanded {} Tryz.checked os 3 .any (fun w args => (Rows.fnExactHeightOfSpec.pre enc Tryz.prog Tryz.f3 Rows.fnExactHeightOfRow.domain false w args ∧ laidMetH Tryz.prog Rows.fnExactHeightOfRow.laid w) ∧ sizedMet enc Tryz.prog Tryz.f3 (OpenSpec.ofChange Rows.fnExactHeightOfSpec) false w args)
   (Rows.fnExactHeightOfSpec.post enc Tryz.prog Tryz.f3 false true false false) := by
 refine iI (C := Tryz.checked) (X := fun w _ => laidMetH Tryz.prog Rows.fnExactHeightOfRow.laid w) (fun _ _ _ hh h => h.of_heap hh) own started (by kernel_rfl) Tryz.func3
  (ChangeSpec.witness_shaped (enc := enc) (C := Tryz.checked) (os := os) (X := fun w _ => laidMetH Tryz.prog Rows.fnExactHeightOfRow.laid w) false (World.laidAll Tryz.prog os Rows.fnExactHeightOfRow.laid) #[.agg #[.string ByteArray.empty, .string ByteArray.empty, .int .i64 0, .int .i64 0, .bool false, .slice none 0 0]] 8 (World.laidAll_os _ _ _)
   (World.shaped_of_ZipB (by kernel_rfl) (by kernel_rfl)) (by kernel_rfl) (by kernel_rfl) (by kernel_rfl)
   (by rw [MakeChecks.laidMetH_plain _ _ _ (by kernel_rfl)]; exact laidMet_laidAll _ (by kernel_rfl) (by kernel_rfl))) ?_
 intro W base args ds gs before hval0 hW hL hS
 have hB := mV hS hL
 have hval : ∀ (j : Nat) t v, Tryz.f3.params[j]? = some t → args[j]? = some v → Value.okWide Tryz.prog W .any base t v := hval0
 have hW' := hW
 obtain ⟨p, q, hA0, hV, rfl, hfz, hnd⟩ := hW
 have hA : DataW.TrodAll enc Tryz.prog W 0 (fun _ => true) true Tryz.f3.params.toList args.toList ds p := hA0
 rw [Tryz.params3] at hA hval
 have hlt := hA.lt
 obtain ⟨v0, vs0, d0, ds0, p0, q0, hargs, rfl, rfl, h0, r0⟩ := trodAll_cons hA
 obtain ⟨rfl, rfl, rfl⟩ := trodAll_nil r0
 obtain rfl : args = #[v0] := by cases args; simp_all
 obtain ⟨rfl, rfl⟩ := trodVars_none hV
 have hok0 := hval 0 24 v0 rfl rfl
 unfold Value.okWide at hok0
 rw [Tryz.underlying24] at hok0
 obtain ⟨cs0, rfl, _, _⟩ := hok0
 have h0k := h0
 obtain ⟨n0, h0⟩ := h0
 obtain ⟨ts0, R0, S0, L0⟩ := Ty.open dm n0 24 _ _ (by kernel_rfl) h0
 obtain ⟨x0, e0, k0⟩ := jY S0
 clear hA0 hval0
 refine (FR (xO x0 k0) hB (ad := [.agg ts0]) (by simp only [List.map_cons, List.map_nil, Sl.er, cy, az]; rw [e0]) (ArgsIn.cons (AOk.agg R0 (Shape.noLent dm _ S0)) (ArgsIn.nil W))).mono fun e W' ⟨he, bel⟩ => ?_
 subst he
 exact ⟨_, rfl, _, _, _, [], _, [], hW', trodAll_mk1 (shut_bool Tryz.underlying4 _), (trodAll_cons_mk (Below.trod laid (by kernel_rfl) (of_decide_eq_true (by kernel_rfl)) h0k bel (fun x hx => hlt x (by simp [hx]))) trodAll_mk0), rfl, bel.frame _, fun h => by cases h⟩
theorem wi : Rows.fnExactHeightOfRow.holds Tryz.pinned (OpenSpec.ofChange Rows.fnExactHeightOfSpec) :=
 OpenClaim.holds_of_wide 3 Tryz.f3 rfl rfl rfl rfl rfl rfl rfl ⟨rfl, rfl, rfl, rfl, rfl⟩ rfl rfl rfl rfl rfl (by kernel_rfl) Tryz.func3 (by kernel_rfl)
  (of_decide_eq_true (by kernel_rfl)) (by unfold Func.isWrapper; first | (rw [if_pos (by decide +kernel)]; kernel_rfl) | (rw [if_neg (by decide +kernel)]; exact ⟨rfl, rfl⟩))
  (fun os started H enc _ => pB os started H enc)
theorem proved : Rows.FnExactHeightOfCardSaid :=
 Claim7.holds_tied_plain_at .later [] [.data, .data, .data, .data, .pinned] true (true, "5d2d9a259d95ac017517471e890a3483be5bccce4816c56c5b0c681b7087e1c6") false wi (fun _ h => by cases h) (by kernel_rfl) (fun _ h => by cases h) fnExactHeightOf_row_tie rfl ⟨rfl, rfl⟩ (by kernel_rfl) rfl
  (fun f fn hf hfn => by
   obtain rfl : f = 3 := Option.some.inj ((show Tryz.prog.funcNamed "loop.example/g00188/laws.FnExactHeightOf" = some 3 by kernel_rfl).symm.trans hf) |>.symm
   obtain rfl : fn = Tryz.f3 := (Option.some.inj (Tryz.func3.symm.trans hfn)).symm
   exact ⟨by kernel_rfl, fun j t ht => by
    rw [Tryz.params3] at ht
    have hm : t ∈ [24] := by simpa using Array.mem_of_getElem? ht
    have hall : ([24].all fun u => !Tryz.prog.wantsStandIn u) = true := by kernel_rfl
    exact (show Tryz.prog.wantsStandIn t = false by simpa using List.all_eq_true.1 hall t hm)⟩)
  (by kernel_rfl)
end Go.Proofs.YtjfbofdmjihglaaGreatDoor.fnExactHeightOf
namespace Go.Proofs.YtjfbofdmjihglaaGreatDoor
theorem fnExactHeightOf_holds : Rows.FnExactHeightOfCardSaid := fnExactHeightOf.proved
end Go.Proofs.YtjfbofdmjihglaaGreatDoor
