/- Rules. -/
import Derived.Test.YtjfbofdmjihglaaGreatDoorWords
namespace Go.Proofs.YtjfbofdmjihglaaGreatDoor.Am
open Go Go.Proofs Classical
set_option maxRecDepth 100000
set_option linter.unusedVariables false
set_option linter.unusedSimpArgs false
inductive rt where
 | ret (v2_0 v2_1 v2_2 v2_3 v2_4 : List Int) (v3 : Bool)
 | x0 
def fP (v2_0 v2_1 v2_2 v2_3 v2_4 v6_0 v6_1 v6_2 v6_3 v6_4 : List Int) (v7 : List Bool) (v8 : Int) : US := stL 85 [(2, .box () [.s .own () 1 (v2_0.map etI), .s .own () 1 (v2_1.map etI), .s .own () 1 (v2_2.map etI), .s .own () 1 (v2_3.map etI), .s .own () 1 (v2_4.map etI)]), (6, .box () [.s .own () 1 (v6_0.map etI), .s .own () 1 (v6_1.map etI), .s .own () 1 (v6_2.map etI), .s .own () 1 (v6_3.map etI), .s .own () 1 (v6_4.map etI)]), (7, .one (.s .own () 1 (v7.map etB))), (8, .one (tI v8))]
def kS (zv2_0 zv2_1 zv2_2 zv2_3 zv2_4 : List Int) (zv3 : Bool) : US := stL 85 [(2, .box () [.s .own () 1 (zv2_0.map etI), .s .own () 1 (zv2_1.map etI), .s .own () 1 (zv2_2.map etI), .s .own () 1 (zv2_3.map etI), .s .own () 1 (zv2_4.map etI)]), (3, .one (tB zv3))]
def lH (v2_0 v2_1 v2_2 v2_3 v2_4 v6_0 v6_1 v6_2 v6_3 v6_4 : List Int) : US := stL 85 [(2, .box () [.s .own () 1 (v2_0.map etI), .s .own () 1 (v2_1.map etI), .s .own () 1 (v2_2.map etI), .s .own () 1 (v2_3.map etI), .s .own () 1 (v2_4.map etI)]), (6, .box () [.s .own () 1 (v6_0.map etI), .s .own () 1 (v6_1.map etI), .s .own () 1 (v6_2.map etI), .s .own () 1 (v6_3.map etI), .s .own () 1 (v6_4.map etI)])]
abbrev nl : US → Exit → US → Prop := Round E 55 (aw Tryz.f55 0)
def yI (v2_0 v2_1 v2_2 v2_3 v2_4 v6_0 v6_1 v6_2 v6_3 v6_4 : List Int) (v7 : List Bool) (v8 : Int) : rt → Prop
 | .ret zv2_0 zv2_1 zv2_2 zv2_3 zv2_4 zv3 => Loops E 55 (aw Tryz.f55 0) (fP v2_0 v2_1 v2_2 v2_3 v2_4 v6_0 v6_1 v6_2 v6_3 v6_4 v7 v8) .ret (kS zv2_0 zv2_1 zv2_2 zv2_3 zv2_4 zv3)
 | .x0 => Loops E 55 (aw Tryz.f55 0) (fP v2_0 v2_1 v2_2 v2_3 v2_4 v6_0 v6_1 v6_2 v6_3 v6_4 v7 v8) (.exit 0) (lH v2_0 v2_1 v2_2 v2_3 v2_4 v6_0 v6_1 v6_2 v6_3 v6_4)
noncomputable def fQ (v7 : List Bool) : Nat → Int → Option rt
 | 0, _ => none
 | n + 1, v8 => cond (decide (v8 < (5 : Int)))
  ((aD v7 v8).bind fun g0 => cond (g0)
   (fQ v7 n (inc v8))
   (some (.ret ([]) ([]) ([]) ([]) ([]) false)))
  (some (.x0))
theorem yH (v2_0 v2_1 v2_2 v2_3 v2_4 v6_0 v6_1 v6_2 v6_3 v6_4 : List Int) (v7 : List Bool) (n : Nat) : ∀ (v8 : Int), Ans (fQ v7 n v8) (yI v2_0 v2_1 v2_2 v2_3 v2_4 v6_0 v6_1 v6_2 v6_3 v6_4 v7 v8) := by
 induction n with
 | zero => intros; exact Ans.none
 | succ n ih =>
  intro v8
  unfold fQ
  refine KO (fun h0 => ?_) (fun h0 => ?_)
  ·refine KP (fun g0 h1 => ?_)
   refine KO (fun h2 => ?_) (fun h2 => ?_)
   ·have r : nl (fP v2_0 v2_1 v2_2 v2_3 v2_4 v6_0 v6_1 v6_2 v6_3 v6_4 v7 v8) .normal (fP v2_0 v2_1 v2_2 v2_3 v2_4 v6_0 v6_1 v6_2 v6_3 v6_4 v7 (inc v8)) := KJ [.b true, .row ([tB true])] _ (fun k => by kernel_rfl) (AC h0 <| AC (p := 0 ≤ v8 ∧ v8 < ((v7.map etB).length : Int)) (jv h1) <| AC (p := (v7.map etB)[0 + v8.toNat]? = some ([tB true])) ((ew h1).trans (congrArg some (show [tB g0] = [tB true] by rw [h2]))) <| AN); exact (ih (inc v8)).mono fun y hy => by cases y <;> exact KM r hy
   ·exact KL (KN (show nl (fP v2_0 v2_1 v2_2 v2_3 v2_4 v6_0 v6_1 v6_2 v6_3 v6_4 v7 v8) .ret (kS ([]) ([]) ([]) ([]) ([]) false) from KJ [.b true, .row ([tB false])] _ (fun k => by kernel_rfl) (AC h0 <| AC (p := 0 ≤ v8 ∧ v8 < ((v7.map etB).length : Int)) (jv h1) <| AC (p := (v7.map etB)[0 + v8.toNat]? = some ([tB false])) ((ew h1).trans (congrArg some (show [tB g0] = [tB false] by rw [h2]))) <| AN)) (by intro h; cases h))
  ·exact KL (KN (show nl (fP v2_0 v2_1 v2_2 v2_3 v2_4 v6_0 v6_1 v6_2 v6_3 v6_4 v7 v8) (.exit 0) (lH v2_0 v2_1 v2_2 v2_3 v2_4 v6_0 v6_1 v6_2 v6_3 v6_4) from KJ [.b false] _ (fun k => by kernel_rfl) (AC h0 <| AN)) (by intro h; cases h))
noncomputable def lm (x0 : ByteArray) : Option (GCron × Bool) :=
  cond ((aK x0).2)
   (cond ((((aK x0).1).length : Int) != (5 : Int))
    (some ((GCron.mk ([] : List Int) ([] : List Int) ([] : List Int) ([] : List Int) ([] : List Int)), false))
    (if 0 ≤ (5 : Int) ∧ (5 : Int) ≤ (5 : Int) ∧ ((1 : Nat) : Int) * (5 : Int) ≤ 281474976710656 ∧ (5 : Int) ≤ 4611686018427387904 then (aD ((aK x0).1) (0 : Int)).bind fun g0 => if g0.size ≤ 2000000 then if 0 ≤ (0 : Int) ∧ (0 : Int) ≤ (59 : Int) ∧ (59 : Int) ≤ 59 then (aD (List.replicate (5 : Int).toNat false) (0 : Int)).bind fun g1 => (aD ((aK x0).1) (1 : Int)).bind fun g2 => if g2.size ≤ 2000000 then if 0 ≤ (0 : Int) ∧ (0 : Int) ≤ (23 : Int) ∧ (23 : Int) ≤ 59 then (aD ((List.replicate (5 : Int).toNat false).set (0 : Int).toNat ((ag g0 (0 : Int) (59 : Int)).2)) (1 : Int)).bind fun g3 => (aD ((aK x0).1) (2 : Int)).bind fun g4 => if g4.size ≤ 2000000 then if 0 ≤ (1 : Int) ∧ (1 : Int) ≤ (31 : Int) ∧ (31 : Int) ≤ 59 then (aD (((List.replicate (5 : Int).toNat false).set (0 : Int).toNat ((ag g0 (0 : Int) (59 : Int)).2)).set (1 : Int).toNat ((ag g2 (0 : Int) (23 : Int)).2)) (2 : Int)).bind fun g5 => (aD ((aK x0).1) (3 : Int)).bind fun g6 => if g6.size ≤ 2000000 then if 0 ≤ (1 : Int) ∧ (1 : Int) ≤ (12 : Int) ∧ (12 : Int) ≤ 59 then (aD ((((List.replicate (5 : Int).toNat false).set (0 : Int).toNat ((ag g0 (0 : Int) (59 : Int)).2)).set (1 : Int).toNat ((ag g2 (0 : Int) (23 : Int)).2)).set (2 : Int).toNat ((ag g4 (1 : Int) (31 : Int)).2)) (3 : Int)).bind fun g7 => (aD ((aK x0).1) (4 : Int)).bind fun g8 => if g8.size ≤ 2000000 then if 0 ≤ (0 : Int) ∧ (0 : Int) ≤ (6 : Int) ∧ (6 : Int) ≤ 59 then (aD (((((List.replicate (5 : Int).toNat false).set (0 : Int).toNat ((ag g0 (0 : Int) (59 : Int)).2)).set (1 : Int).toNat ((ag g2 (0 : Int) (23 : Int)).2)).set (2 : Int).toNat ((ag g4 (1 : Int) (31 : Int)).2)).set (3 : Int).toNat ((ag g6 (1 : Int) (12 : Int)).2)) (4 : Int)).bind fun g9 => (fQ ((((((List.replicate (5 : Int).toNat false).set (0 : Int).toNat ((ag g0 (0 : Int) (59 : Int)).2)).set (1 : Int).toNat ((ag g2 (0 : Int) (23 : Int)).2)).set (2 : Int).toNat ((ag g4 (1 : Int) (31 : Int)).2)).set (3 : Int).toNat ((ag g6 (1 : Int) (12 : Int)).2)).set (4 : Int).toNat ((ag g8 (0 : Int) (6 : Int)).2)) 9223372036854775808 (0 : Int)).bind fun y => match y with
     | .ret w0_2_0 w0_2_1 w0_2_2 w0_2_3 w0_2_4 w0_3 => (some ((GCron.mk w0_2_0 w0_2_1 w0_2_2 w0_2_3 w0_2_4), w0_3))
     | .x0 => (some ((GCron.mk ((ag g0 (0 : Int) (59 : Int)).1) ((ag g2 (0 : Int) (23 : Int)).1) ((ag g4 (1 : Int) (31 : Int)).1) ((ag g6 (1 : Int) (12 : Int)).1) ((ag g8 (0 : Int) (6 : Int)).1)), true)) else none else none else none else none else none else none else none else none else none else none else none))
   (some ((GCron.mk ([] : List Int) ([] : List Int) ([] : List Int) ([] : List Int) ([] : List Int)), false))
theorem Ai (x0 : ByteArray) : Ans (lm x0) (fun r => Does E 55 [.one (tS x0)] [(true, GCron.t .own r.1), (false, [tB r.2])]) := by
 unfold lm
 refine KO (fun h0 => ?_) (fun h0 => ?_)
 ·refine KO (fun h1 => ?_) (fun h1 => ?_)
  ·exact KL (KK (fn := Tryz.f55) [.ret [(false, [.s .own () 1 (((aK x0).1).map etS)]), (false, [tB true])], .val (.int .i64 (((aK x0).1).length : Int)), .b true] _ rfl (fun _ => rfl) (fun k => by kernel_rfl) (AD (k9 x0 h0) <| ALn ((aK x0).1) etS <| AC h1 <| AN))
  ·refine KQ (fun h2 => ?_)
   refine KP (fun g0 h3 => ?_)
   refine KQ (fun h4 => ?_)
   refine KQ (fun h5 => ?_)
   refine KP (fun g1 h6 => ?_)
   refine KP (fun g2 h7 => ?_)
   refine KQ (fun h8 => ?_)
   refine KQ (fun h9 => ?_)
   refine KP (fun g3 h10 => ?_)
   refine KP (fun g4 h11 => ?_)
   refine KQ (fun h12 => ?_)
   refine KQ (fun h13 => ?_)
   refine KP (fun g5 h14 => ?_)
   refine KP (fun g6 h15 => ?_)
   refine KQ (fun h16 => ?_)
   refine KQ (fun h17 => ?_)
   refine KP (fun g7 h18 => ?_)
   refine KP (fun g8 h19 => ?_)
   refine KQ (fun h20 => ?_)
   refine KQ (fun h21 => ?_)
   refine KP (fun g9 h22 => ?_)
   refine KP (fun y hy => ?_)
   replace hy := yH ([]) ([]) ([]) ([]) ([]) ((ag g0 (0 : Int) (59 : Int)).1) ((ag g2 (0 : Int) (23 : Int)).1) ((ag g4 (1 : Int) (31 : Int)).1) ((ag g6 (1 : Int) (12 : Int)).1) ((ag g8 (0 : Int) (6 : Int)).1) ((((((List.replicate (5 : Int).toNat false).set (0 : Int).toNat ((ag g0 (0 : Int) (59 : Int)).2)).set (1 : Int).toNat ((ag g2 (0 : Int) (23 : Int)).2)).set (2 : Int).toNat ((ag g4 (1 : Int) (31 : Int)).2)).set (3 : Int).toNat ((ag g6 (1 : Int) (12 : Int)).2)).set (4 : Int).toNat ((ag g8 (0 : Int) (6 : Int)).2)) 9223372036854775808 (0 : Int) y hy
   cases y with
   | ret w0_2_0 w0_2_1 w0_2_2 w0_2_3 w0_2_4 w0_3 =>
    have h23 := hy
    exact KL (KK (fn := Tryz.f55) [.ret [(false, [.s .own () 1 (((aK x0).1).map etS)]), (false, [tB true])], .val (.int .i64 (((aK x0).1).length : Int)), .b false, .rows ((List.replicate (5 : Int).toNat false).map etB), .row (etS g0), .ret [(false, [.s .own () 1 (((ag g0 (0 : Int) (59 : Int)).1).map etI)]), (false, [tB ((ag g0 (0 : Int) (59 : Int)).2)])], .row (etB g1), .rows (((List.replicate (5 : Int).toNat false).set (0 : Int).toNat ((ag g0 (0 : Int) (59 : Int)).2)).map etB), .row (etS g2), .ret [(false, [.s .own () 1 (((ag g2 (0 : Int) (23 : Int)).1).map etI)]), (false, [tB ((ag g2 (0 : Int) (23 : Int)).2)])], .row (etB g3), .rows ((((List.replicate (5 : Int).toNat false).set (0 : Int).toNat ((ag g0 (0 : Int) (59 : Int)).2)).set (1 : Int).toNat ((ag g2 (0 : Int) (23 : Int)).2)).map etB), .row (etS g4), .ret [(false, [.s .own () 1 (((ag g4 (1 : Int) (31 : Int)).1).map etI)]), (false, [tB ((ag g4 (1 : Int) (31 : Int)).2)])], .row (etB g5), .rows (((((List.replicate (5 : Int).toNat false).set (0 : Int).toNat ((ag g0 (0 : Int) (59 : Int)).2)).set (1 : Int).toNat ((ag g2 (0 : Int) (23 : Int)).2)).set (2 : Int).toNat ((ag g4 (1 : Int) (31 : Int)).2)).map etB), .row (etS g6), .ret [(false, [.s .own () 1 (((ag g6 (1 : Int) (12 : Int)).1).map etI)]), (false, [tB ((ag g6 (1 : Int) (12 : Int)).2)])], .row (etB g7), .rows ((((((List.replicate (5 : Int).toNat false).set (0 : Int).toNat ((ag g0 (0 : Int) (59 : Int)).2)).set (1 : Int).toNat ((ag g2 (0 : Int) (23 : Int)).2)).set (2 : Int).toNat ((ag g4 (1 : Int) (31 : Int)).2)).set (3 : Int).toNat ((ag g6 (1 : Int) (12 : Int)).2)).map etB), .row (etS g8), .ret [(false, [.s .own () 1 (((ag g8 (0 : Int) (6 : Int)).1).map etI)]), (false, [tB ((ag g8 (0 : Int) (6 : Int)).2)])], .row (etB g9), .rows (((((((List.replicate (5 : Int).toNat false).set (0 : Int).toNat ((ag g0 (0 : Int) (59 : Int)).2)).set (1 : Int).toNat ((ag g2 (0 : Int) (23 : Int)).2)).set (2 : Int).toNat ((ag g4 (1 : Int) (31 : Int)).2)).set (3 : Int).toNat ((ag g6 (1 : Int) (12 : Int)).2)).set (4 : Int).toNat ((ag g8 (0 : Int) (6 : Int)).2)).map etB), .lp .ret (kS w0_2_0 w0_2_1 w0_2_2 w0_2_3 w0_2_4 w0_3)] _ rfl (fun _ => rfl) (fun k => by kernel_rfl) (AD (k9 x0 h0) <| ALn ((aK x0).1) etS <| AC h1 <| AC h2 <| AC (p := List.replicate (5 : Int).toNat [tB false] = (List.replicate (5 : Int).toNat false).map etB) (mG rfl) <| AG etS h3 <| AD (dB g0 (0 : Int) (59 : Int) h4 h5) <| AG etB h6 <| AC (p := ((List.replicate (5 : Int).toNat false).map etB).set (0 + (0 : Int).toNat) (av (etB g1) 0 [tB ((ag g0 (0 : Int) (59 : Int)).2)]) = ((List.replicate (5 : Int).toNat false).set (0 : Int).toNat ((ag g0 (0 : Int) (59 : Int)).2)).map etB) (cI (by rfl)) <| AG etS h7 <| AD (dB g2 (0 : Int) (23 : Int) h8 h9) <| AG etB h10 <| AC (p := (((List.replicate (5 : Int).toNat false).set (0 : Int).toNat ((ag g0 (0 : Int) (59 : Int)).2)).map etB).set (0 + (1 : Int).toNat) (av (etB g3) 0 [tB ((ag g2 (0 : Int) (23 : Int)).2)]) = (((List.replicate (5 : Int).toNat false).set (0 : Int).toNat ((ag g0 (0 : Int) (59 : Int)).2)).set (1 : Int).toNat ((ag g2 (0 : Int) (23 : Int)).2)).map etB) (cI (by rfl)) <| AG etS h11 <| AD (dB g4 (1 : Int) (31 : Int) h12 h13) <| AG etB h14 <| AC (p := ((((List.replicate (5 : Int).toNat false).set (0 : Int).toNat ((ag g0 (0 : Int) (59 : Int)).2)).set (1 : Int).toNat ((ag g2 (0 : Int) (23 : Int)).2)).map etB).set (0 + (2 : Int).toNat) (av (etB g5) 0 [tB ((ag g4 (1 : Int) (31 : Int)).2)]) = ((((List.replicate (5 : Int).toNat false).set (0 : Int).toNat ((ag g0 (0 : Int) (59 : Int)).2)).set (1 : Int).toNat ((ag g2 (0 : Int) (23 : Int)).2)).set (2 : Int).toNat ((ag g4 (1 : Int) (31 : Int)).2)).map etB) (cI (by rfl)) <| AG etS h15 <| AD (dB g6 (1 : Int) (12 : Int) h16 h17) <| AG etB h18 <| AC (p := (((((List.replicate (5 : Int).toNat false).set (0 : Int).toNat ((ag g0 (0 : Int) (59 : Int)).2)).set (1 : Int).toNat ((ag g2 (0 : Int) (23 : Int)).2)).set (2 : Int).toNat ((ag g4 (1 : Int) (31 : Int)).2)).map etB).set (0 + (3 : Int).toNat) (av (etB g7) 0 [tB ((ag g6 (1 : Int) (12 : Int)).2)]) = (((((List.replicate (5 : Int).toNat false).set (0 : Int).toNat ((ag g0 (0 : Int) (59 : Int)).2)).set (1 : Int).toNat ((ag g2 (0 : Int) (23 : Int)).2)).set (2 : Int).toNat ((ag g4 (1 : Int) (31 : Int)).2)).set (3 : Int).toNat ((ag g6 (1 : Int) (12 : Int)).2)).map etB) (cI (by rfl)) <| AG etS h19 <| AD (dB g8 (0 : Int) (6 : Int) h20 h21) <| AG etB h22 <| AC (p := ((((((List.replicate (5 : Int).toNat false).set (0 : Int).toNat ((ag g0 (0 : Int) (59 : Int)).2)).set (1 : Int).toNat ((ag g2 (0 : Int) (23 : Int)).2)).set (2 : Int).toNat ((ag g4 (1 : Int) (31 : Int)).2)).set (3 : Int).toNat ((ag g6 (1 : Int) (12 : Int)).2)).map etB).set (0 + (4 : Int).toNat) (av (etB g9) 0 [tB ((ag g8 (0 : Int) (6 : Int)).2)]) = ((((((List.replicate (5 : Int).toNat false).set (0 : Int).toNat ((ag g0 (0 : Int) (59 : Int)).2)).set (1 : Int).toNat ((ag g2 (0 : Int) (23 : Int)).2)).set (2 : Int).toNat ((ag g4 (1 : Int) (31 : Int)).2)).set (3 : Int).toNat ((ag g6 (1 : Int) (12 : Int)).2)).set (4 : Int).toNat ((ag g8 (0 : Int) (6 : Int)).2)).map etB) (cI (by rfl)) <| AL h23 <| AN))
   | x0 =>
    have h23 := hy
    exact KL (KK (fn := Tryz.f55) [.ret [(false, [.s .own () 1 (((aK x0).1).map etS)]), (false, [tB true])], .val (.int .i64 (((aK x0).1).length : Int)), .b false, .rows ((List.replicate (5 : Int).toNat false).map etB), .row (etS g0), .ret [(false, [.s .own () 1 (((ag g0 (0 : Int) (59 : Int)).1).map etI)]), (false, [tB ((ag g0 (0 : Int) (59 : Int)).2)])], .row (etB g1), .rows (((List.replicate (5 : Int).toNat false).set (0 : Int).toNat ((ag g0 (0 : Int) (59 : Int)).2)).map etB), .row (etS g2), .ret [(false, [.s .own () 1 (((ag g2 (0 : Int) (23 : Int)).1).map etI)]), (false, [tB ((ag g2 (0 : Int) (23 : Int)).2)])], .row (etB g3), .rows ((((List.replicate (5 : Int).toNat false).set (0 : Int).toNat ((ag g0 (0 : Int) (59 : Int)).2)).set (1 : Int).toNat ((ag g2 (0 : Int) (23 : Int)).2)).map etB), .row (etS g4), .ret [(false, [.s .own () 1 (((ag g4 (1 : Int) (31 : Int)).1).map etI)]), (false, [tB ((ag g4 (1 : Int) (31 : Int)).2)])], .row (etB g5), .rows (((((List.replicate (5 : Int).toNat false).set (0 : Int).toNat ((ag g0 (0 : Int) (59 : Int)).2)).set (1 : Int).toNat ((ag g2 (0 : Int) (23 : Int)).2)).set (2 : Int).toNat ((ag g4 (1 : Int) (31 : Int)).2)).map etB), .row (etS g6), .ret [(false, [.s .own () 1 (((ag g6 (1 : Int) (12 : Int)).1).map etI)]), (false, [tB ((ag g6 (1 : Int) (12 : Int)).2)])], .row (etB g7), .rows ((((((List.replicate (5 : Int).toNat false).set (0 : Int).toNat ((ag g0 (0 : Int) (59 : Int)).2)).set (1 : Int).toNat ((ag g2 (0 : Int) (23 : Int)).2)).set (2 : Int).toNat ((ag g4 (1 : Int) (31 : Int)).2)).set (3 : Int).toNat ((ag g6 (1 : Int) (12 : Int)).2)).map etB), .row (etS g8), .ret [(false, [.s .own () 1 (((ag g8 (0 : Int) (6 : Int)).1).map etI)]), (false, [tB ((ag g8 (0 : Int) (6 : Int)).2)])], .row (etB g9), .rows (((((((List.replicate (5 : Int).toNat false).set (0 : Int).toNat ((ag g0 (0 : Int) (59 : Int)).2)).set (1 : Int).toNat ((ag g2 (0 : Int) (23 : Int)).2)).set (2 : Int).toNat ((ag g4 (1 : Int) (31 : Int)).2)).set (3 : Int).toNat ((ag g6 (1 : Int) (12 : Int)).2)).set (4 : Int).toNat ((ag g8 (0 : Int) (6 : Int)).2)).map etB), .lp (.exit 0) (lH ([]) ([]) ([]) ([]) ([]) ((ag g0 (0 : Int) (59 : Int)).1) ((ag g2 (0 : Int) (23 : Int)).1) ((ag g4 (1 : Int) (31 : Int)).1) ((ag g6 (1 : Int) (12 : Int)).1) ((ag g8 (0 : Int) (6 : Int)).1))] _ rfl (fun _ => rfl) (fun k => by kernel_rfl) (AD (k9 x0 h0) <| ALn ((aK x0).1) etS <| AC h1 <| AC h2 <| AC (p := List.replicate (5 : Int).toNat [tB false] = (List.replicate (5 : Int).toNat false).map etB) (mG rfl) <| AG etS h3 <| AD (dB g0 (0 : Int) (59 : Int) h4 h5) <| AG etB h6 <| AC (p := ((List.replicate (5 : Int).toNat false).map etB).set (0 + (0 : Int).toNat) (av (etB g1) 0 [tB ((ag g0 (0 : Int) (59 : Int)).2)]) = ((List.replicate (5 : Int).toNat false).set (0 : Int).toNat ((ag g0 (0 : Int) (59 : Int)).2)).map etB) (cI (by rfl)) <| AG etS h7 <| AD (dB g2 (0 : Int) (23 : Int) h8 h9) <| AG etB h10 <| AC (p := (((List.replicate (5 : Int).toNat false).set (0 : Int).toNat ((ag g0 (0 : Int) (59 : Int)).2)).map etB).set (0 + (1 : Int).toNat) (av (etB g3) 0 [tB ((ag g2 (0 : Int) (23 : Int)).2)]) = (((List.replicate (5 : Int).toNat false).set (0 : Int).toNat ((ag g0 (0 : Int) (59 : Int)).2)).set (1 : Int).toNat ((ag g2 (0 : Int) (23 : Int)).2)).map etB) (cI (by rfl)) <| AG etS h11 <| AD (dB g4 (1 : Int) (31 : Int) h12 h13) <| AG etB h14 <| AC (p := ((((List.replicate (5 : Int).toNat false).set (0 : Int).toNat ((ag g0 (0 : Int) (59 : Int)).2)).set (1 : Int).toNat ((ag g2 (0 : Int) (23 : Int)).2)).map etB).set (0 + (2 : Int).toNat) (av (etB g5) 0 [tB ((ag g4 (1 : Int) (31 : Int)).2)]) = ((((List.replicate (5 : Int).toNat false).set (0 : Int).toNat ((ag g0 (0 : Int) (59 : Int)).2)).set (1 : Int).toNat ((ag g2 (0 : Int) (23 : Int)).2)).set (2 : Int).toNat ((ag g4 (1 : Int) (31 : Int)).2)).map etB) (cI (by rfl)) <| AG etS h15 <| AD (dB g6 (1 : Int) (12 : Int) h16 h17) <| AG etB h18 <| AC (p := (((((List.replicate (5 : Int).toNat false).set (0 : Int).toNat ((ag g0 (0 : Int) (59 : Int)).2)).set (1 : Int).toNat ((ag g2 (0 : Int) (23 : Int)).2)).set (2 : Int).toNat ((ag g4 (1 : Int) (31 : Int)).2)).map etB).set (0 + (3 : Int).toNat) (av (etB g7) 0 [tB ((ag g6 (1 : Int) (12 : Int)).2)]) = (((((List.replicate (5 : Int).toNat false).set (0 : Int).toNat ((ag g0 (0 : Int) (59 : Int)).2)).set (1 : Int).toNat ((ag g2 (0 : Int) (23 : Int)).2)).set (2 : Int).toNat ((ag g4 (1 : Int) (31 : Int)).2)).set (3 : Int).toNat ((ag g6 (1 : Int) (12 : Int)).2)).map etB) (cI (by rfl)) <| AG etS h19 <| AD (dB g8 (0 : Int) (6 : Int) h20 h21) <| AG etB h22 <| AC (p := ((((((List.replicate (5 : Int).toNat false).set (0 : Int).toNat ((ag g0 (0 : Int) (59 : Int)).2)).set (1 : Int).toNat ((ag g2 (0 : Int) (23 : Int)).2)).set (2 : Int).toNat ((ag g4 (1 : Int) (31 : Int)).2)).set (3 : Int).toNat ((ag g6 (1 : Int) (12 : Int)).2)).map etB).set (0 + (4 : Int).toNat) (av (etB g9) 0 [tB ((ag g8 (0 : Int) (6 : Int)).2)]) = ((((((List.replicate (5 : Int).toNat false).set (0 : Int).toNat ((ag g0 (0 : Int) (59 : Int)).2)).set (1 : Int).toNat ((ag g2 (0 : Int) (23 : Int)).2)).set (2 : Int).toNat ((ag g4 (1 : Int) (31 : Int)).2)).set (3 : Int).toNat ((ag g6 (1 : Int) (12 : Int)).2)).set (4 : Int).toNat ((ag g8 (0 : Int) (6 : Int)).2)).map etB) (cI (by rfl)) <| AL h23 <| AN))
 ·exact KL (KK (fn := Tryz.f55) [.ret [(false, [.s .own () 1 (((aK x0).1).map etS)]), (false, [tB false])]] _ rfl (fun _ => rfl) (fun k => by kernel_rfl) (AD (k9 x0 h0) <| AN))
inductive re where
 | ret (v2_0 v2_1 v2_2 v2_3 v2_4 : List Int) (v3 : Bool)
 | x0 (v6_0 v6_1 v6_2 v6_3 v6_4 : List Int)
def bj (v2_0 v2_1 v2_2 v2_3 v2_4 : List Int) (v4 : List ByteArray) (v6_0 v6_1 v6_2 v6_3 v6_4 : List Int) (v25 : Int) : US := stL 46 [(2, .box () [.s .own () 1 (v2_0.map etI), .s .own () 1 (v2_1.map etI), .s .own () 1 (v2_2.map etI), .s .own () 1 (v2_3.map etI), .s .own () 1 (v2_4.map etI)]), (4, .one (.s .own () 1 (v4.map etS))), (6, .box () [.s .own () 1 (v6_0.map etI), .s .own () 1 (v6_1.map etI), .s .own () 1 (v6_2.map etI), .s .own () 1 (v6_3.map etI), .s .own () 1 (v6_4.map etI)]), (24, .clo (.arr [0, 1, 2, 3, 4]) [6, 6, 6, 6, 6]), (25, .one (tI v25))]
def dp (zv2_0 zv2_1 zv2_2 zv2_3 zv2_4 : List Int) (zv3 : Bool) : US := stL 46 [(2, .box () [.s .own () 1 (zv2_0.map etI), .s .own () 1 (zv2_1.map etI), .s .own () 1 (zv2_2.map etI), .s .own () 1 (zv2_3.map etI), .s .own () 1 (zv2_4.map etI)]), (3, .one (tB zv3))]
def lA (v2_0 v2_1 v2_2 v2_3 v2_4 zv6_0 zv6_1 zv6_2 zv6_3 zv6_4 : List Int) : US := stL 46 [(2, .box () [.s .own () 1 (v2_0.map etI), .s .own () 1 (v2_1.map etI), .s .own () 1 (v2_2.map etI), .s .own () 1 (v2_3.map etI), .s .own () 1 (v2_4.map etI)]), (6, .box () [.s .own () 1 (zv6_0.map etI), .s .own () 1 (zv6_1.map etI), .s .own () 1 (zv6_2.map etI), .s .own () 1 (zv6_3.map etI), .s .own () 1 (zv6_4.map etI)])]
abbrev ct : US → Exit → US → Prop := Round E 68 (aw Tryz.f68 0)
def yb (v2_0 v2_1 v2_2 v2_3 v2_4 : List Int) (v4 : List ByteArray) (v6_0 v6_1 v6_2 v6_3 v6_4 : List Int) (v25 : Int) : re → Prop
 | .ret zv2_0 zv2_1 zv2_2 zv2_3 zv2_4 zv3 => Loops E 68 (aw Tryz.f68 0) (bj v2_0 v2_1 v2_2 v2_3 v2_4 v4 v6_0 v6_1 v6_2 v6_3 v6_4 v25) .ret (dp zv2_0 zv2_1 zv2_2 zv2_3 zv2_4 zv3)
 | .x0 zv6_0 zv6_1 zv6_2 zv6_3 zv6_4 => Loops E 68 (aw Tryz.f68 0) (bj v2_0 v2_1 v2_2 v2_3 v2_4 v4 v6_0 v6_1 v6_2 v6_3 v6_4 v25) (.exit 0) (lA v2_0 v2_1 v2_2 v2_3 v2_4 zv6_0 zv6_1 zv6_2 zv6_3 zv6_4)
noncomputable def aL (v4 : List ByteArray) : Nat → (List Int) → (List Int) → (List Int) → (List Int) → (List Int) → Int → Option re
 | 0, _, _, _, _, _, _ => none
 | n + 1, v6_0, v6_1, v6_2, v6_3, v6_4, v25 => cond (decide (v25 < (5 : Int)))
  (cond (v25 == (0 : Int))
   ((aD v4 v25).bind fun g0 => if g0.size ≤ 2000000 then cond ((aN g0 v25).2)
    (aL v4 n ((aN g0 v25).1) v6_1 v6_2 v6_3 v6_4 (inc v25))
    (some (.ret ([]) ([]) ([]) ([]) ([]) false)) else none)
   (cond (v25 == (1 : Int))
    ((aD v4 v25).bind fun g0 => if g0.size ≤ 2000000 then cond ((aN g0 v25).2)
     (aL v4 n v6_0 ((aN g0 v25).1) v6_2 v6_3 v6_4 (inc v25))
     (some (.ret ([]) ([]) ([]) ([]) ([]) false)) else none)
    (cond (v25 == (2 : Int))
     ((aD v4 v25).bind fun g0 => if g0.size ≤ 2000000 then cond ((aN g0 v25).2)
      (aL v4 n v6_0 v6_1 ((aN g0 v25).1) v6_3 v6_4 (inc v25))
      (some (.ret ([]) ([]) ([]) ([]) ([]) false)) else none)
     (cond (v25 == (3 : Int))
      ((aD v4 v25).bind fun g0 => if g0.size ≤ 2000000 then cond ((aN g0 v25).2)
       (aL v4 n v6_0 v6_1 v6_2 ((aN g0 v25).1) v6_4 (inc v25))
       (some (.ret ([]) ([]) ([]) ([]) ([]) false)) else none)
      (if v25 = (4 : Int) then (aD v4 v25).bind fun g0 => if g0.size ≤ 2000000 then cond ((aN g0 v25).2)
       (aL v4 n v6_0 v6_1 v6_2 v6_3 ((aN g0 v25).1) (inc v25))
       (some (.ret ([]) ([]) ([]) ([]) ([]) false)) else none else none)))))
  (some (.x0 v6_0 v6_1 v6_2 v6_3 v6_4))
theorem ya (v2_0 v2_1 v2_2 v2_3 v2_4 : List Int) (v4 : List ByteArray) (n : Nat) : ∀ (v6_0 v6_1 v6_2 v6_3 v6_4 : List Int) (v25 : Int), Ans (aL v4 n v6_0 v6_1 v6_2 v6_3 v6_4 v25) (yb v2_0 v2_1 v2_2 v2_3 v2_4 v4 v6_0 v6_1 v6_2 v6_3 v6_4 v25) := by
 induction n with
 | zero => intros; exact Ans.none
 | succ n ih =>
  intro v6_0 v6_1 v6_2 v6_3 v6_4 v25
  unfold aL
  refine KO (fun h0 => ?_) (fun h0 => ?_)
  ·refine KO (fun h1 => ?_) (fun h1 => ?_)
   ·refine KP (fun g0 h2 => ?_)
    refine KQ (fun h3 => ?_)
    refine KO (fun h4 => ?_) (fun h4 => ?_)
    ·have r : ct (bj v2_0 v2_1 v2_2 v2_3 v2_4 v4 v6_0 v6_1 v6_2 v6_3 v6_4 v25) .normal (bj v2_0 v2_1 v2_2 v2_3 v2_4 v4 ((aN g0 v25).1) v6_1 v6_2 v6_3 v6_4 (inc v25)) := KJ [.b true, .val (.int .i64 0), .row (etS g0), .ret [(false, [.s .own () 1 (((aN g0 v25).1).map etI)]), (false, [tB true])]] _ (fun k => by kernel_rfl) (AC h0 <| AC (p := v25 = (0 : Int)) (eq_of_beq h1) <| AG etS h2 <| AD (b9 g0 v25 h3 h4) <| AN); exact (ih ((aN g0 v25).1) v6_1 v6_2 v6_3 v6_4 (inc v25)).mono fun y hy => by cases y <;> exact KM r hy
    ·exact KL (KN (show ct (bj v2_0 v2_1 v2_2 v2_3 v2_4 v4 v6_0 v6_1 v6_2 v6_3 v6_4 v25) .ret (dp ([]) ([]) ([]) ([]) ([]) false) from KJ [.b true, .val (.int .i64 0), .row (etS g0), .ret [(false, [.s .own () 1 (((aN g0 v25).1).map etI)]), (false, [tB false])]] _ (fun k => by kernel_rfl) (AC h0 <| AC (p := v25 = (0 : Int)) (eq_of_beq h1) <| AG etS h2 <| AD (b9 g0 v25 h3 h4) <| AN)) (by intro h; cases h))
   ·refine KO (fun h2 => ?_) (fun h2 => ?_)
    ·refine KP (fun g0 h3 => ?_)
     refine KQ (fun h4 => ?_)
     refine KO (fun h5 => ?_) (fun h5 => ?_)
     ·have r : ct (bj v2_0 v2_1 v2_2 v2_3 v2_4 v4 v6_0 v6_1 v6_2 v6_3 v6_4 v25) .normal (bj v2_0 v2_1 v2_2 v2_3 v2_4 v4 v6_0 ((aN g0 v25).1) v6_2 v6_3 v6_4 (inc v25)) := KJ [.b true, .val (.int .i64 1), .row (etS g0), .ret [(false, [.s .own () 1 (((aN g0 v25).1).map etI)]), (false, [tB true])]] _ (fun k => by kernel_rfl) (AC h0 <| AC (p := v25 = (1 : Int)) (eq_of_beq h2) <| AG etS h3 <| AD (b9 g0 v25 h4 h5) <| AN); exact (ih v6_0 ((aN g0 v25).1) v6_2 v6_3 v6_4 (inc v25)).mono fun y hy => by cases y <;> exact KM r hy
     ·exact KL (KN (show ct (bj v2_0 v2_1 v2_2 v2_3 v2_4 v4 v6_0 v6_1 v6_2 v6_3 v6_4 v25) .ret (dp ([]) ([]) ([]) ([]) ([]) false) from KJ [.b true, .val (.int .i64 1), .row (etS g0), .ret [(false, [.s .own () 1 (((aN g0 v25).1).map etI)]), (false, [tB false])]] _ (fun k => by kernel_rfl) (AC h0 <| AC (p := v25 = (1 : Int)) (eq_of_beq h2) <| AG etS h3 <| AD (b9 g0 v25 h4 h5) <| AN)) (by intro h; cases h))
    ·refine KO (fun h3 => ?_) (fun h3 => ?_)
     ·refine KP (fun g0 h4 => ?_)
      refine KQ (fun h5 => ?_)
      refine KO (fun h6 => ?_) (fun h6 => ?_)
      ·have r : ct (bj v2_0 v2_1 v2_2 v2_3 v2_4 v4 v6_0 v6_1 v6_2 v6_3 v6_4 v25) .normal (bj v2_0 v2_1 v2_2 v2_3 v2_4 v4 v6_0 v6_1 ((aN g0 v25).1) v6_3 v6_4 (inc v25)) := KJ [.b true, .val (.int .i64 2), .row (etS g0), .ret [(false, [.s .own () 1 (((aN g0 v25).1).map etI)]), (false, [tB true])]] _ (fun k => by kernel_rfl) (AC h0 <| AC (p := v25 = (2 : Int)) (eq_of_beq h3) <| AG etS h4 <| AD (b9 g0 v25 h5 h6) <| AN); exact (ih v6_0 v6_1 ((aN g0 v25).1) v6_3 v6_4 (inc v25)).mono fun y hy => by cases y <;> exact KM r hy
      ·exact KL (KN (show ct (bj v2_0 v2_1 v2_2 v2_3 v2_4 v4 v6_0 v6_1 v6_2 v6_3 v6_4 v25) .ret (dp ([]) ([]) ([]) ([]) ([]) false) from KJ [.b true, .val (.int .i64 2), .row (etS g0), .ret [(false, [.s .own () 1 (((aN g0 v25).1).map etI)]), (false, [tB false])]] _ (fun k => by kernel_rfl) (AC h0 <| AC (p := v25 = (2 : Int)) (eq_of_beq h3) <| AG etS h4 <| AD (b9 g0 v25 h5 h6) <| AN)) (by intro h; cases h))
     ·refine KO (fun h4 => ?_) (fun h4 => ?_)
      ·refine KP (fun g0 h5 => ?_)
       refine KQ (fun h6 => ?_)
       refine KO (fun h7 => ?_) (fun h7 => ?_)
       ·have r : ct (bj v2_0 v2_1 v2_2 v2_3 v2_4 v4 v6_0 v6_1 v6_2 v6_3 v6_4 v25) .normal (bj v2_0 v2_1 v2_2 v2_3 v2_4 v4 v6_0 v6_1 v6_2 ((aN g0 v25).1) v6_4 (inc v25)) := KJ [.b true, .val (.int .i64 3), .row (etS g0), .ret [(false, [.s .own () 1 (((aN g0 v25).1).map etI)]), (false, [tB true])]] _ (fun k => by kernel_rfl) (AC h0 <| AC (p := v25 = (3 : Int)) (eq_of_beq h4) <| AG etS h5 <| AD (b9 g0 v25 h6 h7) <| AN); exact (ih v6_0 v6_1 v6_2 ((aN g0 v25).1) v6_4 (inc v25)).mono fun y hy => by cases y <;> exact KM r hy
       ·exact KL (KN (show ct (bj v2_0 v2_1 v2_2 v2_3 v2_4 v4 v6_0 v6_1 v6_2 v6_3 v6_4 v25) .ret (dp ([]) ([]) ([]) ([]) ([]) false) from KJ [.b true, .val (.int .i64 3), .row (etS g0), .ret [(false, [.s .own () 1 (((aN g0 v25).1).map etI)]), (false, [tB false])]] _ (fun k => by kernel_rfl) (AC h0 <| AC (p := v25 = (3 : Int)) (eq_of_beq h4) <| AG etS h5 <| AD (b9 g0 v25 h6 h7) <| AN)) (by intro h; cases h))
      ·refine KQ (fun h5 => ?_)
       refine KP (fun g0 h6 => ?_)
       refine KQ (fun h7 => ?_)
       refine KO (fun h8 => ?_) (fun h8 => ?_)
       ·have r : ct (bj v2_0 v2_1 v2_2 v2_3 v2_4 v4 v6_0 v6_1 v6_2 v6_3 v6_4 v25) .normal (bj v2_0 v2_1 v2_2 v2_3 v2_4 v4 v6_0 v6_1 v6_2 v6_3 ((aN g0 v25).1) (inc v25)) := KJ [.b true, .val (.int .i64 4), .row (etS g0), .ret [(false, [.s .own () 1 (((aN g0 v25).1).map etI)]), (false, [tB true])]] _ (fun k => by kernel_rfl) (AC h0 <| AC h5 <| AG etS h6 <| AD (b9 g0 v25 h7 h8) <| AN); exact (ih v6_0 v6_1 v6_2 v6_3 ((aN g0 v25).1) (inc v25)).mono fun y hy => by cases y <;> exact KM r hy
       ·exact KL (KN (show ct (bj v2_0 v2_1 v2_2 v2_3 v2_4 v4 v6_0 v6_1 v6_2 v6_3 v6_4 v25) .ret (dp ([]) ([]) ([]) ([]) ([]) false) from KJ [.b true, .val (.int .i64 4), .row (etS g0), .ret [(false, [.s .own () 1 (((aN g0 v25).1).map etI)]), (false, [tB false])]] _ (fun k => by kernel_rfl) (AC h0 <| AC h5 <| AG etS h6 <| AD (b9 g0 v25 h7 h8) <| AN)) (by intro h; cases h))
  ·exact KL (KN (show ct (bj v2_0 v2_1 v2_2 v2_3 v2_4 v4 v6_0 v6_1 v6_2 v6_3 v6_4 v25) (.exit 0) (lA v2_0 v2_1 v2_2 v2_3 v2_4 v6_0 v6_1 v6_2 v6_3 v6_4) from KJ [.b false] _ (fun k => by kernel_rfl) (AC h0 <| AN)) (by intro h; cases h))
noncomputable def ld (x0 : ByteArray) : Option (GCron × Bool) :=
  cond ((aK x0).2)
   (cond ((((aK x0).1).length : Int) != (5 : Int))
    (some ((GCron.mk ([] : List Int) ([] : List Int) ([] : List Int) ([] : List Int) ([] : List Int)), false))
    ((aL ((aK x0).1) 9223372036854775808 ([]) ([]) ([]) ([]) ([]) (0 : Int)).bind fun y => match y with
     | .ret w0_2_0 w0_2_1 w0_2_2 w0_2_3 w0_2_4 w0_3 => (some ((GCron.mk w0_2_0 w0_2_1 w0_2_2 w0_2_3 w0_2_4), w0_3))
     | .x0 w0_6_0 w0_6_1 w0_6_2 w0_6_3 w0_6_4 => (some ((GCron.mk w0_6_0 w0_6_1 w0_6_2 w0_6_3 w0_6_4), true))))
   (some ((GCron.mk ([] : List Int) ([] : List Int) ([] : List Int) ([] : List Int) ([] : List Int)), false))
theorem zR (x0 : ByteArray) : Ans (ld x0) (fun r => Does E 68 [.one (tS x0)] [(true, GCron.t .own r.1), (false, [tB r.2])]) := by
 unfold ld
 refine KO (fun h0 => ?_) (fun h0 => ?_)
 ·refine KO (fun h1 => ?_) (fun h1 => ?_)
  ·exact KL (KK (fn := Tryz.f68) [.ret [(false, [.s .own () 1 (((aK x0).1).map etS)]), (false, [tB true])], .val (.int .i64 (((aK x0).1).length : Int)), .b true] _ rfl (fun _ => rfl) (fun k => by kernel_rfl) (AD (k8 x0 h0) <| ALn ((aK x0).1) etS <| AC h1 <| AN))
  ·refine KP (fun y hy => ?_)
   replace hy := ya ([]) ([]) ([]) ([]) ([]) ((aK x0).1) 9223372036854775808 ([]) ([]) ([]) ([]) ([]) (0 : Int) y hy
   cases y with
   | ret w0_2_0 w0_2_1 w0_2_2 w0_2_3 w0_2_4 w0_3 =>
    have h2 := hy
    exact KL (KK (fn := Tryz.f68) [.ret [(false, [.s .own () 1 (((aK x0).1).map etS)]), (false, [tB true])], .val (.int .i64 (((aK x0).1).length : Int)), .b false, .lp .ret (dp w0_2_0 w0_2_1 w0_2_2 w0_2_3 w0_2_4 w0_3)] _ rfl (fun _ => rfl) (fun k => by kernel_rfl) (AD (k8 x0 h0) <| ALn ((aK x0).1) etS <| AC h1 <| AL h2 <| AN))
   | x0 w0_6_0 w0_6_1 w0_6_2 w0_6_3 w0_6_4 =>
    have h2 := hy
    exact KL (KK (fn := Tryz.f68) [.ret [(false, [.s .own () 1 (((aK x0).1).map etS)]), (false, [tB true])], .val (.int .i64 (((aK x0).1).length : Int)), .b false, .lp (.exit 0) (lA ([]) ([]) ([]) ([]) ([]) w0_6_0 w0_6_1 w0_6_2 w0_6_3 w0_6_4)] _ rfl (fun _ => rfl) (fun k => by kernel_rfl) (AD (k8 x0 h0) <| ALn ((aK x0).1) etS <| AC h1 <| AL h2 <| AN))
 ·exact KL (KK (fn := Tryz.f68) [.ret [(false, [.s .own () 1 (((aK x0).1).map etS)]), (false, [tB false])]] _ rfl (fun _ => rfl) (fun k => by kernel_rfl) (AD (k8 x0 h0) <| AN))
def noCron : GCron := ⟨[], [], [], [], []⟩
noncomputable def rJ (a b c d e : ByteArray) : GCron × Bool :=
 cond (ag a 0 59).2 (cond (ag b 0 23).2 (cond (ag c 1 31).2 (cond (ag d 1 12).2 (cond (ag e 0 6).2
  (⟨(ag a 0 59).1, (ag b 0 23).1, (ag c 1 31).1, (ag d 1 12).1, (ag e 0 6).1⟩, true) (noCron, false)) (noCron, false)) (noCron, false)) (noCron, false)) (noCron, false)
noncomputable def A8 : List ByteArray → GCron × Bool
 | [a, b, c, d, e] => rJ a b c d e
 | _ => (noCron, false)
noncomputable def au (s : ByteArray) : GCron × Bool := A8 (aK s).1
theorem xn {s : ByteArray} (h : (aK s).2 = false) : (aK s).1 = [] := by
 unfold aK at h ⊢
 split
 ·rfl
 ·rename_i h0
  rw [if_neg h0] at h
  split
  ·rename_i h1
   rw [if_pos h1] at h
   split
   ·rfl
   ·rename_i h2
    rw [if_neg h2] at h; cases h
  ·rfl
theorem H5 {α : Type} {l : List α} (h : l.length = 5) : ∃ a b c d e, l = [a, b, c, d, e] := by
 match l, h with
 | [a, b, c, d, e], _ => exact ⟨a, b, c, d, e, rfl⟩
theorem tG {l : List ByteArray} (h : l.length ≠ 5) : A8 l = (noCron, false) := by
 unfold A8
 split
 ·exact absurd rfl h
 ·rfl
theorem JD (a b c d e : Bool) (n : Nat) : fQ [a, b, c, d, e] (n + 6) 0 = some (cond a (cond b (cond c (cond d (cond e .x0 (.ret [] [] [] [] [] false)) (.ret [] [] [] [] [] false)) (.ret [] [] [] [] [] false)) (.ret [] [] [] [] [] false)) (.ret [] [] [] [] [] false)) := by
 cases a <;> cases b <;> cases c <;> cases d <;> cases e <;> rfl
theorem I7 (s : ByteArray) : lm s = some (au s) := by
 unfold lm au
 cases q : (aK s).2 with
 | false =>
  rw [xn q]; rfl
 | true =>
  rw [cond_true]
  by_cases h : (aK s).1.length = 5
  ·obtain ⟨a, b, c, d, e, hl⟩ := H5 h
   have hm : ∀ p ∈ [a, b, c, d, e], p.size ≤ 2000000 := fun p hp => by
    rw [← hl] at hp
    have := qF hp
    omega
   have ha : (a.size ≤ 2000000) = True := eq_true (hm a (by simp))
   have hb : (b.size ≤ 2000000) = True := eq_true (hm b (by simp))
   have hc : (c.size ≤ 2000000) = True := eq_true (hm c (by simp))
   have hd : (d.size ≤ 2000000) = True := eq_true (hm d (by simp))
   have he : (e.size ≤ 2000000) = True := eq_true (hm e (by simp))
   have e5 : ((([a, b, c, d, e] : List ByteArray).length : Int) != 5) = false := rfl
   rw [hl, e5, cond_false, if_pos (by decide)]
   have g0 : aD [a, b, c, d, e] (0 : Int) = some a := rfl
   have g1 : aD [a, b, c, d, e] (1 : Int) = some b := rfl
   have g2 : aD [a, b, c, d, e] (2 : Int) = some c := rfl
   have g3 : aD [a, b, c, d, e] (3 : Int) = some d := rfl
   have g4 : aD [a, b, c, d, e] (4 : Int) = some e := rfl
   have b0 : ((0 : Int) ≤ 0 ∧ (0 : Int) ≤ 59 ∧ (59 : Int) ≤ 59) = True := eq_true (by decide)
   have b1 : ((0 : Int) ≤ 0 ∧ (0 : Int) ≤ 23 ∧ (23 : Int) ≤ 59) = True := eq_true (by decide)
   have b2 : ((0 : Int) ≤ 1 ∧ (1 : Int) ≤ 31 ∧ (31 : Int) ≤ 59) = True := eq_true (by decide)
   have b3 : ((0 : Int) ≤ 1 ∧ (1 : Int) ≤ 12 ∧ (12 : Int) ≤ 59) = True := eq_true (by decide)
   have b4 : ((0 : Int) ≤ 0 ∧ (0 : Int) ≤ 6 ∧ (6 : Int) ≤ 59) = True := eq_true (by decide)
   simp only [g0, g1, g2, g3, g4, Option.bind_some, ha, hb, hc, hd, he, b0, b1, b2, b3, b4, if_true]
   show (fQ [(ag a 0 59).2, (ag b 0 23).2, (ag c 1 31).2, (ag d 1 12).2, (ag e 0 6).2] (9223372036854775802 + 6) 0).bind _ = some (rJ a b c d e)
   rw [JD]
   unfold rJ
   cases (ag a 0 59).2 <;> cases (ag b 0 23).2 <;> cases (ag c 1 31).2 <;> cases (ag d 1 12).2 <;> cases (ag e 0 6).2 <;> rfl
  ·have e5 : (((aK s).1.length : Int) != 5) = true := by rw [bne_iff_ne]; omega
   rw [e5, cond_true, tG h]; rfl
theorem I6 (s : ByteArray) : ld s = some (au s) := by
 unfold ld au
 cases q : (aK s).2 with
 | false =>
  rw [xn q]; rfl
 | true =>
  rw [cond_true]
  by_cases h : (aK s).1.length = 5
  ·obtain ⟨a, b, c, d, e, hl⟩ := H5 h
   have hm : ∀ p ∈ [a, b, c, d, e], p.size ≤ 2000000 := fun p hp => by
    rw [← hl] at hp
    have := qF hp
    omega
   have e5 : ((([a, b, c, d, e] : List ByteArray).length : Int) != 5) = false := rfl
   rw [hl, e5, cond_false]
   have s0 : ∀ n v0 v1 v2 v3 v4, aL [a, b, c, d, e] (n + 1) v0 v1 v2 v3 v4 0 = cond (ag a 0 59).2 (aL [a, b, c, d, e] n (ag a 0 59).1 v1 v2 v3 v4 1) (some (.ret [] [] [] [] [] false)) := fun n v0 v1 v2 v3 v4 => by
    conv => lhs; unfold aL
    show (if a.size ≤ 2000000 then _ else none) = _
    rw [if_pos (hm a (by simp))]; rfl
   have s1 : ∀ n v0 v1 v2 v3 v4, aL [a, b, c, d, e] (n + 1) v0 v1 v2 v3 v4 1 = cond (ag b 0 23).2 (aL [a, b, c, d, e] n v0 (ag b 0 23).1 v2 v3 v4 2) (some (.ret [] [] [] [] [] false)) := fun n v0 v1 v2 v3 v4 => by
    conv => lhs; unfold aL
    show (if b.size ≤ 2000000 then _ else none) = _
    rw [if_pos (hm b (by simp))]; rfl
   have s2 : ∀ n v0 v1 v2 v3 v4, aL [a, b, c, d, e] (n + 1) v0 v1 v2 v3 v4 2 = cond (ag c 1 31).2 (aL [a, b, c, d, e] n v0 v1 (ag c 1 31).1 v3 v4 3) (some (.ret [] [] [] [] [] false)) := fun n v0 v1 v2 v3 v4 => by
    conv => lhs; unfold aL
    show (if c.size ≤ 2000000 then _ else none) = _
    rw [if_pos (hm c (by simp))]; rfl
   have s3 : ∀ n v0 v1 v2 v3 v4, aL [a, b, c, d, e] (n + 1) v0 v1 v2 v3 v4 3 = cond (ag d 1 12).2 (aL [a, b, c, d, e] n v0 v1 v2 (ag d 1 12).1 v4 4) (some (.ret [] [] [] [] [] false)) := fun n v0 v1 v2 v3 v4 => by
    conv => lhs; unfold aL
    show (if d.size ≤ 2000000 then _ else none) = _
    rw [if_pos (hm d (by simp))]; rfl
   have s4 : ∀ n v0 v1 v2 v3 v4, aL [a, b, c, d, e] (n + 1) v0 v1 v2 v3 v4 4 = cond (ag e 0 6).2 (aL [a, b, c, d, e] n v0 v1 v2 v3 (ag e 0 6).1 5) (some (.ret [] [] [] [] [] false)) := fun n v0 v1 v2 v3 v4 => by
    conv => lhs; unfold aL
    show (if (4 : Int) = 4 then (if e.size ≤ 2000000 then _ else none) else none) = _
    rw [if_pos rfl, if_pos (hm e (by simp))]; rfl
   have s5 : ∀ n v0 v1 v2 v3 v4, aL [a, b, c, d, e] (n + 1) v0 v1 v2 v3 v4 5 = some (.x0 v0 v1 v2 v3 v4) := fun n v0 v1 v2 v3 v4 => rfl
   have st : aL [a, b, c, d, e] (9223372036854775802 + 6) [] [] [] [] [] 0 = _ := s0 _ _ _ _ _ _
   rw [s1, s2, s3, s4, s5] at st
   refine (congrArg (Option.bind · _) st).trans ?_
   show _ = some (rJ a b c d e)
   unfold rJ
   cases (ag a 0 59).2 <;> cases (ag b 0 23).2 <;> cases (ag c 1 31).2 <;> cases (ag d 1 12).2 <;> cases (ag e 0 6).2 <;> rfl
  ·have e5 : (((aK s).1.length : Int) != 5) = true := by rw [bne_iff_ne]; omega
   rw [e5, cond_true, tG h]; rfl
theorem ra {lo hi : Int} {s : ByteArray} (hs : s.size ≤ 2000000) (hb : 0 ≤ lo ∧ lo ≤ hi ∧ hi ≤ 59) : an.sm (ag s lo hi).1 := by
 rcases (vR s lo hi hs hb).2.1 with h | h
 ·rw [h.2]; exact ⟨by decide, fun y hy => by cases hy⟩
 ·exact ⟨by have := h.2.2.2.2; omega, fun y hy => trivial⟩
theorem zt : an.sm noCron := ⟨⟨by decide, fun y hy => by cases hy⟩, ⟨by decide, fun y hy => by cases hy⟩, ⟨by decide, fun y hy => by cases hy⟩, ⟨by decide, fun y hy => by cases hy⟩, ⟨by decide, fun y hy => by cases hy⟩⟩
theorem Cd (s : ByteArray) : an.sm (au s).1 := by
 unfold au
 by_cases h : (aK s).1.length = 5
 ·obtain ⟨a, b, c, d, e, hl⟩ := H5 h
  have hm : ∀ p ∈ [a, b, c, d, e], p.size ≤ 2000000 := fun p hp => by
   rw [← hl] at hp
   have := qF hp
   omega
  rw [hl]
  show an.sm (rJ a b c d e).1
  unfold rJ
  have := ra (lo := 0) (hi := 59) (hm a (by simp)) (by decide)
  have := ra (lo := 0) (hi := 23) (hm b (by simp)) (by decide)
  have := ra (lo := 1) (hi := 31) (hm c (by simp)) (by decide)
  have := ra (lo := 1) (hi := 12) (hm d (by simp)) (by decide)
  have := ra (lo := 0) (hi := 6) (hm e (by simp)) (by decide)
  cases (ag a 0 59).2 <;> cases (ag b 0 23).2 <;> cases (ag c 1 31).2 <;> cases (ag d 1 12).2 <;> cases (ag e 0 6).2 <;> first | exact zt | exact ⟨by assumption, by assumption, by assumption, by assumption, by assumption⟩
 ·rw [tG h]; exact zt
theorem nX (x0 : ByteArray) : Does E 55 [.one (tS x0)] [(true, GCron.t .own ((au x0).1)), (false, [tB ((au x0).2)])] := by
 exact Ai x0 _ (I7 x0)
theorem d9 (x0 : ByteArray) {bb : Bool} (hbb : (au x0).2 = bb) : Does E 55 [.one (tS x0)] [(true, GCron.t .own ((au x0).1)), (false, [tB bb])] := by rw [← hbb]; exact nX x0
theorem zB (x0 : ByteArray) : Does E 68 [.one (tS x0)] [(true, GCron.t .own ((au x0).1)), (false, [tB ((au x0).2)])] := by
 exact zR x0 _ (I6 x0)
theorem pU (x0 : ByteArray) {bb : Bool} (hbb : (au x0).2 = bb) : Does E 68 [.one (tS x0)] [(true, GCron.t .own ((au x0).1)), (false, [tB bb])] := by rw [← hbb]; exact zB x0
end Go.Proofs.YtjfbofdmjihglaaGreatDoor.Am
namespace Go.Proofs.YtjfbofdmjihglaaGreatDoor.Am
open Go Go.Proofs Classical
set_option maxRecDepth 100000
set_option linter.unusedVariables false
set_option linter.unusedSimpArgs false
inductive xx where
 | ret (v4 : Bool)
 | x0 
def kE (v0 : List Int) (v1 v5 : Int) : US := stL 18 [(0, .one (.s .far () 1 (v0.map etI))), (1, .one (tI v1)), (5, .one (tI v5))]
def oy (zv4 : Bool) : US := stL 18 [(4, .one (tB zv4))]
def pK  : US := stL 18 []
abbrev sq : US → Exit → US → Prop := Round E 62 (aw Tryz.f62 0)
def FX (v0 : List Int) (v1 v5 : Int) : xx → Prop
 | .ret zv4 => Loops E 62 (aw Tryz.f62 0) (kE v0 v1 v5) .ret (oy zv4)
 | .x0 => Loops E 62 (aw Tryz.f62 0) (kE v0 v1 v5) (.exit 0) (pK)
noncomputable def iV (v1 : Int) : List Int → Nat → Option xx
 | [], i => some (.x0)
 | hd :: rest, i => cond (hd == v1)
  (some (.ret true))
  (iV v1 rest (i + 1))
theorem FW (v0 : List Int) (v1 : Int) (rest : List Int) : ∀ (i : Nat) , (v0).drop i = rest → v0.length ≤ 9223372036854775807 → Ans (iV v1 rest i) (FX v0 v1 (i : Int)) := by
 induction rest with
 | nil =>
  intro i hE hl
  have hb := bd hE
  unfold iV
  exact KL (KN (show sq (kE v0 v1 (i : Int)) (.exit 0) (pK) from KJ [.val (.int .i64 (v0.length : Int)), .b false] _ (fun k => by kernel_rfl) (ALn v0 etI <| AC hb <| AN)) (by intro h; cases h))
 | cons hd rest ih =>
  intro i hE hl
  have hb := aQ hE
  have hw := aR hE hl
  have hE2 := aF hE
  have hg := aS hE
  unfold iV
  refine KO (fun h2 => ?_) (fun h2 => ?_)
  ·exact KL (KN (show sq (kE v0 v1 (i : Int)) .ret (oy true) from KJ [.val (.int .i64 (v0.length : Int)), .b true, .row (etI hd), .b true] _ (fun k => by kernel_rfl) (ALn v0 etI <| AC hb <| AR etI hg <| AC h2 <| AN)) (by intro h; cases h))
  ·exact (ih (i + 1) hE2 hl).mono fun y hy => by have r : sq (kE v0 v1 (i : Int)) .normal (kE v0 v1 (inc (i : Int))) := KJ [.val (.int .i64 (v0.length : Int)), .b true, .row (etI hd), .b false] _ (fun k => by kernel_rfl) (ALn v0 etI <| AC hb <| AR etI hg <| AC h2 <| AN); rw [hw] at r; cases y <;> exact KM r hy
noncomputable def uG (x0 : List Int) (x1 : Int) : Option (Bool) :=
  if x0.length ≤ 9223372036854775807 then (iV x1 x0 0).bind fun y => match y with
   | .ret w0_4 => (some (w0_4))
   | .x0 => (some (false)) else none
theorem Hl (x0 : List Int) (x1 : Int) : Ans (uG x0 x1) (fun r => Does E 62 [.one (.s .far () 1 (x0.map etI)), .one (tI x1)] [(false, [tB r])]) := by
 unfold uG
 refine KQ (fun hl1 => ?_)
 refine KP (fun y hy => ?_)
 replace hy := FW x0 x1 x0 0 rfl hl1 y hy
 cases y with
 | ret w0_4 =>
  have h0 := hy
  exact KL (KK (fn := Tryz.f62) [.lp .ret (oy w0_4)] _ rfl (fun _ => rfl) (fun k => by kernel_rfl) (AL h0 <| AN))
 | x0 =>
  have h0 := hy
  exact KL (KK (fn := Tryz.f62) [.lp (.exit 0) (pK)] _ rfl (fun _ => rfl) (fun k => by kernel_rfl) (AL h0 <| AN))
def bO (l : List Int) (x : Int) : Bool := l.any fun y => y == x
theorem GQ (x : Int) : ∀ (rest : List Int) (i : Nat), iV x rest i = some (if bO rest x = true then .ret true else .x0)
 | [], i => rfl
 | y :: rest, i => by
  unfold iV
  rw [GQ x rest (i + 1)]
  unfold bO
  rw [List.any_cons]
  cases y == x <;> rfl
theorem pW (x0 : List Int) (x1 : Int) (h : x0.length ≤ 1050000) : Does E 62 [.one (.s .far () 1 (x0.map etI)), .one (tI x1)] [(false, [tB (bO x0 x1)])] := by
 exact Hl x0 x1 _ (by
  unfold uG
  rw [if_pos (by omega), GQ]
  cases q : bO x0 x1 <;> rfl)
inductive mU where
 | ret (v4 : Int)
 | x0 
def dz (v0 : List Int) (v1 v7 v8 : Int) : US := stL 19 [(0, .one (.s .far () 1 (v0.map etI))), (1, .one (tI v1)), (7, .one (tI v7)), (8, .one (tI v8))]
def gY (zv4 : Int) : US := stL 19 [(4, .one (tI zv4))]
def iw  : US := stL 19 []
abbrev jt : US → Exit → US → Prop := Round E 72 (aw Tryz.f72 0)
def tt (v0 : List Int) (v1 v7 v8 : Int) : mU → Prop
 | .ret zv4 => Loops E 72 (aw Tryz.f72 0) (dz v0 v1 v7 v8) .ret (gY zv4)
 | .x0 => Loops E 72 (aw Tryz.f72 0) (dz v0 v1 v7 v8) (.exit 0) (iw)
noncomputable def co (v1 : Int) : List Int → Nat → Option mU
 | [], i => some (.x0)
 | hd :: rest, i => cond (v1 == hd)
  (some (.ret (i : Int)))
  (co v1 rest (i + 1))
theorem tr (v0 : List Int) (v1 : Int) (rest : List Int) : ∀ (i : Nat) , (v0).drop i = rest → v0.length ≤ 9223372036854775807 → Ans (co v1 rest i) (tt v0 v1 (v0.length : Int) (i : Int)) := by
 induction rest with
 | nil =>
  intro i hE hl
  have hb := bd hE
  unfold co
  exact KL (KN (show jt (dz v0 v1 (v0.length : Int) (i : Int)) (.exit 0) (iw) from KJ [.b false] _ (fun k => by kernel_rfl) (AC hb <| AN)) (by intro h; cases h))
 | cons hd rest ih =>
  intro i hE hl
  have hb := aQ hE
  have hw := aR hE hl
  have hE2 := aF hE
  have hg := aS hE
  unfold co
  refine KO (fun h2 => ?_) (fun h2 => ?_)
  ·exact KL (KN (show jt (dz v0 v1 (v0.length : Int) (i : Int)) .ret (gY (i : Int)) from KJ [.b true, .row (etI hd), .b true] _ (fun k => by kernel_rfl) (AC hb <| AR etI hg <| AC h2 <| AN)) (by intro h; cases h))
  ·exact (ih (i + 1) hE2 hl).mono fun y hy => by have r : jt (dz v0 v1 (v0.length : Int) (i : Int)) .normal (dz v0 v1 (v0.length : Int) (inc (i : Int))) := KJ [.b true, .row (etI hd), .b false] _ (fun k => by kernel_rfl) (AC hb <| AR etI hg <| AC h2 <| AN); rw [hw] at r; cases y <;> exact KM r hy
noncomputable def dY (x0 : List Int) (x1 : Int) : Option (Int) :=
  if x0.length ≤ 9223372036854775807 then (co x1 x0 0).bind fun y => match y with
   | .ret w0_4 => (some (w0_4))
   | .x0 => (some ((-1 : Int))) else none
theorem uL (x0 : List Int) (x1 : Int) : Ans (dY x0 x1) (fun r => Does E 72 [.one (.s .far () 1 (x0.map etI)), .one (tI x1)] [(false, [tI r])]) := by
 unfold dY
 refine KQ (fun hl1 => ?_)
 refine KP (fun y hy => ?_)
 replace hy := tr x0 x1 x0 0 rfl hl1 y hy
 cases y with
 | ret w0_4 =>
  have h0 := hy
  exact KL (KK (fn := Tryz.f72) [.val (.int .i64 (x0.length : Int)), .lp .ret (gY w0_4)] _ rfl (fun _ => rfl) (fun k => by kernel_rfl) (ALn x0 etI <| AL h0 <| AN))
 | x0 =>
  have h0 := hy
  exact KL (KK (fn := Tryz.f72) [.val (.int .i64 (x0.length : Int)), .lp (.exit 0) (iw)] _ rfl (fun _ => rfl) (fun k => by kernel_rfl) (ALn x0 etI <| AL h0 <| AN))
noncomputable def vY (l : List Int) (x : Int) : Int := (dY l x).getD (-1)
theorem Iz (x : Int) : ∀ (rest : List Int) (i : Nat), (∃ k : Nat, co x rest i = some (.ret (k : Int)) ∧ bO rest x = true) ∨ co x rest i = some .x0 ∧ bO rest x = false
 | [], i => .inr ⟨rfl, rfl⟩
 | y :: rest, i => by
  have e : (x == y) = (y == x) := by cases q : y == x with | true => rw [eq_of_beq q]; simp | false => exact beq_eq_false_iff_ne.2 fun e => by rw [e] at q; simp at q
  unfold co bO
  rw [List.any_cons, e]
  cases y == x with
  | true => exact .inl ⟨i, rfl, rfl⟩
  | false => exact Iz x rest (i + 1)
theorem GN (l : List Int) (x : Int) (h : l.length ≤ 1050000) : dY l x = some (vY l x) ∧ decide (vY l x ≥ (0 : Int)) = bO l x := by
 have e : ∃ r, dY l x = some r ∧ decide (r ≥ (0 : Int)) = bO l x := by
  unfold dY
  rw [if_pos (by omega)]
  rcases Iz x l 0 with ⟨k, h1, h2⟩ | ⟨h1, h2⟩
  ·exact ⟨(k : Int), by rw [h1]; rfl, by rw [h2]; exact decide_eq_true (by omega)⟩
  ·exact ⟨-1, by rw [h1]; rfl, by rw [h2]; rfl⟩
 obtain ⟨r, h1, h2⟩ := e
 have p : vY l x = r := by unfold vY; rw [h1]; rfl
 rw [p]; exact ⟨h1, h2⟩
theorem tA (x0 : List Int) (x1 : Int) (h : x0.length ≤ 1050000) : Does E 72 [.one (.s .far () 1 (x0.map etI)), .one (tI x1)] [(false, [tI (vY x0 x1)])] := by
 exact uL x0 x1 _ (GN x0 x1 h).1
noncomputable def iv (x0 : List Int) (x1 : Int) : Option (Bool) :=
  if x0.length ≤ 1050000 then some (decide ((vY x0 x1) ≥ (0 : Int))) else none
theorem ru (x0 : List Int) (x1 : Int) : Ans (iv x0 x1) (fun r => Does E 51 [.one (.s .far () 1 (x0.map etI)), .one (tI x1)] [(false, [tB r])]) := by
 unfold iv
 refine KQ (fun h0 => ?_)
 exact KL (KK (fn := Tryz.f51) [.ret [(false, [tI (vY x0 x1)])]] _ rfl (fun _ => rfl) (fun k => by kernel_rfl) (AD (tA x0 x1 h0) <| AN))
theorem cX (x0 : List Int) (x1 : Int) (h : x0.length ≤ 1050000) : Does E 51 [.one (.s .far () 1 (x0.map etI)), .one (tI x1)] [(false, [tB (bO x0 x1)])] := by
 exact ru x0 x1 _ (by
  unfold iv
  try rw [if_pos h]
  rw [(GN x0 x1 h).2])
inductive uH where
 | ret (v6 : Bool)
 | x0 
def es (v0 : List Int) (v1 v2 v7 : Int) : US := stL 41 [(0, .one (.s .far () 1 (v0.map etI))), (1, .one (tI v1)), (2, .one (tI v2)), (7, .one (tI v7))]
def jE (zv6 : Bool) : US := stL 41 [(6, .one (tB zv6))]
def nm (v0 : List Int) : US := stL 41 [(0, .one (.s .far () 1 (v0.map etI)))]
abbrev j7 : US → Exit → US → Prop := Round E 103 (aw Tryz.f103 0)
def CF (v0 : List Int) (v1 v2 v7 : Int) : uH → Prop
 | .ret zv6 => Loops E 103 (aw Tryz.f103 0) (es v0 v1 v2 v7) .ret (jE zv6)
 | .x0 => Loops E 103 (aw Tryz.f103 0) (es v0 v1 v2 v7) (.exit 0) (nm v0)
noncomputable def eZ (v0 : List Int) (v1 v2 : Int) : List Int → Nat → Option uH
 | [], i => some (.x0)
 | hd :: rest, i => cond (aH hd v1 v2)
  (cond (decide ((i : Int) > (0 : Int)))
   ((aD v0 (IntKind.wrap .i64 ((i : Int) - (1 : Int)))).bind fun g1 => cond (decide (g1 ≥ hd))
    (some (.ret false))
    (eZ v0 v1 v2 rest (i + 1)))
   (eZ v0 v1 v2 rest (i + 1)))
  (some (.ret false))
theorem CE (v0 : List Int) (v1 v2 : Int) (rest : List Int) : ∀ (i : Nat) , (v0).drop i = rest → v0.length ≤ 9223372036854775807 → Ans (eZ v0 v1 v2 rest i) (CF v0 v1 v2 (i : Int)) := by
 induction rest with
 | nil =>
  intro i hE hl
  have hb := bd hE
  unfold eZ
  exact KL (KN (show j7 (es v0 v1 v2 (i : Int)) (.exit 0) (nm v0) from KJ [.val (.int .i64 (v0.length : Int)), .b false] _ (fun k => by kernel_rfl) (ALn v0 etI <| AC hb <| AN)) (by intro h; cases h))
 | cons hd rest ih =>
  intro i hE hl
  have hb := aQ hE
  have hw := aR hE hl
  have hE2 := aF hE
  have hg := aS hE
  unfold eZ
  refine KO (fun h2 => ?_) (fun h2 => ?_)
  ·refine KO (fun h3 => ?_) (fun h3 => ?_)
   ·refine KP (fun g1 h4 => ?_)
    refine KO (fun h5 => ?_) (fun h5 => ?_)
    ·exact KL (KN (show j7 (es v0 v1 v2 (i : Int)) .ret (jE false) from KJ [.val (.int .i64 (v0.length : Int)), .b true, .row (etI hd), rT, .b true, .row (etI g1), .row (etI hd), .b true] _ (fun k => by kernel_rfl) (ALn v0 etI <| AC hb <| AR etI hg <| AD (KT (bo hd v1 v2) h2) <| AC h3 <| AR etI h4 <| AR etI hg <| AC h5 <| AN)) (by intro h; cases h))
    ·exact (ih (i + 1) hE2 hl).mono fun y hy => by have r : j7 (es v0 v1 v2 (i : Int)) .normal (es v0 v1 v2 (inc (i : Int))) := KJ [.val (.int .i64 (v0.length : Int)), .b true, .row (etI hd), rT, .b true, .row (etI g1), .row (etI hd), .b false] _ (fun k => by kernel_rfl) (ALn v0 etI <| AC hb <| AR etI hg <| AD (KT (bo hd v1 v2) h2) <| AC h3 <| AR etI h4 <| AR etI hg <| AC h5 <| AN); rw [hw] at r; cases y <;> exact KM r hy
   ·exact (ih (i + 1) hE2 hl).mono fun y hy => by have r : j7 (es v0 v1 v2 (i : Int)) .normal (es v0 v1 v2 (inc (i : Int))) := KJ [.val (.int .i64 (v0.length : Int)), .b true, .row (etI hd), rT, .b false] _ (fun k => by kernel_rfl) (ALn v0 etI <| AC hb <| AR etI hg <| AD (KT (bo hd v1 v2) h2) <| AC h3 <| AN); rw [hw] at r; cases y <;> exact KM r hy
  ·exact KL (KN (show j7 (es v0 v1 v2 (i : Int)) .ret (jE false) from KJ [.val (.int .i64 (v0.length : Int)), .b true, .row (etI hd), rF] _ (fun k => by kernel_rfl) (ALn v0 etI <| AC hb <| AR etI hg <| AD (KT (bo hd v1 v2) h2) <| AN)) (by intro h; cases h))
noncomputable def qJ (x0 : List Int) (x1 x2 : Int) : Option (Bool) :=
  if x0.length ≤ 9223372036854775807 then (eZ x0 x1 x2 x0 0).bind fun y => match y with
   | .ret w0_6 => (some (w0_6))
   | .x0 => (some (decide ((x0.length : Int) > (0 : Int)))) else none
theorem D6 (x0 : List Int) (x1 x2 : Int) : Ans (qJ x0 x1 x2) (fun r => Does E 103 [.one (.s .far () 1 (x0.map etI)), .one (tI x1), .one (tI x2)] [(false, [tB r])]) := by
 unfold qJ
 refine KQ (fun hl1 => ?_)
 refine KP (fun y hy => ?_)
 replace hy := CE x0 x1 x2 x0 0 rfl hl1 y hy
 cases y with
 | ret w0_6 =>
  have h0 := hy
  exact KL (KK (fn := Tryz.f103) [.lp .ret (jE w0_6)] _ rfl (fun _ => rfl) (fun k => by kernel_rfl) (AL h0 <| AN))
 | x0 =>
  have h0 := hy
  exact KL (KK (fn := Tryz.f103) [.lp (.exit 0) (nm x0), .val (.int .i64 (x0.length : Int))] _ rfl (fun _ => rfl) (fun k => by kernel_rfl) (AL h0 <| ALn x0 etI <| AN))
def jb (a b : Int) : List Int → Option Int → Bool
 | [], _ => true
 | x :: l, p => aH x a b && (match p with | some y => decide (y < x) | none => true) && jb a b l (some x)
def aY (l : List Int) (a b : Int) : Bool := jb a b l none && decide ((l.length : Int) > 0)
theorem Ex {aT rest : List Int} {x : Int} {i : Nat} (h : aT.drop i = x :: rest) : i = 0 ∨ ∃ y, aT[i - 1]? = some y := by
 cases i with
 | zero => exact .inl rfl
 | succ i =>
  right
  have : i < aT.length := by
   rcases Nat.lt_or_ge i aT.length with g | g
   ·exact g
   ·rw [List.drop_eq_nil_of_le (by omega)] at h; cases h
  exact ⟨aT[i], by simp [this]⟩
def gK (aT : List Int) (i : Nat) : Option Int := if i = 0 then none else aT[i - 1]?
theorem zn {aT rest : List Int} {x : Int} {i : Nat} (h : aT.drop i = x :: rest) : gK aT (i + 1) = some x := by
 unfold gK
 rw [if_neg (by omega)]
 show aT[i]? = some x
 rw [← List.head?_drop, h]; rfl
theorem GW (aT : List Int) (a b : Int) (hl : aT.length ≤ 1050000) : ∀ (rest : List Int) (i : Nat), aT.drop i = rest → eZ aT a b rest i = some (if jb a b rest (gK aT i) = true then .x0 else .ret false)
 | [], i, _ => rfl
 | x :: rest, i, h => by
  have ih := GW aT a b hl rest (i + 1) (aF h)
  rw [zn h] at ih
  have hi : i < aT.length := by
   rcases Nat.lt_or_ge i aT.length with g | g
   ·exact g
   ·rw [List.drop_eq_nil_of_le g] at h; cases h
  unfold eZ jb
  rw [ih]
  cases aH x a b with
  | false => rfl
  | true =>
   rw [cond_true, Bool.true_and]
   rcases Ex h with rfl | ⟨y, hy⟩
   ·simp [gK]
   ·by_cases z : i = 0
    ·subst z; simp [gK]
    ·have hp : gK aT i = some y := by unfold gK; rw [if_neg z, hy]
     have hg : aD aT (IntKind.wrap .i64 ((i : Int) - 1)) = some y := by
      rw [cP _ (by omega) (by omega)]
      have e : ((i : Int) - 1) = ((i - 1 : Nat) : Int) := by omega
      rw [e, eG, hy]
     rw [hp, hg, decide_eq_true (by omega : (i : Int) > 0), cond_true, Option.bind_some]
     simp only
     by_cases c : y ≥ x
     ·have yx : ¬ y < x := by omega
      rw [decide_eq_true c, cond_true]; simp [yx]
     ·have yx : y < x := by omega
      rw [decide_eq_false c, cond_false]; simp [yx]
theorem ca (x0 : List Int) (x1 : Int) (x2 : Int) (h : x0.length ≤ 1050000) : Does E 103 [.one (.s .far () 1 (x0.map etI)), .one (tI x1), .one (tI x2)] [(false, [tB (aY x0 x1 x2)])] := by
 exact D6 x0 x1 x2 _ (by
  unfold qJ
  rw [if_pos (by omega), GW x0 x1 x2 h x0 0 rfl]
  unfold aY gK
  rw [if_pos rfl]
  cases jb x1 x2 x0 none <;> rfl)
noncomputable def sn (x0 : GCron) : Option (Bool) :=
  if x0.f0.length ≤ 1050000 then cond (aY x0.f0 (0 : Int) (59 : Int))
   (if x0.f1.length ≤ 1050000 then cond (aY x0.f1 (0 : Int) (23 : Int))
    (if x0.f2.length ≤ 1050000 then cond (aY x0.f2 (1 : Int) (31 : Int))
     (if x0.f3.length ≤ 1050000 then cond (aY x0.f3 (1 : Int) (12 : Int))
      (if x0.f4.length ≤ 1050000 then some (aY x0.f4 (0 : Int) (6 : Int)) else none)
      (some (false)) else none)
     (some (false)) else none)
    (some (false)) else none)
   (some (false)) else none
theorem FS (x0 : GCron) : Ans (sn x0) (fun r => Does E 78 [.agg (GCron.t .far x0)] [(false, [tB r])]) := by
 unfold sn
 refine KQ (fun h0 => ?_)
 refine KO (fun h1 => ?_) (fun h1 => ?_)
 ·refine KQ (fun h2 => ?_)
  refine KO (fun h3 => ?_) (fun h3 => ?_)
  ·refine KQ (fun h4 => ?_)
   refine KO (fun h5 => ?_) (fun h5 => ?_)
   ·refine KQ (fun h6 => ?_)
    refine KO (fun h7 => ?_) (fun h7 => ?_)
    ·refine KQ (fun h8 => ?_)
     exact KL (KK (fn := Tryz.f78) [rT, rT, rT, rT, .ret [(false, [tB (aY x0.f4 (0 : Int) (6 : Int))])]] _ rfl (fun _ => rfl) (fun k => by kernel_rfl) (AD (KT (ca x0.f0 (0 : Int) (59 : Int) h0) h1) <| AD (KT (ca x0.f1 (0 : Int) (23 : Int) h2) h3) <| AD (KT (ca x0.f2 (1 : Int) (31 : Int) h4) h5) <| AD (KT (ca x0.f3 (1 : Int) (12 : Int) h6) h7) <| AD (ca x0.f4 (0 : Int) (6 : Int) h8) <| AN))
    ·exact KL (KK (fn := Tryz.f78) [rT, rT, rT, rF] _ rfl (fun _ => rfl) (fun k => by kernel_rfl) (AD (KT (ca x0.f0 (0 : Int) (59 : Int) h0) h1) <| AD (KT (ca x0.f1 (0 : Int) (23 : Int) h2) h3) <| AD (KT (ca x0.f2 (1 : Int) (31 : Int) h4) h5) <| AD (KT (ca x0.f3 (1 : Int) (12 : Int) h6) h7) <| AN))
   ·exact KL (KK (fn := Tryz.f78) [rT, rT, rF] _ rfl (fun _ => rfl) (fun k => by kernel_rfl) (AD (KT (ca x0.f0 (0 : Int) (59 : Int) h0) h1) <| AD (KT (ca x0.f1 (0 : Int) (23 : Int) h2) h3) <| AD (KT (ca x0.f2 (1 : Int) (31 : Int) h4) h5) <| AN))
  ·exact KL (KK (fn := Tryz.f78) [rT, rF] _ rfl (fun _ => rfl) (fun k => by kernel_rfl) (AD (KT (ca x0.f0 (0 : Int) (59 : Int) h0) h1) <| AD (KT (ca x0.f1 (0 : Int) (23 : Int) h2) h3) <| AN))
 ·exact KL (KK (fn := Tryz.f78) [rF] _ rfl (fun _ => rfl) (fun k => by kernel_rfl) (AD (KT (ca x0.f0 (0 : Int) (59 : Int) h0) h1) <| AN))
def gz (c : GCron) : Bool := aY c.f0 0 59 && (aY c.f1 0 23 && (aY c.f2 1 31 && (aY c.f3 1 12 && aY c.f4 0 6)))
theorem wD (x0 : GCron) (h : an.sm x0) : Does E 78 [.agg (GCron.t .far x0)] [(false, [tB (gz x0)])] := by
 exact FS x0 _ (by
  have h0 := h.1.1
  have h1 := h.2.1.1
  have h2 := h.2.2.1.1
  have h3 := h.2.2.2.1.1
  have h4 := h.2.2.2.2.1
  unfold sn gz
  simp only [h0, h1, h2, h3, h4, if_true]
  cases aY x0.f0 0 59 <;> cases aY x0.f1 0 23 <;> cases aY x0.f2 1 31 <;> cases aY x0.f3 1 12 <;> rfl)
inductive vl where
 | ret (v2 : Bool)
 | x2 
def eK (v1_0 v1_1 v1_2 v1_3 v1_4 : List Int) (v5 v6 : Int) (v7 : List Int) (v11 : Int) (v23 : List Int) (v24 v25 : Int) : US := stL 53 [(1, .box () [.s .far () 1 (v1_0.map etI), .s .far () 1 (v1_1.map etI), .s .far () 1 (v1_2.map etI), .s .far () 1 (v1_3.map etI), .s .far () 1 (v1_4.map etI)]), (5, .one (tI v5)), (6, .one (tI v6)), (7, .one (.s .far () 1 (v7.map etI))), (10, .clo (.arr [0, 1, 2, 3, 4]) [1, 1, 1, 1, 1]), (11, .one (tI v11)), (23, .one (.s .far () 1 (v23.map etI))), (24, .one (tI v24)), (25, .one (tI v25))]
def dU (zv2 : Bool) : US := stL 53 [(2, .one (tB zv2))]
def cq (v1_0 v1_1 v1_2 v1_3 v1_4 v7 : List Int) (v11 : Int) : US := stL 53 [(1, .box () [.s .far () 1 (v1_0.map etI), .s .far () 1 (v1_1.map etI), .s .far () 1 (v1_2.map etI), .s .far () 1 (v1_3.map etI), .s .far () 1 (v1_4.map etI)]), (7, .one (.s .far () 1 (v7.map etI))), (10, .clo (.arr [0, 1, 2, 3, 4]) [1, 1, 1, 1, 1]), (11, .one (tI v11))]
abbrev kX : US → Exit → US → Prop := Round E 88 (aw Tryz.f88 1)
def Dv (v1_0 v1_1 v1_2 v1_3 v1_4 : List Int) (v5 v6 : Int) (v7 : List Int) (v11 : Int) (v23 : List Int) (v24 v25 : Int) : vl → Prop
 | .ret zv2 => Loops E 88 (aw Tryz.f88 1) (eK v1_0 v1_1 v1_2 v1_3 v1_4 v5 v6 v7 v11 v23 v24 v25) .ret (dU zv2)
 | .x2 => Loops E 88 (aw Tryz.f88 1) (eK v1_0 v1_1 v1_2 v1_3 v1_4 v5 v6 v7 v11 v23 v24 v25) (.exit 2) (cq v1_0 v1_1 v1_2 v1_3 v1_4 v7 v11)
noncomputable def cM (v5 v6 : Int) (v7 : List Int) : List Int → Nat → Option vl
 | [], i => some (.x2)
 | hd :: rest, i => cond (aH hd v5 v6)
  (cond (decide ((i : Int) > (0 : Int)))
   ((aD v7 (IntKind.wrap .i64 ((i : Int) - (1 : Int)))).bind fun g1 => cond (decide (hd ≤ g1))
    (some (.ret false))
    (cM v5 v6 v7 rest (i + 1)))
   (cM v5 v6 v7 rest (i + 1)))
  (some (.ret false))
theorem kY (v1_0 v1_1 v1_2 v1_3 v1_4 : List Int) (v5 v6 : Int) (v7 : List Int) (v11 : Int) (v23 : List Int) (rest : List Int) : ∀ (i : Nat) , (v23).drop i = rest → v23.length ≤ 9223372036854775807 → Ans (cM v5 v6 v7 rest i) (Dv v1_0 v1_1 v1_2 v1_3 v1_4 v5 v6 v7 v11 v23 (v23.length : Int) (i : Int)) := by
 induction rest with
 | nil =>
  intro i hE hl
  have hb := bd hE
  unfold cM
  exact KL (KN (show kX (eK v1_0 v1_1 v1_2 v1_3 v1_4 v5 v6 v7 v11 v23 (v23.length : Int) (i : Int)) (.exit 2) (cq v1_0 v1_1 v1_2 v1_3 v1_4 v7 v11) from KJ [.b false] _ (fun k => by kernel_rfl) (AC hb <| AN)) (by intro h; cases h))
 | cons hd rest ih =>
  intro i hE hl
  have hb := aQ hE
  have hw := aR hE hl
  have hE2 := aF hE
  have hg := aS hE
  unfold cM
  refine KO (fun h2 => ?_) (fun h2 => ?_)
  ·refine KO (fun h3 => ?_) (fun h3 => ?_)
   ·refine KP (fun g1 h4 => ?_)
    refine KO (fun h5 => ?_) (fun h5 => ?_)
    ·exact KL (KN (show kX (eK v1_0 v1_1 v1_2 v1_3 v1_4 v5 v6 v7 v11 v23 (v23.length : Int) (i : Int)) .ret (dU false) from KJ [.b true, .row (etI hd), rT, .b true, .row (etI g1), .b true] _ (fun k => by kernel_rfl) (AC hb <| AR etI hg <| AD (KT (cL hd v5 v6) h2) <| AC h3 <| AR etI h4 <| AC h5 <| AN)) (by intro h; cases h))
    ·exact (ih (i + 1) hE2 hl).mono fun y hy => by have r : kX (eK v1_0 v1_1 v1_2 v1_3 v1_4 v5 v6 v7 v11 v23 (v23.length : Int) (i : Int)) .normal (eK v1_0 v1_1 v1_2 v1_3 v1_4 v5 v6 v7 v11 v23 (v23.length : Int) (inc (i : Int))) := KJ [.b true, .row (etI hd), rT, .b true, .row (etI g1), .b false] _ (fun k => by kernel_rfl) (AC hb <| AR etI hg <| AD (KT (cL hd v5 v6) h2) <| AC h3 <| AR etI h4 <| AC h5 <| AN); rw [hw] at r; cases y <;> exact KM r hy
   ·exact (ih (i + 1) hE2 hl).mono fun y hy => by have r : kX (eK v1_0 v1_1 v1_2 v1_3 v1_4 v5 v6 v7 v11 v23 (v23.length : Int) (i : Int)) .normal (eK v1_0 v1_1 v1_2 v1_3 v1_4 v5 v6 v7 v11 v23 (v23.length : Int) (inc (i : Int))) := KJ [.b true, .row (etI hd), rT, .b false] _ (fun k => by kernel_rfl) (AC hb <| AR etI hg <| AD (KT (cL hd v5 v6) h2) <| AC h3 <| AN); rw [hw] at r; cases y <;> exact KM r hy
  ·exact KL (KN (show kX (eK v1_0 v1_1 v1_2 v1_3 v1_4 v5 v6 v7 v11 v23 (v23.length : Int) (i : Int)) .ret (dU false) from KJ [.b true, .row (etI hd), rF] _ (fun k => by kernel_rfl) (AC hb <| AR etI hg <| AD (KT (cL hd v5 v6) h2) <| AN)) (by intro h; cases h))
inductive qx where
 | ret (v2 : Bool)
 | x0 
def bn (v1_0 v1_1 v1_2 v1_3 v1_4 : List Int) (v11 : Int) : US := stL 53 [(1, .box () [.s .far () 1 (v1_0.map etI), .s .far () 1 (v1_1.map etI), .s .far () 1 (v1_2.map etI), .s .far () 1 (v1_3.map etI), .s .far () 1 (v1_4.map etI)]), (10, .clo (.arr [0, 1, 2, 3, 4]) [1, 1, 1, 1, 1]), (11, .one (tI v11))]
def bY (zv2 : Bool) : US := stL 53 [(2, .one (tB zv2))]
def nY  : US := stL 53 []
abbrev bW : US → Exit → US → Prop := Round E 88 (aw Tryz.f88 0)
def Du (v1_0 v1_1 v1_2 v1_3 v1_4 : List Int) (v11 : Int) : qx → Prop
 | .ret zv2 => Loops E 88 (aw Tryz.f88 0) (bn v1_0 v1_1 v1_2 v1_3 v1_4 v11) .ret (bY zv2)
 | .x0 => Loops E 88 (aw Tryz.f88 0) (bn v1_0 v1_1 v1_2 v1_3 v1_4 v11) (.exit 0) (nY)
noncomputable def bz (v1_0 v1_1 v1_2 v1_3 v1_4 : List Int) : Nat → Int → Option qx
 | 0, _ => none
 | n + 1, v11 => cond (decide (v11 < (5 : Int)))
  (cond (v11 == (0 : Int))
   (if v1_0.length ≤ 9223372036854775807 then (cM ((aG v11).1) ((aG v11).2) v1_0 v1_0 0).bind fun y => match y with
    | .ret w0_2 => (some (.ret w0_2))
    | .x2 => (cond ((v1_0.length : Int) == (0 : Int))
     (some (.ret false))
     (bz v1_0 v1_1 v1_2 v1_3 v1_4 n (inc v11))) else none)
   (cond (v11 == (1 : Int))
    (if v1_1.length ≤ 9223372036854775807 then (cM ((aG v11).1) ((aG v11).2) v1_1 v1_1 0).bind fun y => match y with
     | .ret w0_2 => (some (.ret w0_2))
     | .x2 => (cond ((v1_1.length : Int) == (0 : Int))
      (some (.ret false))
      (bz v1_0 v1_1 v1_2 v1_3 v1_4 n (inc v11))) else none)
    (cond (v11 == (2 : Int))
     (if v1_2.length ≤ 9223372036854775807 then (cM ((aG v11).1) ((aG v11).2) v1_2 v1_2 0).bind fun y => match y with
      | .ret w0_2 => (some (.ret w0_2))
      | .x2 => (cond ((v1_2.length : Int) == (0 : Int))
       (some (.ret false))
       (bz v1_0 v1_1 v1_2 v1_3 v1_4 n (inc v11))) else none)
     (cond (v11 == (3 : Int))
      (if v1_3.length ≤ 9223372036854775807 then (cM ((aG v11).1) ((aG v11).2) v1_3 v1_3 0).bind fun y => match y with
       | .ret w0_2 => (some (.ret w0_2))
       | .x2 => (cond ((v1_3.length : Int) == (0 : Int))
        (some (.ret false))
        (bz v1_0 v1_1 v1_2 v1_3 v1_4 n (inc v11))) else none)
      (if v11 = (4 : Int) then if v1_4.length ≤ 9223372036854775807 then (cM ((aG v11).1) ((aG v11).2) v1_4 v1_4 0).bind fun y => match y with
       | .ret w0_2 => (some (.ret w0_2))
       | .x2 => (cond ((v1_4.length : Int) == (0 : Int))
        (some (.ret false))
        (bz v1_0 v1_1 v1_2 v1_3 v1_4 n (inc v11))) else none else none)))))
  (some (.x0))
theorem Dt (v1_0 v1_1 v1_2 v1_3 v1_4 : List Int) (n : Nat) : ∀ (v11 : Int), Ans (bz v1_0 v1_1 v1_2 v1_3 v1_4 n v11) (Du v1_0 v1_1 v1_2 v1_3 v1_4 v11) := by
 induction n with
 | zero => intros; exact Ans.none
 | succ n ih =>
  intro v11
  unfold bz
  refine KO (fun h0 => ?_) (fun h0 => ?_)
  ·refine KO (fun h1 => ?_) (fun h1 => ?_)
   ·refine KQ (fun hl4 => ?_)
    refine KP (fun y hy => ?_)
    replace hy := kY v1_0 v1_1 v1_2 v1_3 v1_4 ((aG v11).1) ((aG v11).2) v1_0 v11 v1_0 v1_0 0 rfl hl4 y hy
    cases y with
    | ret w0_2 =>
     have h2 := hy
     exact KL (KN (show bW (bn v1_0 v1_1 v1_2 v1_3 v1_4 v11) .ret (bY w0_2) from KJ [.b true, .val (.int .i64 0), .ret [(false, [tI ((aG v11).1)]), (false, [tI ((aG v11).2)])], .val (.int .i64 (v1_0.length : Int)), .lp .ret (dU w0_2)] _ (fun k => by kernel_rfl) (AC h0 <| AC (p := v11 = (0 : Int)) (eq_of_beq h1) <| AD (bT v11) <| ALn v1_0 etI <| AL h2 <| AN)) (by intro h; cases h))
    | x2 =>
     have h2 := hy
     refine KO (fun h3 => ?_) (fun h3 => ?_)
     ·exact KL (KN (show bW (bn v1_0 v1_1 v1_2 v1_3 v1_4 v11) .ret (bY false) from KJ [.b true, .val (.int .i64 0), .ret [(false, [tI ((aG v11).1)]), (false, [tI ((aG v11).2)])], .val (.int .i64 (v1_0.length : Int)), .lp (.exit 2) (cq v1_0 v1_1 v1_2 v1_3 v1_4 v1_0 v11), .val (.int .i64 (v1_0.length : Int)), .b true] _ (fun k => by kernel_rfl) (AC h0 <| AC (p := v11 = (0 : Int)) (eq_of_beq h1) <| AD (bT v11) <| ALn v1_0 etI <| AL h2 <| ALn v1_0 etI <| AC h3 <| AN)) (by intro h; cases h))
     ·have r : bW (bn v1_0 v1_1 v1_2 v1_3 v1_4 v11) .normal (bn v1_0 v1_1 v1_2 v1_3 v1_4 (inc v11)) := KJ [.b true, .val (.int .i64 0), .ret [(false, [tI ((aG v11).1)]), (false, [tI ((aG v11).2)])], .val (.int .i64 (v1_0.length : Int)), .lp (.exit 2) (cq v1_0 v1_1 v1_2 v1_3 v1_4 v1_0 v11), .val (.int .i64 (v1_0.length : Int)), .b false] _ (fun k => by kernel_rfl) (AC h0 <| AC (p := v11 = (0 : Int)) (eq_of_beq h1) <| AD (bT v11) <| ALn v1_0 etI <| AL h2 <| ALn v1_0 etI <| AC h3 <| AN); exact (ih (inc v11)).mono fun y hy => by cases y <;> exact KM r hy
   ·refine KO (fun h2 => ?_) (fun h2 => ?_)
    ·refine KQ (fun hl5 => ?_)
     refine KP (fun y hy => ?_)
     replace hy := kY v1_0 v1_1 v1_2 v1_3 v1_4 ((aG v11).1) ((aG v11).2) v1_1 v11 v1_1 v1_1 0 rfl hl5 y hy
     cases y with
     | ret w0_2 =>
      have h3 := hy
      exact KL (KN (show bW (bn v1_0 v1_1 v1_2 v1_3 v1_4 v11) .ret (bY w0_2) from KJ [.b true, .val (.int .i64 1), .ret [(false, [tI ((aG v11).1)]), (false, [tI ((aG v11).2)])], .val (.int .i64 (v1_1.length : Int)), .lp .ret (dU w0_2)] _ (fun k => by kernel_rfl) (AC h0 <| AC (p := v11 = (1 : Int)) (eq_of_beq h2) <| AD (bT v11) <| ALn v1_1 etI <| AL h3 <| AN)) (by intro h; cases h))
     | x2 =>
      have h3 := hy
      refine KO (fun h4 => ?_) (fun h4 => ?_)
      ·exact KL (KN (show bW (bn v1_0 v1_1 v1_2 v1_3 v1_4 v11) .ret (bY false) from KJ [.b true, .val (.int .i64 1), .ret [(false, [tI ((aG v11).1)]), (false, [tI ((aG v11).2)])], .val (.int .i64 (v1_1.length : Int)), .lp (.exit 2) (cq v1_0 v1_1 v1_2 v1_3 v1_4 v1_1 v11), .val (.int .i64 (v1_1.length : Int)), .b true] _ (fun k => by kernel_rfl) (AC h0 <| AC (p := v11 = (1 : Int)) (eq_of_beq h2) <| AD (bT v11) <| ALn v1_1 etI <| AL h3 <| ALn v1_1 etI <| AC h4 <| AN)) (by intro h; cases h))
      ·have r : bW (bn v1_0 v1_1 v1_2 v1_3 v1_4 v11) .normal (bn v1_0 v1_1 v1_2 v1_3 v1_4 (inc v11)) := KJ [.b true, .val (.int .i64 1), .ret [(false, [tI ((aG v11).1)]), (false, [tI ((aG v11).2)])], .val (.int .i64 (v1_1.length : Int)), .lp (.exit 2) (cq v1_0 v1_1 v1_2 v1_3 v1_4 v1_1 v11), .val (.int .i64 (v1_1.length : Int)), .b false] _ (fun k => by kernel_rfl) (AC h0 <| AC (p := v11 = (1 : Int)) (eq_of_beq h2) <| AD (bT v11) <| ALn v1_1 etI <| AL h3 <| ALn v1_1 etI <| AC h4 <| AN); exact (ih (inc v11)).mono fun y hy => by cases y <;> exact KM r hy
    ·refine KO (fun h3 => ?_) (fun h3 => ?_)
     ·refine KQ (fun hl6 => ?_)
      refine KP (fun y hy => ?_)
      replace hy := kY v1_0 v1_1 v1_2 v1_3 v1_4 ((aG v11).1) ((aG v11).2) v1_2 v11 v1_2 v1_2 0 rfl hl6 y hy
      cases y with
      | ret w0_2 =>
       have h4 := hy
       exact KL (KN (show bW (bn v1_0 v1_1 v1_2 v1_3 v1_4 v11) .ret (bY w0_2) from KJ [.b true, .val (.int .i64 2), .ret [(false, [tI ((aG v11).1)]), (false, [tI ((aG v11).2)])], .val (.int .i64 (v1_2.length : Int)), .lp .ret (dU w0_2)] _ (fun k => by kernel_rfl) (AC h0 <| AC (p := v11 = (2 : Int)) (eq_of_beq h3) <| AD (bT v11) <| ALn v1_2 etI <| AL h4 <| AN)) (by intro h; cases h))
      | x2 =>
       have h4 := hy
       refine KO (fun h5 => ?_) (fun h5 => ?_)
       ·exact KL (KN (show bW (bn v1_0 v1_1 v1_2 v1_3 v1_4 v11) .ret (bY false) from KJ [.b true, .val (.int .i64 2), .ret [(false, [tI ((aG v11).1)]), (false, [tI ((aG v11).2)])], .val (.int .i64 (v1_2.length : Int)), .lp (.exit 2) (cq v1_0 v1_1 v1_2 v1_3 v1_4 v1_2 v11), .val (.int .i64 (v1_2.length : Int)), .b true] _ (fun k => by kernel_rfl) (AC h0 <| AC (p := v11 = (2 : Int)) (eq_of_beq h3) <| AD (bT v11) <| ALn v1_2 etI <| AL h4 <| ALn v1_2 etI <| AC h5 <| AN)) (by intro h; cases h))
       ·have r : bW (bn v1_0 v1_1 v1_2 v1_3 v1_4 v11) .normal (bn v1_0 v1_1 v1_2 v1_3 v1_4 (inc v11)) := KJ [.b true, .val (.int .i64 2), .ret [(false, [tI ((aG v11).1)]), (false, [tI ((aG v11).2)])], .val (.int .i64 (v1_2.length : Int)), .lp (.exit 2) (cq v1_0 v1_1 v1_2 v1_3 v1_4 v1_2 v11), .val (.int .i64 (v1_2.length : Int)), .b false] _ (fun k => by kernel_rfl) (AC h0 <| AC (p := v11 = (2 : Int)) (eq_of_beq h3) <| AD (bT v11) <| ALn v1_2 etI <| AL h4 <| ALn v1_2 etI <| AC h5 <| AN); exact (ih (inc v11)).mono fun y hy => by cases y <;> exact KM r hy
     ·refine KO (fun h4 => ?_) (fun h4 => ?_)
      ·refine KQ (fun hl7 => ?_)
       refine KP (fun y hy => ?_)
       replace hy := kY v1_0 v1_1 v1_2 v1_3 v1_4 ((aG v11).1) ((aG v11).2) v1_3 v11 v1_3 v1_3 0 rfl hl7 y hy
       cases y with
       | ret w0_2 =>
        have h5 := hy
        exact KL (KN (show bW (bn v1_0 v1_1 v1_2 v1_3 v1_4 v11) .ret (bY w0_2) from KJ [.b true, .val (.int .i64 3), .ret [(false, [tI ((aG v11).1)]), (false, [tI ((aG v11).2)])], .val (.int .i64 (v1_3.length : Int)), .lp .ret (dU w0_2)] _ (fun k => by kernel_rfl) (AC h0 <| AC (p := v11 = (3 : Int)) (eq_of_beq h4) <| AD (bT v11) <| ALn v1_3 etI <| AL h5 <| AN)) (by intro h; cases h))
       | x2 =>
        have h5 := hy
        refine KO (fun h6 => ?_) (fun h6 => ?_)
        ·exact KL (KN (show bW (bn v1_0 v1_1 v1_2 v1_3 v1_4 v11) .ret (bY false) from KJ [.b true, .val (.int .i64 3), .ret [(false, [tI ((aG v11).1)]), (false, [tI ((aG v11).2)])], .val (.int .i64 (v1_3.length : Int)), .lp (.exit 2) (cq v1_0 v1_1 v1_2 v1_3 v1_4 v1_3 v11), .val (.int .i64 (v1_3.length : Int)), .b true] _ (fun k => by kernel_rfl) (AC h0 <| AC (p := v11 = (3 : Int)) (eq_of_beq h4) <| AD (bT v11) <| ALn v1_3 etI <| AL h5 <| ALn v1_3 etI <| AC h6 <| AN)) (by intro h; cases h))
        ·have r : bW (bn v1_0 v1_1 v1_2 v1_3 v1_4 v11) .normal (bn v1_0 v1_1 v1_2 v1_3 v1_4 (inc v11)) := KJ [.b true, .val (.int .i64 3), .ret [(false, [tI ((aG v11).1)]), (false, [tI ((aG v11).2)])], .val (.int .i64 (v1_3.length : Int)), .lp (.exit 2) (cq v1_0 v1_1 v1_2 v1_3 v1_4 v1_3 v11), .val (.int .i64 (v1_3.length : Int)), .b false] _ (fun k => by kernel_rfl) (AC h0 <| AC (p := v11 = (3 : Int)) (eq_of_beq h4) <| AD (bT v11) <| ALn v1_3 etI <| AL h5 <| ALn v1_3 etI <| AC h6 <| AN); exact (ih (inc v11)).mono fun y hy => by cases y <;> exact KM r hy
      ·refine KQ (fun h5 => ?_)
       refine KQ (fun hl7 => ?_)
       refine KP (fun y hy => ?_)
       replace hy := kY v1_0 v1_1 v1_2 v1_3 v1_4 ((aG v11).1) ((aG v11).2) v1_4 v11 v1_4 v1_4 0 rfl hl7 y hy
       cases y with
       | ret w0_2 =>
        have h6 := hy
        exact KL (KN (show bW (bn v1_0 v1_1 v1_2 v1_3 v1_4 v11) .ret (bY w0_2) from KJ [.b true, .val (.int .i64 4), .ret [(false, [tI ((aG v11).1)]), (false, [tI ((aG v11).2)])], .val (.int .i64 (v1_4.length : Int)), .lp .ret (dU w0_2)] _ (fun k => by kernel_rfl) (AC h0 <| AC h5 <| AD (bT v11) <| ALn v1_4 etI <| AL h6 <| AN)) (by intro h; cases h))
       | x2 =>
        have h6 := hy
        refine KO (fun h7 => ?_) (fun h7 => ?_)
        ·exact KL (KN (show bW (bn v1_0 v1_1 v1_2 v1_3 v1_4 v11) .ret (bY false) from KJ [.b true, .val (.int .i64 4), .ret [(false, [tI ((aG v11).1)]), (false, [tI ((aG v11).2)])], .val (.int .i64 (v1_4.length : Int)), .lp (.exit 2) (cq v1_0 v1_1 v1_2 v1_3 v1_4 v1_4 v11), .val (.int .i64 (v1_4.length : Int)), .b true] _ (fun k => by kernel_rfl) (AC h0 <| AC h5 <| AD (bT v11) <| ALn v1_4 etI <| AL h6 <| ALn v1_4 etI <| AC h7 <| AN)) (by intro h; cases h))
        ·have r : bW (bn v1_0 v1_1 v1_2 v1_3 v1_4 v11) .normal (bn v1_0 v1_1 v1_2 v1_3 v1_4 (inc v11)) := KJ [.b true, .val (.int .i64 4), .ret [(false, [tI ((aG v11).1)]), (false, [tI ((aG v11).2)])], .val (.int .i64 (v1_4.length : Int)), .lp (.exit 2) (cq v1_0 v1_1 v1_2 v1_3 v1_4 v1_4 v11), .val (.int .i64 (v1_4.length : Int)), .b false] _ (fun k => by kernel_rfl) (AC h0 <| AC h5 <| AD (bT v11) <| ALn v1_4 etI <| AL h6 <| ALn v1_4 etI <| AC h7 <| AN); exact (ih (inc v11)).mono fun y hy => by cases y <;> exact KM r hy
  ·exact KL (KN (show bW (bn v1_0 v1_1 v1_2 v1_3 v1_4 v11) (.exit 0) (nY) from KJ [.b false] _ (fun k => by kernel_rfl) (AC h0 <| AN)) (by intro h; cases h))
noncomputable def oI (x0 : GCron) : Option (Bool) :=
  (bz x0.f0 x0.f1 x0.f2 x0.f3 x0.f4 9223372036854775808 (0 : Int)).bind fun y => match y with
   | .ret w0_2 => (some (w0_2))
   | .x0 => (some (true))
theorem Fm (x0 : GCron) : Ans (oI x0) (fun r => Does E 88 [.agg (GCron.t .far x0)] [(false, [tB r])]) := by
 unfold oI
 refine KP (fun y hy => ?_)
 replace hy := Dt x0.f0 x0.f1 x0.f2 x0.f3 x0.f4 9223372036854775808 (0 : Int) y hy
 cases y with
 | ret w0_2 =>
  have h0 := hy
  exact KL (KK (fn := Tryz.f88) [.lp .ret (bY w0_2)] _ rfl (fun _ => rfl) (fun k => by kernel_rfl) (AL h0 <| AN))
 | x0 =>
  have h0 := hy
  exact KL (KK (fn := Tryz.f88) [.lp (.exit 0) (nY)] _ rfl (fun _ => rfl) (fun k => by kernel_rfl) (AL h0 <| AN))
theorem Gg (aT : List Int) (a b : Int) (hl : aT.length ≤ 1050000) : ∀ (rest : List Int) (i : Nat), aT.drop i = rest → cM a b aT rest i = some (if jb a b rest (gK aT i) = true then .x2 else .ret false)
 | [], i, _ => rfl
 | x :: rest, i, h => by
  have ih := Gg aT a b hl rest (i + 1) (aF h)
  rw [zn h] at ih
  have hi : i < aT.length := by
   rcases Nat.lt_or_ge i aT.length with g | g
   ·exact g
   ·rw [List.drop_eq_nil_of_le g] at h; cases h
  unfold cM jb
  rw [ih]
  cases aH x a b with
  | false => rfl
  | true =>
   rw [cond_true, Bool.true_and]
   rcases Ex h with rfl | ⟨y, hy⟩
   ·simp [gK]
   ·by_cases z : i = 0
    ·subst z; simp [gK]
    ·have hp : gK aT i = some y := by unfold gK; rw [if_neg z, hy]
     have hg : aD aT (IntKind.wrap .i64 ((i : Int) - 1)) = some y := by
      rw [cP _ (by omega) (by omega)]
      have e : ((i : Int) - 1) = ((i - 1 : Nat) : Int) := by omega
      rw [e, eG, hy]
     rw [hp, hg, decide_eq_true (by omega : (i : Int) > 0), cond_true, Option.bind_some]
     simp only
     by_cases c : y ≥ x
     ·have yx : ¬ y < x := by omega
      rw [decide_eq_true (show x ≤ y from c), cond_true]; simp [yx]
     ·have yx : y < x := by omega
      rw [decide_eq_false (show ¬ x ≤ y from c), cond_false]; simp [yx]
theorem mc (l : List Int) (a b : Int) (hl : l.length ≤ 1050000) (K : Option qx) :
  ((cM a b l l 0).bind fun y => match y with
    | .ret w => some (.ret w)
    | .x2 => cond ((l.length : Int) == (0 : Int)) (some (.ret false)) K) = (cond (aY l a b) K (some (.ret false))) := by
 rw [Gg l a b hl l 0 rfl]
 unfold aY gK
 rw [if_pos rfl]
 cases jb a b l none with
 | false => rfl
 | true =>
  simp only [if_true, Option.bind_some, Bool.true_and]
  cases l with
  | nil => rfl
  | cons x l =>
   rw [show (((x :: l).length : Int) == (0 : Int)) = false from beq_eq_false_iff_ne.2 (by simp <;> omega), decide_eq_true (by simp <;> omega)]
   rfl
theorem HL (c : GCron) (h : an.sm c) : oI c = some (gz c) := by
 have h0 := h.1.1
 have h1 := h.2.1.1
 have h2 := h.2.2.1.1
 have h3 := h.2.2.2.1.1
 have h4 := h.2.2.2.2.1
 unfold oI
 have e0 : ∀ n, bz c.f0 c.f1 c.f2 c.f3 c.f4 (n + 6) 0 = some (if gz c = true then .x0 else .ret false) := by
  intro n
  have s5 : bz c.f0 c.f1 c.f2 c.f3 c.f4 (n + 1) (inc (inc (inc (inc (inc 0))))) = some .x0 := rfl
  have s4 : bz c.f0 c.f1 c.f2 c.f3 c.f4 (n + 2) (inc (inc (inc (inc 0)))) = cond (aY c.f4 0 6) (some .x0) (some (.ret false)) := by
   rw [← mc c.f4 0 6 h4, ← s5]
   conv => lhs; unfold bz
   show (if inc (inc (inc (inc 0))) = 4 then (if c.f4.length ≤ 9223372036854775807 then _ else none) else none) = _
   rw [if_pos (by rfl), if_pos (by omega)]
   rfl
  have s3 : bz c.f0 c.f1 c.f2 c.f3 c.f4 (n + 3) (inc (inc (inc 0))) = cond (aY c.f3 1 12) (cond (aY c.f4 0 6) (some .x0) (some (.ret false))) (some (.ret false)) := by
   rw [← mc c.f3 1 12 h3, ← s4]
   conv => lhs; unfold bz
   show (if c.f3.length ≤ 9223372036854775807 then _ else none) = _
   rw [if_pos (by omega)]
   rfl
  have s2 : bz c.f0 c.f1 c.f2 c.f3 c.f4 (n + 4) (inc (inc 0)) = cond (aY c.f2 1 31) (cond (aY c.f3 1 12) (cond (aY c.f4 0 6) (some .x0) (some (.ret false))) (some (.ret false))) (some (.ret false)) := by
   rw [← mc c.f2 1 31 h2, ← s3]
   conv => lhs; unfold bz
   show (if c.f2.length ≤ 9223372036854775807 then _ else none) = _
   rw [if_pos (by omega)]
   rfl
  have s1 : bz c.f0 c.f1 c.f2 c.f3 c.f4 (n + 5) (inc 0) = cond (aY c.f1 0 23) (cond (aY c.f2 1 31) (cond (aY c.f3 1 12) (cond (aY c.f4 0 6) (some .x0) (some (.ret false))) (some (.ret false))) (some (.ret false))) (some (.ret false)) := by
   rw [← mc c.f1 0 23 h1, ← s2]
   conv => lhs; unfold bz
   show (if c.f1.length ≤ 9223372036854775807 then _ else none) = _
   rw [if_pos (by omega)]
   rfl
  have s0 : bz c.f0 c.f1 c.f2 c.f3 c.f4 (n + 6) 0 = cond (aY c.f0 0 59) (cond (aY c.f1 0 23) (cond (aY c.f2 1 31) (cond (aY c.f3 1 12) (cond (aY c.f4 0 6) (some .x0) (some (.ret false))) (some (.ret false))) (some (.ret false))) (some (.ret false))) (some (.ret false)) := by
   rw [← mc c.f0 0 59 h0, ← s1]
   conv => lhs; unfold bz
   show (if c.f0.length ≤ 9223372036854775807 then _ else none) = _
   rw [if_pos (by omega)]
   rfl
  rw [s0]
  unfold gz
  cases aY c.f0 0 59 <;> cases aY c.f1 0 23 <;> cases aY c.f2 1 31 <;> cases aY c.f3 1 12 <;> cases aY c.f4 0 6 <;> rfl
 rw [e0 9223372036854775802]
 cases gz c <;> rfl
theorem wz (x0 : GCron) (h : an.sm x0) : Does E 88 [.agg (GCron.t .far x0)] [(false, [tB (gz x0)])] := by
 exact Fm x0 _ (HL x0 h)
noncomputable def ub (x0 : List Int) (x1 : Int) : Option (Bool) :=
  some ((x0.length : Int) == (inc (IntKind.wrap .i64 (((aG x1).2) - ((aG x1).1)))))
theorem GM (x0 : List Int) (x1 : Int) : Ans (ub x0 x1) (fun r => Does E 89 [.one (.s .far () 1 (x0.map etI)), .one (tI x1)] [(false, [tB r])]) := by
 unfold ub
 exact KL (KK (fn := Tryz.f89) [.ret [(false, [tI ((aG x1).1)]), (false, [tI ((aG x1).2)])], .val (.int .i64 (x0.length : Int))] _ rfl (fun _ => rfl) (fun k => by kernel_rfl) (AD (bT x1) <| ALn x0 etI <| AN))
noncomputable def mq (l : List Int) (i : Int) : Bool := (ub l i).getD false
theorem fA (x0 : List Int) (x1 : Int) : Does E 89 [.one (.s .far () 1 (x0.map etI)), .one (tI x1)] [(false, [tB (mq x0 x1)])] := by
 exact GM x0 x1 _ rfl
end Go.Proofs.YtjfbofdmjihglaaGreatDoor.Am
namespace Go.Proofs.YtjfbofdmjihglaaGreatDoor.Am
open Go Go.Proofs Classical
set_option maxRecDepth 100000
set_option linter.unusedVariables false
set_option linter.unusedSimpArgs false
inductive uI where
 | x0 (v5 : ByteArray)
def ir (v0 : List Int) (v5 : ByteArray) (v6 : Int) : US := stL 29 [(0, .one (.s .far () 1 (v0.map etI))), (5, .one (tS v5)), (6, .one (tI v6))]
def nn (zv5 : ByteArray) : US := stL 29 [(5, .one (tS zv5))]
abbrev pL : US → Exit → US → Prop := Round E 79 (aw Tryz.f79 0)
def CI (v0 : List Int) (v5 : ByteArray) (v6 : Int) : uI → Prop
 | .x0 zv5 => Loops E 79 (aw Tryz.f79 0) (ir v0 v5 v6) (.exit 0) (nn zv5)
noncomputable def dI  : List Int → Nat → ByteArray → Option uI
 | [], i, v5 => some (.x0 v5)
 | hd :: rest, i, v5 => cond (decide ((i : Int) > (0 : Int)))
  (if v5.size + (⟨#[44]⟩ : ByteArray).size ≤ maxStr then if -9223372036854775808 ≤ hd ∧ hd ≤ 9223372036854775807 then if (v5 ++ (⟨#[44]⟩ : ByteArray)).size + (bi hd).size ≤ maxStr then dI rest (i + 1) ((v5 ++ (⟨#[44]⟩ : ByteArray)) ++ (bi hd)) else none else none else none)
  (if -9223372036854775808 ≤ hd ∧ hd ≤ 9223372036854775807 then if v5.size + (bi hd).size ≤ maxStr then dI rest (i + 1) (v5 ++ (bi hd)) else none else none)
theorem CH (v0 : List Int) (rest : List Int) : ∀ (i : Nat) (v5 : ByteArray), (v0).drop i = rest → v0.length ≤ 9223372036854775807 → Ans (dI rest i v5) (CI v0 v5 (i : Int)) := by
 induction rest with
 | nil =>
  intro i v5 hE hl
  have hb := bd hE
  unfold dI
  exact KL (KN (show pL (ir v0 v5 (i : Int)) (.exit 0) (nn v5) from KJ [.val (.int .i64 (v0.length : Int)), .b false] _ (fun k => by kernel_rfl) (ALn v0 etI <| AC hb <| AN)) (by intro h; cases h))
 | cons hd rest ih =>
  intro i v5 hE hl
  have hb := aQ hE
  have hw := aR hE hl
  have hE2 := aF hE
  have hg := aS hE
  unfold dI
  refine KO (fun h1 => ?_) (fun h1 => ?_)
  ·refine KQ (fun h2 => ?_)
   refine KQ (fun h4 => ?_)
   refine KQ (fun h5 => ?_)
   exact (ih (i + 1) ((v5 ++ (⟨#[44]⟩ : ByteArray)) ++ (bi hd)) hE2 hl).mono fun y hy => by have r : pL (ir v0 v5 (i : Int)) .normal (ir v0 ((v5 ++ (⟨#[44]⟩ : ByteArray)) ++ (bi hd)) (inc (i : Int))) := KJ [.val (.int .i64 (v0.length : Int)), .b true, .b true, .val (.string (v5 ++ (⟨#[44]⟩ : ByteArray))), .row (etI hd), .ret [(false, [tS (bi hd)])], .val (.string ((v5 ++ (⟨#[44]⟩ : ByteArray)) ++ (bi hd)))] _ (fun k => by kernel_rfl) (ALn v0 etI <| AC hb <| AC h1 <| AC (fv (tab := E.tab) (t := 9) h2) <| AR etI hg <| AD (nv hd h4) <| AC (fv (tab := E.tab) (t := 9) h5) <| AN); rw [hw] at r; cases y <;> exact KM r hy
  ·refine KQ (fun h3 => ?_)
   refine KQ (fun h4 => ?_)
   exact (ih (i + 1) (v5 ++ (bi hd)) hE2 hl).mono fun y hy => by have r : pL (ir v0 v5 (i : Int)) .normal (ir v0 (v5 ++ (bi hd)) (inc (i : Int))) := KJ [.val (.int .i64 (v0.length : Int)), .b true, .b false, .row (etI hd), .ret [(false, [tS (bi hd)])], .val (.string (v5 ++ (bi hd)))] _ (fun k => by kernel_rfl) (ALn v0 etI <| AC hb <| AC h1 <| AR etI hg <| AD (nv hd h3) <| AC (fv (tab := E.tab) (t := 9) h4) <| AN); rw [hw] at r; cases y <;> exact KM r hy
noncomputable def nI (x0 : List Int) (x1 : Int) : Option (ByteArray) :=
  cond ((x0.length : Int) == x1)
   (some ((⟨#[42]⟩ : ByteArray)))
   (if x0.length ≤ 9223372036854775807 then (dI x0 0 ByteArray.empty).bind fun y => match y with
    | .x0 w0_5 => (some (w0_5)) else none)
theorem D7 (x0 : List Int) (x1 : Int) : Ans (nI x0 x1) (fun r => Does E 79 [.one (.s .far () 1 (x0.map etI)), .one (tI x1)] [(false, [tS r])]) := by
 unfold nI
 refine KO (fun h0 => ?_) (fun h0 => ?_)
 ·exact KL (KK (fn := Tryz.f79) [.val (.int .i64 (x0.length : Int)), .b true] _ rfl (fun _ => rfl) (fun k => by kernel_rfl) (ALn x0 etI <| AC h0 <| AN))
 ·refine KQ (fun hl2 => ?_)
  refine KP (fun y hy => ?_)
  replace hy := CH x0 x0 0 ByteArray.empty rfl hl2 y hy
  cases y with
  | x0 w0_5 =>
   have h1 := hy
   exact KL (KK (fn := Tryz.f79) [.val (.int .i64 (x0.length : Int)), .b false, .lp (.exit 0) (nn w0_5)] _ rfl (fun _ => rfl) (fun k => by kernel_rfl) (ALn x0 etI <| AC h0 <| AL h1 <| AN))
def fK (c : UInt8) : List (List UInt8) → List UInt8
 | [] => []
 | x :: xs => x ++ (xs.map fun y => c :: y).flatten
theorem ui (c : UInt8) : ∀ xs : List (List UInt8), Lib.join xs [c] = fK c xs
 | [] => rfl
 | [x] => by simp [Lib.join, List.intercalate, fK]
 | x :: y :: xs => by
  have ih := ui c (y :: xs)
  unfold Lib.join List.intercalate at ih ⊢
  rw [List.intersperse_cons_cons, List.flatten_cons, List.flatten_cons, ih]
  simp [fK]
theorem sR (xs : List (List UInt8)) (c : UInt8) : aX (xs.map ofTx) ⟨#[c]⟩ = ofTx (fK c xs) := by
 unfold aX
 have : (xs.map ofTx).map (fun s : ByteArray => s.data.toList) = xs := by
  rw [List.map_map]
  conv => rhs; rw [← List.map_id xs]
  rfl
 rw [this]
 show ofTx (Lib.join xs [c]) = _
 rw [ui]
theorem u6 (c : UInt8) (k : Nat) : ∀ xs : List (List UInt8), (∀ x ∈ xs, x.length ≤ k) → (fK c xs).length ≤ xs.length * (k + 1)
 | [], _ => by simp [fK]
 | x :: xs, h => by
  have hx := h x (by simp)
  have : ∀ ys : List (List UInt8), (∀ y ∈ ys, y.length ≤ k) → ((ys.map fun y => c :: y).flatten).length ≤ ys.length * (k + 1) := by
   intro ys
   induction ys with
   | nil => intro _; simp
   | cons y ys ih =>
    intro h
    have := ih fun z hz => h z (by simp [hz])
    have := h y (by simp)
    simp [Nat.add_mul] at *
    omega
  have := this xs fun y hy => h y (by simp [hy])
  simp only [fK, List.length_append, List.length_cons, Nat.add_mul]
  omega
theorem vZ {x : Int} (h : 0 ≤ x ∧ x ≤ 59) : (tx (bi x)).length ≤ 2 := by
 show (Lib.itoa x).length ≤ 2
 unfold Lib.itoa
 rw [if_neg (by omega)]
 exact rL 1 _ (by omega)
noncomputable def aE (l : List Int) (size : Int) : ByteArray := cond ((l.length : Int) == size) ⟨#[42]⟩ (ofTx (fK 44 (l.map fun x => tx (bi x))))
theorem e8 {l : List Int} (hl : l.length ≤ 60) (h : ∀ z ∈ l, 0 ≤ z ∧ z ≤ 59) (n : Int) : (aE l n).size ≤ 200 := by
 unfold aE
 cases (l.length : Int) == n with
 | true => exact (by decide : (⟨#[42]⟩ : ByteArray).size ≤ 200)
 | false =>
  rw [cond_false, nU]
  have := u6 44 2 (l.map fun x => tx (bi x)) (fun y hy => by
   obtain ⟨x, hx, rfl⟩ := List.mem_map.1 hy
   exact vZ (h x hx))
  rw [List.length_map] at this
  omega
theorem Hn : ∀ (l : List Int) (i : Nat) (v : List UInt8), (∀ z ∈ l, 0 ≤ z ∧ z ≤ 59) → 0 < i → v.length + l.length * 3 ≤ 1000 → dI l i (ofTx v) = some (.x0 (ofTx (v ++ ((l.map fun x => 44 :: tx (bi x)).flatten))))
 | [], i, v, _, _, _ => by unfold dI; simp
 | x :: l, i, v, h, hi, hl => by
  have hx := h x (by simp)
  have hz := vZ hx
  have e44 : (⟨#[44]⟩ : ByteArray) = ofTx [44] := rfl
  simp only [List.length_cons] at hl
  unfold dI
  rw [decide_eq_true (by omega), cond_true, e44, ne, ← rn (bi x), ne]
  simp only [nU, rz]
  rw [if_pos (by simp [maxStr]; omega), if_pos (by omega), if_pos (by simp [maxStr]; omega), Hn l (i + 1) _ (fun z hz => h z (by simp [hz])) (by omega) (by simp; omega)]
  simp
theorem Ja (l : List Int) (n : Int) (hl : l.length ≤ 60) (h : ∀ z ∈ l, 0 ≤ z ∧ z ≤ 59) : nI l n = some (aE l n) := by
 unfold nI aE
 cases (l.length : Int) == n with
 | true => rfl
 | false =>
  rw [cond_false, cond_false, if_pos (by omega)]
  cases l with
  | nil => rfl
  | cons x l =>
   have hx := h x (by simp)
   have hz := vZ hx
   simp only [List.length_cons] at hl
   unfold dI
   have e : ByteArray.empty ++ bi x = ofTx (tx (bi x)) := by
    show ofTx [] ++ ofTx (tx (bi x)) = _
    rw [ne]; rfl
   have hz' : (bi x).size ≤ 2 := by rw [cO]; exact hz
   have e0 : ByteArray.empty.size = 0 := rfl
   rw [decide_eq_false (by omega), cond_false, if_pos (by omega), if_pos (by rw [e0]; unfold maxStr; omega), e, Hn l _ _ (fun z hz => h z (by simp [hz])) (by omega) (by omega), Option.bind_some]
   simp only [List.map_cons, fK, List.map_map]
   rfl
theorem kU (x0 : List Int) (x1 : Int) (h1 : x0.length ≤ 60) (h2 : ∀ z ∈ x0, 0 ≤ z ∧ z ≤ 59) : Does E 79 [.one (.s .far () 1 (x0.map etI)), .one (tI x1)] [(false, [tS (aE x0 x1)])] := by
 exact D7 x0 x1 _ (Ja x0 x1 h1 h2)
noncomputable def mI (x0 : GCron) : Option (ByteArray × Bool) :=
  if an.sm x0 then cond (gz x0)
   (if x0.f0.length ≤ 60 then if ∀ z ∈ x0.f0, 0 ≤ z ∧ z ≤ 59 then if (aE x0.f0 (60 : Int)).size + (⟨#[32]⟩ : ByteArray).size ≤ maxStr then if x0.f1.length ≤ 60 then if ∀ z ∈ x0.f1, 0 ≤ z ∧ z ≤ 59 then if ((aE x0.f0 (60 : Int)) ++ (⟨#[32]⟩ : ByteArray)).size + (aE x0.f1 (24 : Int)).size ≤ maxStr then if (((aE x0.f0 (60 : Int)) ++ (⟨#[32]⟩ : ByteArray)) ++ (aE x0.f1 (24 : Int))).size + (⟨#[32]⟩ : ByteArray).size ≤ maxStr then if x0.f2.length ≤ 60 then if ∀ z ∈ x0.f2, 0 ≤ z ∧ z ≤ 59 then if ((((aE x0.f0 (60 : Int)) ++ (⟨#[32]⟩ : ByteArray)) ++ (aE x0.f1 (24 : Int))) ++ (⟨#[32]⟩ : ByteArray)).size + (aE x0.f2 (31 : Int)).size ≤ maxStr then if (((((aE x0.f0 (60 : Int)) ++ (⟨#[32]⟩ : ByteArray)) ++ (aE x0.f1 (24 : Int))) ++ (⟨#[32]⟩ : ByteArray)) ++ (aE x0.f2 (31 : Int))).size + (⟨#[32]⟩ : ByteArray).size ≤ maxStr then if x0.f3.length ≤ 60 then if ∀ z ∈ x0.f3, 0 ≤ z ∧ z ≤ 59 then if ((((((aE x0.f0 (60 : Int)) ++ (⟨#[32]⟩ : ByteArray)) ++ (aE x0.f1 (24 : Int))) ++ (⟨#[32]⟩ : ByteArray)) ++ (aE x0.f2 (31 : Int))) ++ (⟨#[32]⟩ : ByteArray)).size + (aE x0.f3 (12 : Int)).size ≤ maxStr then if (((((((aE x0.f0 (60 : Int)) ++ (⟨#[32]⟩ : ByteArray)) ++ (aE x0.f1 (24 : Int))) ++ (⟨#[32]⟩ : ByteArray)) ++ (aE x0.f2 (31 : Int))) ++ (⟨#[32]⟩ : ByteArray)) ++ (aE x0.f3 (12 : Int))).size + (⟨#[32]⟩ : ByteArray).size ≤ maxStr then if x0.f4.length ≤ 60 then if ∀ z ∈ x0.f4, 0 ≤ z ∧ z ≤ 59 then if ((((((((aE x0.f0 (60 : Int)) ++ (⟨#[32]⟩ : ByteArray)) ++ (aE x0.f1 (24 : Int))) ++ (⟨#[32]⟩ : ByteArray)) ++ (aE x0.f2 (31 : Int))) ++ (⟨#[32]⟩ : ByteArray)) ++ (aE x0.f3 (12 : Int))) ++ (⟨#[32]⟩ : ByteArray)).size + (aE x0.f4 (7 : Int)).size ≤ maxStr then some (((((((((aE x0.f0 (60 : Int)) ++ (⟨#[32]⟩ : ByteArray)) ++ (aE x0.f1 (24 : Int))) ++ (⟨#[32]⟩ : ByteArray)) ++ (aE x0.f2 (31 : Int))) ++ (⟨#[32]⟩ : ByteArray)) ++ (aE x0.f3 (12 : Int))) ++ (⟨#[32]⟩ : ByteArray)) ++ (aE x0.f4 (7 : Int)), true) else none else none else none else none else none else none else none else none else none else none else none else none else none else none else none else none else none else none)
   (some (ByteArray.empty, false)) else none
theorem Cq (x0 : GCron) : Ans (mI x0) (fun r => Does E 56 [.agg (GCron.t .far x0)] [(false, [tS r.1]), (false, [tB r.2])]) := by
 unfold mI
 refine KQ (fun h0 => ?_)
 refine KO (fun h1 => ?_) (fun h1 => ?_)
 ·refine KQ (fun h2 => ?_)
  refine KQ (fun h3 => ?_)
  refine KQ (fun h4 => ?_)
  refine KQ (fun h5 => ?_)
  refine KQ (fun h6 => ?_)
  refine KQ (fun h7 => ?_)
  refine KQ (fun h8 => ?_)
  refine KQ (fun h9 => ?_)
  refine KQ (fun h10 => ?_)
  refine KQ (fun h11 => ?_)
  refine KQ (fun h12 => ?_)
  refine KQ (fun h13 => ?_)
  refine KQ (fun h14 => ?_)
  refine KQ (fun h15 => ?_)
  refine KQ (fun h16 => ?_)
  refine KQ (fun h17 => ?_)
  refine KQ (fun h18 => ?_)
  refine KQ (fun h19 => ?_)
  exact KL (KK (fn := Tryz.f56) [rT, .ret [(false, [tS (aE x0.f0 (60 : Int))])], .val (.string ((aE x0.f0 (60 : Int)) ++ (⟨#[32]⟩ : ByteArray))), .ret [(false, [tS (aE x0.f1 (24 : Int))])], .val (.string (((aE x0.f0 (60 : Int)) ++ (⟨#[32]⟩ : ByteArray)) ++ (aE x0.f1 (24 : Int)))), .val (.string ((((aE x0.f0 (60 : Int)) ++ (⟨#[32]⟩ : ByteArray)) ++ (aE x0.f1 (24 : Int))) ++ (⟨#[32]⟩ : ByteArray))), .ret [(false, [tS (aE x0.f2 (31 : Int))])], .val (.string (((((aE x0.f0 (60 : Int)) ++ (⟨#[32]⟩ : ByteArray)) ++ (aE x0.f1 (24 : Int))) ++ (⟨#[32]⟩ : ByteArray)) ++ (aE x0.f2 (31 : Int)))), .val (.string ((((((aE x0.f0 (60 : Int)) ++ (⟨#[32]⟩ : ByteArray)) ++ (aE x0.f1 (24 : Int))) ++ (⟨#[32]⟩ : ByteArray)) ++ (aE x0.f2 (31 : Int))) ++ (⟨#[32]⟩ : ByteArray))), .ret [(false, [tS (aE x0.f3 (12 : Int))])], .val (.string (((((((aE x0.f0 (60 : Int)) ++ (⟨#[32]⟩ : ByteArray)) ++ (aE x0.f1 (24 : Int))) ++ (⟨#[32]⟩ : ByteArray)) ++ (aE x0.f2 (31 : Int))) ++ (⟨#[32]⟩ : ByteArray)) ++ (aE x0.f3 (12 : Int)))), .val (.string ((((((((aE x0.f0 (60 : Int)) ++ (⟨#[32]⟩ : ByteArray)) ++ (aE x0.f1 (24 : Int))) ++ (⟨#[32]⟩ : ByteArray)) ++ (aE x0.f2 (31 : Int))) ++ (⟨#[32]⟩ : ByteArray)) ++ (aE x0.f3 (12 : Int))) ++ (⟨#[32]⟩ : ByteArray))), .ret [(false, [tS (aE x0.f4 (7 : Int))])], .val (.string (((((((((aE x0.f0 (60 : Int)) ++ (⟨#[32]⟩ : ByteArray)) ++ (aE x0.f1 (24 : Int))) ++ (⟨#[32]⟩ : ByteArray)) ++ (aE x0.f2 (31 : Int))) ++ (⟨#[32]⟩ : ByteArray)) ++ (aE x0.f3 (12 : Int))) ++ (⟨#[32]⟩ : ByteArray)) ++ (aE x0.f4 (7 : Int))))] _ rfl (fun _ => rfl) (fun k => by kernel_rfl) (AD (KT (wD x0 h0) h1) <| AD (kU x0.f0 (60 : Int) h2 h3) <| AC (fv (tab := E.tab) (t := 9) h4) <| AD (kU x0.f1 (24 : Int) h5 h6) <| AC (fv (tab := E.tab) (t := 9) h7) <| AC (fv (tab := E.tab) (t := 9) h8) <| AD (kU x0.f2 (31 : Int) h9 h10) <| AC (fv (tab := E.tab) (t := 9) h11) <| AC (fv (tab := E.tab) (t := 9) h12) <| AD (kU x0.f3 (12 : Int) h13 h14) <| AC (fv (tab := E.tab) (t := 9) h15) <| AC (fv (tab := E.tab) (t := 9) h16) <| AD (kU x0.f4 (7 : Int) h17 h18) <| AC (fv (tab := E.tab) (t := 9) h19) <| AN))
 ·exact KL (KK (fn := Tryz.f56) [rF] _ rfl (fun _ => rfl) (fun k => by kernel_rfl) (AD (KT (wD x0 h0) h1) <| AN))
inductive sM where
 | x2 (v7 : List ByteArray)
def la (v1_0 v1_1 v1_2 v1_3 v1_4 : List Int) (v4 v7 : List ByteArray) (v14 : Int) (v28 : List Int) (v29 v30 : Int) : US := stL 48 [(1, .box () [.s .far () 1 (v1_0.map etI), .s .far () 1 (v1_1.map etI), .s .far () 1 (v1_2.map etI), .s .far () 1 (v1_3.map etI), .s .far () 1 (v1_4.map etI)]), (4, .one (.s .own () 1 (v4.map etS))), (7, .one (.s .own () 1 (v7.map etS))), (13, .clo (.arr [0, 1, 2, 3, 4]) [1, 1, 1, 1, 1]), (14, .one (tI v14)), (28, .one (.s .far () 1 (v28.map etI))), (29, .one (tI v29)), (30, .one (tI v30))]
def ef (v1_0 v1_1 v1_2 v1_3 v1_4 : List Int) (v4 : List ByteArray) (v14 : Int) (zv7 : List ByteArray) : US := stL 48 [(1, .box () [.s .far () 1 (v1_0.map etI), .s .far () 1 (v1_1.map etI), .s .far () 1 (v1_2.map etI), .s .far () 1 (v1_3.map etI), .s .far () 1 (v1_4.map etI)]), (4, .one (.s .own () 1 (v4.map etS))), (7, .one (.s .own () 1 (zv7.map etS))), (13, .clo (.arr [0, 1, 2, 3, 4]) [1, 1, 1, 1, 1]), (14, .one (tI v14))]
abbrev sL : US → Exit → US → Prop := Round E 69 (aw Tryz.f69 1)
def zM (v1_0 v1_1 v1_2 v1_3 v1_4 : List Int) (v4 v7 : List ByteArray) (v14 : Int) (v28 : List Int) (v29 v30 : Int) : sM → Prop
 | .x2 zv7 => Loops E 69 (aw Tryz.f69 1) (la v1_0 v1_1 v1_2 v1_3 v1_4 v4 v7 v14 v28 v29 v30) (.exit 2) (ef v1_0 v1_1 v1_2 v1_3 v1_4 v4 v14 zv7)
noncomputable def bZ  : List Int → Nat → (List ByteArray) → Option sM
 | [], i, v7 => some (.x2 v7)
 | hd :: rest, i, v7 => if -9223372036854775808 ≤ hd ∧ hd ≤ 9223372036854775807 then if (v7.length + ([bi hd]).length) * 16 ≤ 140737488355328 ∧ v7.length + ([bi hd]).length ≤ 4611686018427387904 then bZ rest (i + 1) (v7 ++ ([bi hd])) else none else none
theorem i7 (v1_0 v1_1 v1_2 v1_3 v1_4 : List Int) (v4 : List ByteArray) (v14 : Int) (v28 : List Int) (rest : List Int) : ∀ (i : Nat) (v7 : List ByteArray), (v28).drop i = rest → v28.length ≤ 9223372036854775807 → Ans (bZ rest i v7) (zM v1_0 v1_1 v1_2 v1_3 v1_4 v4 v7 v14 v28 (v28.length : Int) (i : Int)) := by
 induction rest with
 | nil =>
  intro i v7 hE hl
  have hb := bd hE
  unfold bZ
  exact KL (KN (show sL (la v1_0 v1_1 v1_2 v1_3 v1_4 v4 v7 v14 v28 (v28.length : Int) (i : Int)) (.exit 2) (ef v1_0 v1_1 v1_2 v1_3 v1_4 v4 v14 v7) from KJ [.b false] _ (fun k => by kernel_rfl) (AC hb <| AN)) (by intro h; cases h))
 | cons hd rest ih =>
  intro i v7 hE hl
  have hb := aQ hE
  have hw := aR hE hl
  have hE2 := aF hE
  have hg := aS hE
  unfold bZ
  refine KQ (fun h2 => ?_)
  refine KQ (fun h3 => ?_)
  exact (ih (i + 1) (v7 ++ ([bi hd])) hE2 hl).mono fun y hy => by have r : sL (la v1_0 v1_1 v1_2 v1_3 v1_4 v4 v7 v14 v28 (v28.length : Int) (i : Int)) .normal (la v1_0 v1_1 v1_2 v1_3 v1_4 v4 (v7 ++ ([bi hd])) v14 v28 (v28.length : Int) (inc (i : Int))) := KJ [.b true, .row (etI hd), .ret [(false, [tS (bi hd)])], .rows ((v7 ++ ([bi hd])).map etS)] _ (fun k => by kernel_rfl) (AC hb <| AR etI hg <| AD (qq hd h2) <| AAp etS (fun _ => rfl) h3 <| AN); rw [hw] at r; cases y <;> exact KM r hy
inductive nZ where
 | x0 (v4 : List ByteArray)
def a8 (v1_0 v1_1 v1_2 v1_3 v1_4 : List Int) (v4 : List ByteArray) (v14 : Int) : US := stL 48 [(1, .box () [.s .far () 1 (v1_0.map etI), .s .far () 1 (v1_1.map etI), .s .far () 1 (v1_2.map etI), .s .far () 1 (v1_3.map etI), .s .far () 1 (v1_4.map etI)]), (4, .one (.s .own () 1 (v4.map etS))), (13, .clo (.arr [0, 1, 2, 3, 4]) [1, 1, 1, 1, 1]), (14, .one (tI v14))]
def mg (zv4 : List ByteArray) : US := stL 48 [(4, .one (.s .own () 1 (zv4.map etS)))]
abbrev cC : US → Exit → US → Prop := Round E 69 (aw Tryz.f69 0)
def zL (v1_0 v1_1 v1_2 v1_3 v1_4 : List Int) (v4 : List ByteArray) (v14 : Int) : nZ → Prop
 | .x0 zv4 => Loops E 69 (aw Tryz.f69 0) (a8 v1_0 v1_1 v1_2 v1_3 v1_4 v4 v14) (.exit 0) (mg zv4)
noncomputable def aJ (v1_0 v1_1 v1_2 v1_3 v1_4 : List Int) : Nat → (List ByteArray) → Int → Option nZ
 | 0, _, _ => none
 | n + 1, v4, v14 => cond (decide (v14 < (5 : Int)))
  (cond (v14 == (0 : Int))
   (cond (mq v1_0 v14)
    (if (v4.length + ([(⟨#[42]⟩ : ByteArray)]).length) * 16 ≤ 140737488355328 ∧ v4.length + ([(⟨#[42]⟩ : ByteArray)]).length ≤ 4611686018427387904 then aJ v1_0 v1_1 v1_2 v1_3 v1_4 n (v4 ++ ([(⟨#[42]⟩ : ByteArray)])) (inc v14) else none)
    (if v1_0.length ≤ 9223372036854775807 then (bZ v1_0 0 ([])).bind fun y => match y with
     | .x2 w0_7 => (if w0_7.length ≤ 140737488355328 ∧ (aX w0_7 (⟨#[44]⟩ : ByteArray)).size ≤ 140737488355328 then if (v4.length + ([aX w0_7 (⟨#[44]⟩ : ByteArray)]).length) * 16 ≤ 140737488355328 ∧ v4.length + ([aX w0_7 (⟨#[44]⟩ : ByteArray)]).length ≤ 4611686018427387904 then aJ v1_0 v1_1 v1_2 v1_3 v1_4 n (v4 ++ ([aX w0_7 (⟨#[44]⟩ : ByteArray)])) (inc v14) else none else none) else none))
   (cond (v14 == (1 : Int))
    (cond (mq v1_1 v14)
     (if (v4.length + ([(⟨#[42]⟩ : ByteArray)]).length) * 16 ≤ 140737488355328 ∧ v4.length + ([(⟨#[42]⟩ : ByteArray)]).length ≤ 4611686018427387904 then aJ v1_0 v1_1 v1_2 v1_3 v1_4 n (v4 ++ ([(⟨#[42]⟩ : ByteArray)])) (inc v14) else none)
     (if v1_1.length ≤ 9223372036854775807 then (bZ v1_1 0 ([])).bind fun y => match y with
      | .x2 w0_7 => (if w0_7.length ≤ 140737488355328 ∧ (aX w0_7 (⟨#[44]⟩ : ByteArray)).size ≤ 140737488355328 then if (v4.length + ([aX w0_7 (⟨#[44]⟩ : ByteArray)]).length) * 16 ≤ 140737488355328 ∧ v4.length + ([aX w0_7 (⟨#[44]⟩ : ByteArray)]).length ≤ 4611686018427387904 then aJ v1_0 v1_1 v1_2 v1_3 v1_4 n (v4 ++ ([aX w0_7 (⟨#[44]⟩ : ByteArray)])) (inc v14) else none else none) else none))
    (cond (v14 == (2 : Int))
     (cond (mq v1_2 v14)
      (if (v4.length + ([(⟨#[42]⟩ : ByteArray)]).length) * 16 ≤ 140737488355328 ∧ v4.length + ([(⟨#[42]⟩ : ByteArray)]).length ≤ 4611686018427387904 then aJ v1_0 v1_1 v1_2 v1_3 v1_4 n (v4 ++ ([(⟨#[42]⟩ : ByteArray)])) (inc v14) else none)
      (if v1_2.length ≤ 9223372036854775807 then (bZ v1_2 0 ([])).bind fun y => match y with
       | .x2 w0_7 => (if w0_7.length ≤ 140737488355328 ∧ (aX w0_7 (⟨#[44]⟩ : ByteArray)).size ≤ 140737488355328 then if (v4.length + ([aX w0_7 (⟨#[44]⟩ : ByteArray)]).length) * 16 ≤ 140737488355328 ∧ v4.length + ([aX w0_7 (⟨#[44]⟩ : ByteArray)]).length ≤ 4611686018427387904 then aJ v1_0 v1_1 v1_2 v1_3 v1_4 n (v4 ++ ([aX w0_7 (⟨#[44]⟩ : ByteArray)])) (inc v14) else none else none) else none))
     (cond (v14 == (3 : Int))
      (cond (mq v1_3 v14)
       (if (v4.length + ([(⟨#[42]⟩ : ByteArray)]).length) * 16 ≤ 140737488355328 ∧ v4.length + ([(⟨#[42]⟩ : ByteArray)]).length ≤ 4611686018427387904 then aJ v1_0 v1_1 v1_2 v1_3 v1_4 n (v4 ++ ([(⟨#[42]⟩ : ByteArray)])) (inc v14) else none)
       (if v1_3.length ≤ 9223372036854775807 then (bZ v1_3 0 ([])).bind fun y => match y with
        | .x2 w0_7 => (if w0_7.length ≤ 140737488355328 ∧ (aX w0_7 (⟨#[44]⟩ : ByteArray)).size ≤ 140737488355328 then if (v4.length + ([aX w0_7 (⟨#[44]⟩ : ByteArray)]).length) * 16 ≤ 140737488355328 ∧ v4.length + ([aX w0_7 (⟨#[44]⟩ : ByteArray)]).length ≤ 4611686018427387904 then aJ v1_0 v1_1 v1_2 v1_3 v1_4 n (v4 ++ ([aX w0_7 (⟨#[44]⟩ : ByteArray)])) (inc v14) else none else none) else none))
      (if v14 = (4 : Int) then cond (mq v1_4 v14)
       (if (v4.length + ([(⟨#[42]⟩ : ByteArray)]).length) * 16 ≤ 140737488355328 ∧ v4.length + ([(⟨#[42]⟩ : ByteArray)]).length ≤ 4611686018427387904 then aJ v1_0 v1_1 v1_2 v1_3 v1_4 n (v4 ++ ([(⟨#[42]⟩ : ByteArray)])) (inc v14) else none)
       (if v1_4.length ≤ 9223372036854775807 then (bZ v1_4 0 ([])).bind fun y => match y with
        | .x2 w0_7 => (if w0_7.length ≤ 140737488355328 ∧ (aX w0_7 (⟨#[44]⟩ : ByteArray)).size ≤ 140737488355328 then if (v4.length + ([aX w0_7 (⟨#[44]⟩ : ByteArray)]).length) * 16 ≤ 140737488355328 ∧ v4.length + ([aX w0_7 (⟨#[44]⟩ : ByteArray)]).length ≤ 4611686018427387904 then aJ v1_0 v1_1 v1_2 v1_3 v1_4 n (v4 ++ ([aX w0_7 (⟨#[44]⟩ : ByteArray)])) (inc v14) else none else none) else none) else none)))))
  (some (.x0 v4))
theorem zK (v1_0 v1_1 v1_2 v1_3 v1_4 : List Int) (n : Nat) : ∀ (v4 : List ByteArray) (v14 : Int), Ans (aJ v1_0 v1_1 v1_2 v1_3 v1_4 n v4 v14) (zL v1_0 v1_1 v1_2 v1_3 v1_4 v4 v14) := by
 induction n with
 | zero => intros; exact Ans.none
 | succ n ih =>
  intro v4 v14
  unfold aJ
  refine KO (fun h0 => ?_) (fun h0 => ?_)
  ·refine KO (fun h1 => ?_) (fun h1 => ?_)
   ·refine KO (fun h2 => ?_) (fun h2 => ?_)
    ·refine KQ (fun h3 => ?_)
     have r : cC (a8 v1_0 v1_1 v1_2 v1_3 v1_4 v4 v14) .normal (a8 v1_0 v1_1 v1_2 v1_3 v1_4 (v4 ++ ([(⟨#[42]⟩ : ByteArray)])) (inc v14)) := KJ [.b true, .val (.int .i64 0), rT, .rows ((v4 ++ ([(⟨#[42]⟩ : ByteArray)])).map etS)] _ (fun k => by kernel_rfl) (AC h0 <| AC (p := v14 = (0 : Int)) (eq_of_beq h1) <| AD (KT (fA v1_0 v14) h2) <| AAp etS (fun _ => rfl) h3 <| AN); exact (ih (v4 ++ ([(⟨#[42]⟩ : ByteArray)])) (inc v14)).mono fun y hy => by cases y <;> exact KM r hy
    ·refine KQ (fun hl5 => ?_)
     refine KP (fun y hy => ?_)
     replace hy := i7 v1_0 v1_1 v1_2 v1_3 v1_4 v4 v14 v1_0 v1_0 0 ([]) rfl hl5 y hy
     cases y with
     | x2 w0_7 =>
      have h3 := hy
      refine KQ (fun h4 => ?_)
      refine KQ (fun h5 => ?_)
      have r : cC (a8 v1_0 v1_1 v1_2 v1_3 v1_4 v4 v14) .normal (a8 v1_0 v1_1 v1_2 v1_3 v1_4 (v4 ++ ([aX w0_7 (⟨#[44]⟩ : ByteArray)])) (inc v14)) := KJ [.b true, .val (.int .i64 0), rF, .val (.int .i64 (v1_0.length : Int)), .lp (.exit 2) (ef v1_0 v1_1 v1_2 v1_3 v1_4 v4 v14 w0_7), .ret [(false, [tS (aX w0_7 (⟨#[44]⟩ : ByteArray))])], .rows ((v4 ++ ([aX w0_7 (⟨#[44]⟩ : ByteArray)])).map etS)] _ (fun k => by kernel_rfl) (AC h0 <| AC (p := v14 = (0 : Int)) (eq_of_beq h1) <| AD (KT (fA v1_0 v14) h2) <| ALn v1_0 etI <| AL h3 <| AV (ψ := fun k => E.C k 61 [.one (.s .far () 1 (((w0_7.map etS).drop 0).take (w0_7.map etS).length)), .one (tS (⟨#[44]⟩ : ByteArray))] = some [(false, [tS (aX w0_7 (⟨#[44]⟩ : ByteArray))])]) (KS (by simp only [List.take_length, List.drop_zero]) (fI w0_7 (⟨#[44]⟩ : ByteArray) h4)) <| AAp etS (fun _ => rfl) h5 <| AN); exact (ih (v4 ++ ([aX w0_7 (⟨#[44]⟩ : ByteArray)])) (inc v14)).mono fun y hy => by cases y <;> exact KM r hy
   ·refine KO (fun h2 => ?_) (fun h2 => ?_)
    ·refine KO (fun h3 => ?_) (fun h3 => ?_)
     ·refine KQ (fun h4 => ?_)
      have r : cC (a8 v1_0 v1_1 v1_2 v1_3 v1_4 v4 v14) .normal (a8 v1_0 v1_1 v1_2 v1_3 v1_4 (v4 ++ ([(⟨#[42]⟩ : ByteArray)])) (inc v14)) := KJ [.b true, .val (.int .i64 1), rT, .rows ((v4 ++ ([(⟨#[42]⟩ : ByteArray)])).map etS)] _ (fun k => by kernel_rfl) (AC h0 <| AC (p := v14 = (1 : Int)) (eq_of_beq h2) <| AD (KT (fA v1_1 v14) h3) <| AAp etS (fun _ => rfl) h4 <| AN); exact (ih (v4 ++ ([(⟨#[42]⟩ : ByteArray)])) (inc v14)).mono fun y hy => by cases y <;> exact KM r hy
     ·refine KQ (fun hl6 => ?_)
      refine KP (fun y hy => ?_)
      replace hy := i7 v1_0 v1_1 v1_2 v1_3 v1_4 v4 v14 v1_1 v1_1 0 ([]) rfl hl6 y hy
      cases y with
      | x2 w0_7 =>
       have h4 := hy
       refine KQ (fun h5 => ?_)
       refine KQ (fun h6 => ?_)
       have r : cC (a8 v1_0 v1_1 v1_2 v1_3 v1_4 v4 v14) .normal (a8 v1_0 v1_1 v1_2 v1_3 v1_4 (v4 ++ ([aX w0_7 (⟨#[44]⟩ : ByteArray)])) (inc v14)) := KJ [.b true, .val (.int .i64 1), rF, .val (.int .i64 (v1_1.length : Int)), .lp (.exit 2) (ef v1_0 v1_1 v1_2 v1_3 v1_4 v4 v14 w0_7), .ret [(false, [tS (aX w0_7 (⟨#[44]⟩ : ByteArray))])], .rows ((v4 ++ ([aX w0_7 (⟨#[44]⟩ : ByteArray)])).map etS)] _ (fun k => by kernel_rfl) (AC h0 <| AC (p := v14 = (1 : Int)) (eq_of_beq h2) <| AD (KT (fA v1_1 v14) h3) <| ALn v1_1 etI <| AL h4 <| AV (ψ := fun k => E.C k 61 [.one (.s .far () 1 (((w0_7.map etS).drop 0).take (w0_7.map etS).length)), .one (tS (⟨#[44]⟩ : ByteArray))] = some [(false, [tS (aX w0_7 (⟨#[44]⟩ : ByteArray))])]) (KS (by simp only [List.take_length, List.drop_zero]) (fI w0_7 (⟨#[44]⟩ : ByteArray) h5)) <| AAp etS (fun _ => rfl) h6 <| AN); exact (ih (v4 ++ ([aX w0_7 (⟨#[44]⟩ : ByteArray)])) (inc v14)).mono fun y hy => by cases y <;> exact KM r hy
    ·refine KO (fun h3 => ?_) (fun h3 => ?_)
     ·refine KO (fun h4 => ?_) (fun h4 => ?_)
      ·refine KQ (fun h5 => ?_)
       have r : cC (a8 v1_0 v1_1 v1_2 v1_3 v1_4 v4 v14) .normal (a8 v1_0 v1_1 v1_2 v1_3 v1_4 (v4 ++ ([(⟨#[42]⟩ : ByteArray)])) (inc v14)) := KJ [.b true, .val (.int .i64 2), rT, .rows ((v4 ++ ([(⟨#[42]⟩ : ByteArray)])).map etS)] _ (fun k => by kernel_rfl) (AC h0 <| AC (p := v14 = (2 : Int)) (eq_of_beq h3) <| AD (KT (fA v1_2 v14) h4) <| AAp etS (fun _ => rfl) h5 <| AN); exact (ih (v4 ++ ([(⟨#[42]⟩ : ByteArray)])) (inc v14)).mono fun y hy => by cases y <;> exact KM r hy
      ·refine KQ (fun hl7 => ?_)
       refine KP (fun y hy => ?_)
       replace hy := i7 v1_0 v1_1 v1_2 v1_3 v1_4 v4 v14 v1_2 v1_2 0 ([]) rfl hl7 y hy
       cases y with
       | x2 w0_7 =>
        have h5 := hy
        refine KQ (fun h6 => ?_)
        refine KQ (fun h7 => ?_)
        have r : cC (a8 v1_0 v1_1 v1_2 v1_3 v1_4 v4 v14) .normal (a8 v1_0 v1_1 v1_2 v1_3 v1_4 (v4 ++ ([aX w0_7 (⟨#[44]⟩ : ByteArray)])) (inc v14)) := KJ [.b true, .val (.int .i64 2), rF, .val (.int .i64 (v1_2.length : Int)), .lp (.exit 2) (ef v1_0 v1_1 v1_2 v1_3 v1_4 v4 v14 w0_7), .ret [(false, [tS (aX w0_7 (⟨#[44]⟩ : ByteArray))])], .rows ((v4 ++ ([aX w0_7 (⟨#[44]⟩ : ByteArray)])).map etS)] _ (fun k => by kernel_rfl) (AC h0 <| AC (p := v14 = (2 : Int)) (eq_of_beq h3) <| AD (KT (fA v1_2 v14) h4) <| ALn v1_2 etI <| AL h5 <| AV (ψ := fun k => E.C k 61 [.one (.s .far () 1 (((w0_7.map etS).drop 0).take (w0_7.map etS).length)), .one (tS (⟨#[44]⟩ : ByteArray))] = some [(false, [tS (aX w0_7 (⟨#[44]⟩ : ByteArray))])]) (KS (by simp only [List.take_length, List.drop_zero]) (fI w0_7 (⟨#[44]⟩ : ByteArray) h6)) <| AAp etS (fun _ => rfl) h7 <| AN); exact (ih (v4 ++ ([aX w0_7 (⟨#[44]⟩ : ByteArray)])) (inc v14)).mono fun y hy => by cases y <;> exact KM r hy
     ·refine KO (fun h4 => ?_) (fun h4 => ?_)
      ·refine KO (fun h5 => ?_) (fun h5 => ?_)
       ·refine KQ (fun h6 => ?_)
        have r : cC (a8 v1_0 v1_1 v1_2 v1_3 v1_4 v4 v14) .normal (a8 v1_0 v1_1 v1_2 v1_3 v1_4 (v4 ++ ([(⟨#[42]⟩ : ByteArray)])) (inc v14)) := KJ [.b true, .val (.int .i64 3), rT, .rows ((v4 ++ ([(⟨#[42]⟩ : ByteArray)])).map etS)] _ (fun k => by kernel_rfl) (AC h0 <| AC (p := v14 = (3 : Int)) (eq_of_beq h4) <| AD (KT (fA v1_3 v14) h5) <| AAp etS (fun _ => rfl) h6 <| AN); exact (ih (v4 ++ ([(⟨#[42]⟩ : ByteArray)])) (inc v14)).mono fun y hy => by cases y <;> exact KM r hy
       ·refine KQ (fun hl8 => ?_)
        refine KP (fun y hy => ?_)
        replace hy := i7 v1_0 v1_1 v1_2 v1_3 v1_4 v4 v14 v1_3 v1_3 0 ([]) rfl hl8 y hy
        cases y with
        | x2 w0_7 =>
         have h6 := hy
         refine KQ (fun h7 => ?_)
         refine KQ (fun h8 => ?_)
         have r : cC (a8 v1_0 v1_1 v1_2 v1_3 v1_4 v4 v14) .normal (a8 v1_0 v1_1 v1_2 v1_3 v1_4 (v4 ++ ([aX w0_7 (⟨#[44]⟩ : ByteArray)])) (inc v14)) := KJ [.b true, .val (.int .i64 3), rF, .val (.int .i64 (v1_3.length : Int)), .lp (.exit 2) (ef v1_0 v1_1 v1_2 v1_3 v1_4 v4 v14 w0_7), .ret [(false, [tS (aX w0_7 (⟨#[44]⟩ : ByteArray))])], .rows ((v4 ++ ([aX w0_7 (⟨#[44]⟩ : ByteArray)])).map etS)] _ (fun k => by kernel_rfl) (AC h0 <| AC (p := v14 = (3 : Int)) (eq_of_beq h4) <| AD (KT (fA v1_3 v14) h5) <| ALn v1_3 etI <| AL h6 <| AV (ψ := fun k => E.C k 61 [.one (.s .far () 1 (((w0_7.map etS).drop 0).take (w0_7.map etS).length)), .one (tS (⟨#[44]⟩ : ByteArray))] = some [(false, [tS (aX w0_7 (⟨#[44]⟩ : ByteArray))])]) (KS (by simp only [List.take_length, List.drop_zero]) (fI w0_7 (⟨#[44]⟩ : ByteArray) h7)) <| AAp etS (fun _ => rfl) h8 <| AN); exact (ih (v4 ++ ([aX w0_7 (⟨#[44]⟩ : ByteArray)])) (inc v14)).mono fun y hy => by cases y <;> exact KM r hy
      ·refine KQ (fun h5 => ?_)
       refine KO (fun h6 => ?_) (fun h6 => ?_)
       ·refine KQ (fun h7 => ?_)
        have r : cC (a8 v1_0 v1_1 v1_2 v1_3 v1_4 v4 v14) .normal (a8 v1_0 v1_1 v1_2 v1_3 v1_4 (v4 ++ ([(⟨#[42]⟩ : ByteArray)])) (inc v14)) := KJ [.b true, .val (.int .i64 4), rT, .rows ((v4 ++ ([(⟨#[42]⟩ : ByteArray)])).map etS)] _ (fun k => by kernel_rfl) (AC h0 <| AC h5 <| AD (KT (fA v1_4 v14) h6) <| AAp etS (fun _ => rfl) h7 <| AN); exact (ih (v4 ++ ([(⟨#[42]⟩ : ByteArray)])) (inc v14)).mono fun y hy => by cases y <;> exact KM r hy
       ·refine KQ (fun hl8 => ?_)
        refine KP (fun y hy => ?_)
        replace hy := i7 v1_0 v1_1 v1_2 v1_3 v1_4 v4 v14 v1_4 v1_4 0 ([]) rfl hl8 y hy
        cases y with
        | x2 w0_7 =>
         have h7 := hy
         refine KQ (fun h8 => ?_)
         refine KQ (fun h9 => ?_)
         have r : cC (a8 v1_0 v1_1 v1_2 v1_3 v1_4 v4 v14) .normal (a8 v1_0 v1_1 v1_2 v1_3 v1_4 (v4 ++ ([aX w0_7 (⟨#[44]⟩ : ByteArray)])) (inc v14)) := KJ [.b true, .val (.int .i64 4), rF, .val (.int .i64 (v1_4.length : Int)), .lp (.exit 2) (ef v1_0 v1_1 v1_2 v1_3 v1_4 v4 v14 w0_7), .ret [(false, [tS (aX w0_7 (⟨#[44]⟩ : ByteArray))])], .rows ((v4 ++ ([aX w0_7 (⟨#[44]⟩ : ByteArray)])).map etS)] _ (fun k => by kernel_rfl) (AC h0 <| AC h5 <| AD (KT (fA v1_4 v14) h6) <| ALn v1_4 etI <| AL h7 <| AV (ψ := fun k => E.C k 61 [.one (.s .far () 1 (((w0_7.map etS).drop 0).take (w0_7.map etS).length)), .one (tS (⟨#[44]⟩ : ByteArray))] = some [(false, [tS (aX w0_7 (⟨#[44]⟩ : ByteArray))])]) (KS (by simp only [List.take_length, List.drop_zero]) (fI w0_7 (⟨#[44]⟩ : ByteArray) h8)) <| AAp etS (fun _ => rfl) h9 <| AN); exact (ih (v4 ++ ([aX w0_7 (⟨#[44]⟩ : ByteArray)])) (inc v14)).mono fun y hy => by cases y <;> exact KM r hy
  ·exact KL (KN (show cC (a8 v1_0 v1_1 v1_2 v1_3 v1_4 v4 v14) (.exit 0) (mg v4) from KJ [.b false] _ (fun k => by kernel_rfl) (AC h0 <| AN)) (by intro h; cases h))
noncomputable def mh (x0 : GCron) : Option (ByteArray × Bool) :=
  if an.sm x0 then cond (gz x0)
   ((aJ x0.f0 x0.f1 x0.f2 x0.f3 x0.f4 9223372036854775808 ([]) (0 : Int)).bind fun y => match y with
    | .x0 w0_4 => (if w0_4.length ≤ 140737488355328 ∧ (aX w0_4 (⟨#[32]⟩ : ByteArray)).size ≤ 140737488355328 then some (aX w0_4 (⟨#[32]⟩ : ByteArray), true) else none))
   (some (ByteArray.empty, false)) else none
theorem BC (x0 : GCron) : Ans (mh x0) (fun r => Does E 69 [.agg (GCron.t .far x0)] [(false, [tS r.1]), (false, [tB r.2])]) := by
 unfold mh
 refine KQ (fun h0 => ?_)
 refine KO (fun h1 => ?_) (fun h1 => ?_)
 ·refine KP (fun y hy => ?_)
  replace hy := zK x0.f0 x0.f1 x0.f2 x0.f3 x0.f4 9223372036854775808 ([]) (0 : Int) y hy
  cases y with
  | x0 w0_4 =>
   have h2 := hy
   refine KQ (fun h3 => ?_)
   exact KL (KK (fn := Tryz.f69) [rT, .lp (.exit 0) (mg w0_4), .ret [(false, [tS (aX w0_4 (⟨#[32]⟩ : ByteArray))])]] _ rfl (fun _ => rfl) (fun k => by kernel_rfl) (AD (KT (wz x0 h0) h1) <| AL h2 <| AV (ψ := fun k => E.C k 61 [.one (.s .far () 1 (((w0_4.map etS).drop 0).take (w0_4.map etS).length)), .one (tS (⟨#[32]⟩ : ByteArray))] = some [(false, [tS (aX w0_4 (⟨#[32]⟩ : ByteArray))])]) (KS (by simp only [List.take_length, List.drop_zero]) (fI w0_4 (⟨#[32]⟩ : ByteArray) h3)) <| AN))
 ·exact KL (KK (fn := Tryz.f69) [rF] _ rfl (fun _ => rfl) (fun k => by kernel_rfl) (AD (KT (wz x0 h0) h1) <| AN))
theorem zp {a b : Int} : ∀ {l : List Int} {p : Option Int}, jb a b l p = true → l.Pairwise (· < ·) ∧ ∀ y, p = some y → ∀ x ∈ l, y < x
 | [], p, _ => ⟨by simp, fun y _ x hx => by cases hx⟩
 | z :: l, p, h => by
  unfold jb at h
  simp only [Bool.and_eq_true] at h
  obtain ⟨h1, h2⟩ := zp h.2
  have h3 := h2 z rfl
  refine ⟨List.pairwise_cons.2 ⟨h3, h1⟩, fun y e x hx => ?_⟩
  subst e
  have h4 : y < z := by simpa using h.1.2
  rcases List.mem_cons.1 hx with rfl | hx
  ·exact h4
  ·have := h3 x hx; omega
theorem Cn {a b : Int} : ∀ {l : List Int} {p : Option Int}, jb a b l p = true → ∀ x ∈ l, a ≤ x ∧ x ≤ b
 | [], _, _, x, hx => by cases hx
 | y :: l, p, h, x, hx => by
  unfold jb at h
  simp only [Bool.and_eq_true] at h
  rcases List.mem_cons.1 hx with rfl | hx
  ·have := h.1.1; unfold aH at this; simpa using this
  ·exact Cn h.2 x hx
theorem zf {l : List Int} {a b : Int} (h : aY l a b = true) : ∀ x ∈ l, a ≤ x ∧ x ≤ b := by
 unfold aY at h
 rw [Bool.and_eq_true] at h
 have h := h.1
 exact Cn h
theorem FJ {l : List Int} {a b : Int} (h : aY l a b = true) (hab : a ≤ b + 1) : (l.length : Int) ≤ b + 1 - a := by
 have hi := zf h
 unfold aY at h
 rw [Bool.and_eq_true] at h
 exact sf a b l a (zp h.1).1 hi hab
theorem wI {c : GCron} (h : gz c = true) : aY c.f0 0 59 = true ∧ aY c.f1 0 23 = true ∧ aY c.f2 1 31 = true ∧ aY c.f3 1 12 = true ∧ aY c.f4 0 6 = true := by
 unfold gz at h
 simp only [Bool.and_eq_true] at h
 exact h
theorem fE {l : List Int} {a b : Int} (h : aY l a b = true) (h0 : 0 ≤ a) (h1 : a ≤ b) (h2 : b ≤ 59) : l.length ≤ 60 ∧ ∀ z ∈ l, 0 ≤ z ∧ z ≤ 59 := by
 have := FJ h (by omega)
 exact ⟨by omega, fun z hz => by have := zf h z hz; omega⟩
noncomputable def rK (c : GCron) : ByteArray := ofTx (fK 32 [tx (aE c.f0 60), tx (aE c.f1 24), tx (aE c.f2 31), tx (aE c.f3 12), tx (aE c.f4 7)])
noncomputable def be (c : GCron) : ByteArray × Bool := cond (gz c) (rK c, true) (ByteArray.empty, false)
theorem JS (a b c d e : ByteArray) : ((((((((a ++ ⟨#[32]⟩) ++ b) ++ ⟨#[32]⟩) ++ c) ++ ⟨#[32]⟩) ++ d) ++ ⟨#[32]⟩) ++ e : ByteArray) = ofTx (fK 32 [tx a, tx b, tx c, tx d, tx e]) := by
 apply xG
 have e32 : tx (⟨#[32]⟩ : ByteArray) = [32] := rfl
 simp [Hw, e32, rz, fK]
theorem JG (c : GCron) (h : an.sm c) : mI c = some (be c) := by
 unfold mI be
 rw [if_pos h]
 cases q : gz c with
 | false => rfl
 | true =>
  obtain ⟨k0, k1, k2, k3, k4⟩ := wI q
  have a0 := fE k0 (by decide) (by decide) (by decide)
  have a1 := fE k1 (by decide) (by decide) (by decide)
  have a2 := fE k2 (by decide) (by decide) (by decide)
  have a3 := fE k3 (by decide) (by decide) (by decide)
  have a4 := fE k4 (by decide) (by decide) (by decide)
  have z0 := e8 a0.1 a0.2 60
  have z1 := e8 a1.1 a1.2 24
  have z2 := e8 a2.1 a2.2 31
  have z3 := e8 a3.1 a3.2 12
  have z4 := e8 a4.1 a4.2 7
  have e32 : (⟨#[32]⟩ : ByteArray).size = 1 := rfl
  rw [cond_true, cond_true]
  simp only [if_pos a0.1, if_pos a0.2, if_pos a1.1, if_pos a1.2, if_pos a2.1, if_pos a2.2, if_pos a3.1, if_pos a3.2, if_pos a4.1, if_pos a4.2, ByteArray.size_append, e32, maxStr]
  repeat rw [if_pos (by omega)]
  rw [JS]
  rfl
theorem IC : ∀ (l : List Int) (i : Nat) (v : List ByteArray), (∀ z ∈ l, 0 ≤ z ∧ z ≤ 59) → v.length + l.length ≤ 1000 → bZ l i v = some (.x2 (v ++ l.map bi))
 | [], i, v, _, _ => by unfold bZ; simp
 | x :: l, i, v, h, hl => by
  have hx := h x (by simp)
  simp only [List.length_cons] at hl
  unfold bZ
  rw [if_pos (by omega), if_pos (by simp; omega), IC l (i + 1) _ (fun z hz => h z (by simp [hz])) (by simp; omega)]
  simp
theorem nW (l : List Int) (hl : l.length ≤ 60) (hm : ∀ z ∈ l, 0 ≤ z ∧ z ≤ 59) (v : List ByteArray) (hv : v.length ≤ 10) (b : Bool) (n : Int) (hb : b = ((l.length : Int) == n)) (K : List ByteArray → Option nZ) :
  cond b
    (if (v.length + ([(⟨#[42]⟩ : ByteArray)]).length) * 16 ≤ 140737488355328 ∧ v.length + ([(⟨#[42]⟩ : ByteArray)]).length ≤ 4611686018427387904 then K (v ++ ([(⟨#[42]⟩ : ByteArray)])) else none)
    (if l.length ≤ 9223372036854775807 then (bZ l 0 ([])).bind fun y => match y with
     | .x2 w0_7 => (if w0_7.length ≤ 140737488355328 ∧ (aX w0_7 (⟨#[44]⟩ : ByteArray)).size ≤ 140737488355328 then if (v.length + ([aX w0_7 (⟨#[44]⟩ : ByteArray)]).length) * 16 ≤ 140737488355328 ∧ v.length + ([aX w0_7 (⟨#[44]⟩ : ByteArray)]).length ≤ 4611686018427387904 then K (v ++ ([aX w0_7 (⟨#[44]⟩ : ByteArray)])) else none else none) else none) = K (v ++ [aE l n]) := by
 subst hb
 have hj : aX (l.map bi) ⟨#[44]⟩ = ofTx (fK 44 (l.map fun x => tx (bi x))) := by
  have e : l.map bi = (l.map fun x => tx (bi x)).map ofTx := by rw [List.map_map]; rfl
  rw [e, sR]
 unfold aE
 have hz := e8 hl hm n
 unfold aE at hz
 cases q : (l.length : Int) == n with
 | true => rw [cond_true, if_pos (by simp; omega), cond_true]
 | false =>
  rw [q, cond_false] at hz
  rw [cond_false, cond_false, if_pos (by omega), IC l 0 [] hm (by simp; omega), Option.bind_some]
  simp only [List.nil_append]
  rw [hj, if_pos (by rw [List.length_map]; omega), if_pos (by simp; omega)]
theorem JF (c : GCron) (h : an.sm c) : mh c = some (be c) := by
 unfold mh be
 rw [if_pos h]
 cases q : gz c with
 | false => rfl
 | true =>
  obtain ⟨k0, k1, k2, k3, k4⟩ := wI q
  have a0 := fE k0 (by decide) (by decide) (by decide)
  have a1 := fE k1 (by decide) (by decide) (by decide)
  have a2 := fE k2 (by decide) (by decide) (by decide)
  have a3 := fE k3 (by decide) (by decide) (by decide)
  have a4 := fE k4 (by decide) (by decide) (by decide)
  have z0 := e8 a0.1 a0.2 60
  have z1 := e8 a1.1 a1.2 24
  have z2 := e8 a2.1 a2.2 31
  have z3 := e8 a3.1 a3.2 12
  have z4 := e8 a4.1 a4.2 7
  have s0 : ∀ n, aJ c.f0 c.f1 c.f2 c.f3 c.f4 (n + 1) [] 0 = aJ c.f0 c.f1 c.f2 c.f3 c.f4 n ([] ++ [aE c.f0 60]) 1 := fun n =>
   nW c.f0 a0.1 a0.2 [] (by simp) (mq c.f0 0) 60 rfl fun w => aJ c.f0 c.f1 c.f2 c.f3 c.f4 n w 1
  have s1 : ∀ n v, v.length ≤ 10 → aJ c.f0 c.f1 c.f2 c.f3 c.f4 (n + 1) v 1 = aJ c.f0 c.f1 c.f2 c.f3 c.f4 n (v ++ [aE c.f1 24]) 2 := fun n v hv =>
   nW c.f1 a1.1 a1.2 v hv (mq c.f1 1) 24 rfl fun w => aJ c.f0 c.f1 c.f2 c.f3 c.f4 n w 2
  have s2 : ∀ n v, v.length ≤ 10 → aJ c.f0 c.f1 c.f2 c.f3 c.f4 (n + 1) v 2 = aJ c.f0 c.f1 c.f2 c.f3 c.f4 n (v ++ [aE c.f2 31]) 3 := fun n v hv =>
   nW c.f2 a2.1 a2.2 v hv (mq c.f2 2) 31 rfl fun w => aJ c.f0 c.f1 c.f2 c.f3 c.f4 n w 3
  have s3 : ∀ n v, v.length ≤ 10 → aJ c.f0 c.f1 c.f2 c.f3 c.f4 (n + 1) v 3 = aJ c.f0 c.f1 c.f2 c.f3 c.f4 n (v ++ [aE c.f3 12]) 4 := fun n v hv =>
   nW c.f3 a3.1 a3.2 v hv (mq c.f3 3) 12 rfl fun w => aJ c.f0 c.f1 c.f2 c.f3 c.f4 n w 4
  have s4 : ∀ n v, v.length ≤ 10 → aJ c.f0 c.f1 c.f2 c.f3 c.f4 (n + 1) v 4 = aJ c.f0 c.f1 c.f2 c.f3 c.f4 n (v ++ [aE c.f4 7]) 5 := fun n v hv =>
   nW c.f4 a4.1 a4.2 v hv (mq c.f4 4) 7 rfl fun w => aJ c.f0 c.f1 c.f2 c.f3 c.f4 n w 5
  have s5 : ∀ n v, aJ c.f0 c.f1 c.f2 c.f3 c.f4 (n + 1) v 5 = some (.x0 v) := fun n v => rfl
  have st : aJ c.f0 c.f1 c.f2 c.f3 c.f4 (9223372036854775802 + 6) [] 0 = _ := s0 _
  rw [s1 _ _ (by simp), s2 _ _ (by simp), s3 _ _ (by simp), s4 _ _ (by simp), s5] at st
  simp only [List.nil_append, List.cons_append] at st
  rw [cond_true, cond_true]
  refine (congrArg (Option.bind · _) st).trans ?_
  rw [Option.bind_some]
  have ej : aX [aE c.f0 60, aE c.f1 24, aE c.f2 31, aE c.f3 12, aE c.f4 7] ⟨#[32]⟩ = rK c := sR [tx (aE c.f0 60), tx (aE c.f1 24), tx (aE c.f2 31), tx (aE c.f3 12), tx (aE c.f4 7)] 32
  have el : (rK c).size ≤ 2000 := by
   unfold rK
   rw [nU]
   have := u6 32 200 [tx (aE c.f0 60), tx (aE c.f1 24), tx (aE c.f2 31), tx (aE c.f3 12), tx (aE c.f4 7)] (fun x hx => by
    simp only [List.mem_cons, List.not_mem_nil, or_false] at hx
    rcases hx with rfl | rfl | rfl | rfl | rfl <;> rw [← cO] <;> assumption)
   simp only [List.length_cons, List.length_nil] at this
   omega
  show (if _ then _ else none) = _
  rw [ej, if_pos ⟨by simp, by omega⟩]
theorem eb (x0 : GCron) (h : an.sm x0) : Does E 56 [.agg (GCron.t .far x0)] [(false, [tS ((be x0).1)]), (false, [tB ((be x0).2)])] := by
 exact Cq x0 _ (JG x0 h)
theorem tw (x0 : GCron) (h : an.sm x0) : Does E 69 [.agg (GCron.t .far x0)] [(false, [tS ((be x0).1)]), (false, [tB ((be x0).2)])] := by
 exact BC x0 _ (JF x0 h)
end Go.Proofs.YtjfbofdmjihglaaGreatDoor.Am
