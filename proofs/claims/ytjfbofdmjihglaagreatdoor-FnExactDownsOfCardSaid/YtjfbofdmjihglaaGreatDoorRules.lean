/- Rules. -/
import Derived.Test.YtjfbofdmjihglaaGreatDoorWords
namespace Go.Proofs.YtjfbofdmjihglaaGreatDoor.Am
open Go Go.Proofs Classical
set_option maxRecDepth 100000
set_option linter.unusedVariables false
set_option linter.unusedSimpArgs false
inductive rH where
 | ret (v2_0 v2_1 v2_2 v2_3 v2_4 : List Int) (v3 : Bool)
 | x0 
def fY (v2_0 v2_1 v2_2 v2_3 v2_4 v6_0 v6_1 v6_2 v6_3 v6_4 : List Int) (v7 : List Bool) (v8 : Int) : US := stL 85 [(2, .box () [.s .own () 1 (v2_0.map etI), .s .own () 1 (v2_1.map etI), .s .own () 1 (v2_2.map etI), .s .own () 1 (v2_3.map etI), .s .own () 1 (v2_4.map etI)]), (6, .box () [.s .own () 1 (v6_0.map etI), .s .own () 1 (v6_1.map etI), .s .own () 1 (v6_2.map etI), .s .own () 1 (v6_3.map etI), .s .own () 1 (v6_4.map etI)]), (7, .one (.s .own () 1 (v7.map etB))), (8, .one (tI v8))]
def kZ (zv2_0 zv2_1 zv2_2 zv2_3 zv2_4 : List Int) (zv3 : Bool) : US := stL 85 [(2, .box () [.s .own () 1 (zv2_0.map etI), .s .own () 1 (zv2_1.map etI), .s .own () 1 (zv2_2.map etI), .s .own () 1 (zv2_3.map etI), .s .own () 1 (zv2_4.map etI)]), (3, .one (tB zv3))]
def lP (v2_0 v2_1 v2_2 v2_3 v2_4 v6_0 v6_1 v6_2 v6_3 v6_4 : List Int) : US := stL 85 [(2, .box () [.s .own () 1 (v2_0.map etI), .s .own () 1 (v2_1.map etI), .s .own () 1 (v2_2.map etI), .s .own () 1 (v2_3.map etI), .s .own () 1 (v2_4.map etI)]), (6, .box () [.s .own () 1 (v6_0.map etI), .s .own () 1 (v6_1.map etI), .s .own () 1 (v6_2.map etI), .s .own () 1 (v6_3.map etI), .s .own () 1 (v6_4.map etI)])]
abbrev nv : US → Exit → US → Prop := Round E 55 (ax Tryz.f55 0)
def yV (v2_0 v2_1 v2_2 v2_3 v2_4 v6_0 v6_1 v6_2 v6_3 v6_4 : List Int) (v7 : List Bool) (v8 : Int) : rH → Prop
 | .ret zv2_0 zv2_1 zv2_2 zv2_3 zv2_4 zv3 => Loops E 55 (ax Tryz.f55 0) (fY v2_0 v2_1 v2_2 v2_3 v2_4 v6_0 v6_1 v6_2 v6_3 v6_4 v7 v8) .ret (kZ zv2_0 zv2_1 zv2_2 zv2_3 zv2_4 zv3)
 | .x0 => Loops E 55 (ax Tryz.f55 0) (fY v2_0 v2_1 v2_2 v2_3 v2_4 v6_0 v6_1 v6_2 v6_3 v6_4 v7 v8) (.exit 0) (lP v2_0 v2_1 v2_2 v2_3 v2_4 v6_0 v6_1 v6_2 v6_3 v6_4)
noncomputable def fZ (v7 : List Bool) : Nat → Int → Option rH
 | 0, _ => none
 | n + 1, v8 => cond (decide (v8 < (5 : Int)))
  ((aI v7 v8).bind fun g0 => cond (g0)
   (fZ v7 n (inc v8))
   (some (.ret ([]) ([]) ([]) ([]) ([]) false)))
  (some (.x0))
theorem yU (v2_0 v2_1 v2_2 v2_3 v2_4 v6_0 v6_1 v6_2 v6_3 v6_4 : List Int) (v7 : List Bool) (n : Nat) : ∀ (v8 : Int), Ans (fZ v7 n v8) (yV v2_0 v2_1 v2_2 v2_3 v2_4 v6_0 v6_1 v6_2 v6_3 v6_4 v7 v8) := by
 induction n with
 | zero => intros; exact Ans.none
 | succ n ih =>
  intro v8
  unfold fZ
  refine K8 (fun h0 => ?_) (fun h0 => ?_)
  ·refine K9 (fun g0 h1 => ?_)
   refine K8 (fun h2 => ?_) (fun h2 => ?_)
   ·have r : nv (fY v2_0 v2_1 v2_2 v2_3 v2_4 v6_0 v6_1 v6_2 v6_3 v6_4 v7 v8) .normal (fY v2_0 v2_1 v2_2 v2_3 v2_4 v6_0 v6_1 v6_2 v6_3 v6_4 v7 (inc v8)) := K3 [.b true, .row ([tB true])] _ (fun k => by kernel_rfl) (AC h0 <| AC (p := 0 ≤ v8 ∧ v8 < ((v7.map etB).length : Int)) (jA h1) <| AC (p := (v7.map etB)[0 + v8.toNat]? = some ([tB true])) ((eH h1).trans (congrArg some (show [tB g0] = [tB true] by rw [h2]))) <| AN); exact (ih (inc v8)).mono fun y hy => by cases y <;> exact K6 r hy
   ·exact K5 (K7 (show nv (fY v2_0 v2_1 v2_2 v2_3 v2_4 v6_0 v6_1 v6_2 v6_3 v6_4 v7 v8) .ret (kZ ([]) ([]) ([]) ([]) ([]) false) from K3 [.b true, .row ([tB false])] _ (fun k => by kernel_rfl) (AC h0 <| AC (p := 0 ≤ v8 ∧ v8 < ((v7.map etB).length : Int)) (jA h1) <| AC (p := (v7.map etB)[0 + v8.toNat]? = some ([tB false])) ((eH h1).trans (congrArg some (show [tB g0] = [tB false] by rw [h2]))) <| AN)) (by intro h; cases h))
  ·exact K5 (K7 (show nv (fY v2_0 v2_1 v2_2 v2_3 v2_4 v6_0 v6_1 v6_2 v6_3 v6_4 v7 v8) (.exit 0) (lP v2_0 v2_1 v2_2 v2_3 v2_4 v6_0 v6_1 v6_2 v6_3 v6_4) from K3 [.b false] _ (fun k => by kernel_rfl) (AC h0 <| AN)) (by intro h; cases h))
noncomputable def lw (x0 : ByteArray) : Option (GCron × Bool) :=
  cond ((aN x0).2)
   (cond ((((aN x0).1).length : Int) != (5 : Int))
    (some ((GCron.mk ([] : List Int) ([] : List Int) ([] : List Int) ([] : List Int) ([] : List Int)), false))
    (if 0 ≤ (5 : Int) ∧ (5 : Int) ≤ (5 : Int) ∧ ((1 : Nat) : Int) * (5 : Int) ≤ 281474976710656 ∧ (5 : Int) ≤ 4611686018427387904 then (aI ((aN x0).1) (0 : Int)).bind fun g0 => if g0.size ≤ 2000000 then if 0 ≤ (0 : Int) ∧ (0 : Int) ≤ (59 : Int) ∧ (59 : Int) ≤ 59 then (aI (List.replicate (5 : Int).toNat false) (0 : Int)).bind fun g1 => (aI ((aN x0).1) (1 : Int)).bind fun g2 => if g2.size ≤ 2000000 then if 0 ≤ (0 : Int) ∧ (0 : Int) ≤ (23 : Int) ∧ (23 : Int) ≤ 59 then (aI ((List.replicate (5 : Int).toNat false).set (0 : Int).toNat ((ag g0 (0 : Int) (59 : Int)).2)) (1 : Int)).bind fun g3 => (aI ((aN x0).1) (2 : Int)).bind fun g4 => if g4.size ≤ 2000000 then if 0 ≤ (1 : Int) ∧ (1 : Int) ≤ (31 : Int) ∧ (31 : Int) ≤ 59 then (aI (((List.replicate (5 : Int).toNat false).set (0 : Int).toNat ((ag g0 (0 : Int) (59 : Int)).2)).set (1 : Int).toNat ((ag g2 (0 : Int) (23 : Int)).2)) (2 : Int)).bind fun g5 => (aI ((aN x0).1) (3 : Int)).bind fun g6 => if g6.size ≤ 2000000 then if 0 ≤ (1 : Int) ∧ (1 : Int) ≤ (12 : Int) ∧ (12 : Int) ≤ 59 then (aI ((((List.replicate (5 : Int).toNat false).set (0 : Int).toNat ((ag g0 (0 : Int) (59 : Int)).2)).set (1 : Int).toNat ((ag g2 (0 : Int) (23 : Int)).2)).set (2 : Int).toNat ((ag g4 (1 : Int) (31 : Int)).2)) (3 : Int)).bind fun g7 => (aI ((aN x0).1) (4 : Int)).bind fun g8 => if g8.size ≤ 2000000 then if 0 ≤ (0 : Int) ∧ (0 : Int) ≤ (6 : Int) ∧ (6 : Int) ≤ 59 then (aI (((((List.replicate (5 : Int).toNat false).set (0 : Int).toNat ((ag g0 (0 : Int) (59 : Int)).2)).set (1 : Int).toNat ((ag g2 (0 : Int) (23 : Int)).2)).set (2 : Int).toNat ((ag g4 (1 : Int) (31 : Int)).2)).set (3 : Int).toNat ((ag g6 (1 : Int) (12 : Int)).2)) (4 : Int)).bind fun g9 => (fZ ((((((List.replicate (5 : Int).toNat false).set (0 : Int).toNat ((ag g0 (0 : Int) (59 : Int)).2)).set (1 : Int).toNat ((ag g2 (0 : Int) (23 : Int)).2)).set (2 : Int).toNat ((ag g4 (1 : Int) (31 : Int)).2)).set (3 : Int).toNat ((ag g6 (1 : Int) (12 : Int)).2)).set (4 : Int).toNat ((ag g8 (0 : Int) (6 : Int)).2)) 9223372036854775808 (0 : Int)).bind fun y => match y with
     | .ret w0_2_0 w0_2_1 w0_2_2 w0_2_3 w0_2_4 w0_3 => (some ((GCron.mk w0_2_0 w0_2_1 w0_2_2 w0_2_3 w0_2_4), w0_3))
     | .x0 => (some ((GCron.mk ((ag g0 (0 : Int) (59 : Int)).1) ((ag g2 (0 : Int) (23 : Int)).1) ((ag g4 (1 : Int) (31 : Int)).1) ((ag g6 (1 : Int) (12 : Int)).1) ((ag g8 (0 : Int) (6 : Int)).1)), true)) else none else none else none else none else none else none else none else none else none else none else none))
   (some ((GCron.mk ([] : List Int) ([] : List Int) ([] : List Int) ([] : List Int) ([] : List Int)), false))
theorem Ao (x0 : ByteArray) : Ans (lw x0) (fun r => Does E 55 [.one (tS x0)] [(true, GCron.t .own r.1), (false, [tB r.2])]) := by
 unfold lw
 refine K8 (fun h0 => ?_) (fun h0 => ?_)
 ·refine K8 (fun h1 => ?_) (fun h1 => ?_)
  ·exact K5 (K4 (fn := Tryz.f55) [.ret [(false, [.s .own () 1 (((aN x0).1).map etS)]), (false, [tB true])], .val (.int .i64 (((aN x0).1).length : Int)), .b true] _ rfl (fun _ => rfl) (fun k => by kernel_rfl) (AD (lj x0 h0) <| ALn ((aN x0).1) etS <| AC h1 <| AN))
  ·refine La (fun h2 => ?_)
   refine K9 (fun g0 h3 => ?_)
   refine La (fun h4 => ?_)
   refine La (fun h5 => ?_)
   refine K9 (fun g1 h6 => ?_)
   refine K9 (fun g2 h7 => ?_)
   refine La (fun h8 => ?_)
   refine La (fun h9 => ?_)
   refine K9 (fun g3 h10 => ?_)
   refine K9 (fun g4 h11 => ?_)
   refine La (fun h12 => ?_)
   refine La (fun h13 => ?_)
   refine K9 (fun g5 h14 => ?_)
   refine K9 (fun g6 h15 => ?_)
   refine La (fun h16 => ?_)
   refine La (fun h17 => ?_)
   refine K9 (fun g7 h18 => ?_)
   refine K9 (fun g8 h19 => ?_)
   refine La (fun h20 => ?_)
   refine La (fun h21 => ?_)
   refine K9 (fun g9 h22 => ?_)
   refine K9 (fun y hy => ?_)
   replace hy := yU ([]) ([]) ([]) ([]) ([]) ((ag g0 (0 : Int) (59 : Int)).1) ((ag g2 (0 : Int) (23 : Int)).1) ((ag g4 (1 : Int) (31 : Int)).1) ((ag g6 (1 : Int) (12 : Int)).1) ((ag g8 (0 : Int) (6 : Int)).1) ((((((List.replicate (5 : Int).toNat false).set (0 : Int).toNat ((ag g0 (0 : Int) (59 : Int)).2)).set (1 : Int).toNat ((ag g2 (0 : Int) (23 : Int)).2)).set (2 : Int).toNat ((ag g4 (1 : Int) (31 : Int)).2)).set (3 : Int).toNat ((ag g6 (1 : Int) (12 : Int)).2)).set (4 : Int).toNat ((ag g8 (0 : Int) (6 : Int)).2)) 9223372036854775808 (0 : Int) y hy
   cases y with
   | ret w0_2_0 w0_2_1 w0_2_2 w0_2_3 w0_2_4 w0_3 =>
    have h23 := hy
    exact K5 (K4 (fn := Tryz.f55) [.ret [(false, [.s .own () 1 (((aN x0).1).map etS)]), (false, [tB true])], .val (.int .i64 (((aN x0).1).length : Int)), .b false, .rows ((List.replicate (5 : Int).toNat false).map etB), .row (etS g0), .ret [(false, [.s .own () 1 (((ag g0 (0 : Int) (59 : Int)).1).map etI)]), (false, [tB ((ag g0 (0 : Int) (59 : Int)).2)])], .row (etB g1), .rows (((List.replicate (5 : Int).toNat false).set (0 : Int).toNat ((ag g0 (0 : Int) (59 : Int)).2)).map etB), .row (etS g2), .ret [(false, [.s .own () 1 (((ag g2 (0 : Int) (23 : Int)).1).map etI)]), (false, [tB ((ag g2 (0 : Int) (23 : Int)).2)])], .row (etB g3), .rows ((((List.replicate (5 : Int).toNat false).set (0 : Int).toNat ((ag g0 (0 : Int) (59 : Int)).2)).set (1 : Int).toNat ((ag g2 (0 : Int) (23 : Int)).2)).map etB), .row (etS g4), .ret [(false, [.s .own () 1 (((ag g4 (1 : Int) (31 : Int)).1).map etI)]), (false, [tB ((ag g4 (1 : Int) (31 : Int)).2)])], .row (etB g5), .rows (((((List.replicate (5 : Int).toNat false).set (0 : Int).toNat ((ag g0 (0 : Int) (59 : Int)).2)).set (1 : Int).toNat ((ag g2 (0 : Int) (23 : Int)).2)).set (2 : Int).toNat ((ag g4 (1 : Int) (31 : Int)).2)).map etB), .row (etS g6), .ret [(false, [.s .own () 1 (((ag g6 (1 : Int) (12 : Int)).1).map etI)]), (false, [tB ((ag g6 (1 : Int) (12 : Int)).2)])], .row (etB g7), .rows ((((((List.replicate (5 : Int).toNat false).set (0 : Int).toNat ((ag g0 (0 : Int) (59 : Int)).2)).set (1 : Int).toNat ((ag g2 (0 : Int) (23 : Int)).2)).set (2 : Int).toNat ((ag g4 (1 : Int) (31 : Int)).2)).set (3 : Int).toNat ((ag g6 (1 : Int) (12 : Int)).2)).map etB), .row (etS g8), .ret [(false, [.s .own () 1 (((ag g8 (0 : Int) (6 : Int)).1).map etI)]), (false, [tB ((ag g8 (0 : Int) (6 : Int)).2)])], .row (etB g9), .rows (((((((List.replicate (5 : Int).toNat false).set (0 : Int).toNat ((ag g0 (0 : Int) (59 : Int)).2)).set (1 : Int).toNat ((ag g2 (0 : Int) (23 : Int)).2)).set (2 : Int).toNat ((ag g4 (1 : Int) (31 : Int)).2)).set (3 : Int).toNat ((ag g6 (1 : Int) (12 : Int)).2)).set (4 : Int).toNat ((ag g8 (0 : Int) (6 : Int)).2)).map etB), .lp .ret (kZ w0_2_0 w0_2_1 w0_2_2 w0_2_3 w0_2_4 w0_3)] _ rfl (fun _ => rfl) (fun k => by kernel_rfl) (AD (lj x0 h0) <| ALn ((aN x0).1) etS <| AC h1 <| AC h2 <| AC (p := List.replicate (5 : Int).toNat [tB false] = (List.replicate (5 : Int).toNat false).map etB) (pQ rfl) <| AG etS h3 <| AD (dF g0 (0 : Int) (59 : Int) h4 h5) <| AG etB h6 <| AC (p := ((List.replicate (5 : Int).toNat false).map etB).set (0 + (0 : Int).toNat) (ay (etB g1) 0 [tB ((ag g0 (0 : Int) (59 : Int)).2)]) = ((List.replicate (5 : Int).toNat false).set (0 : Int).toNat ((ag g0 (0 : Int) (59 : Int)).2)).map etB) (ea (by rfl)) <| AG etS h7 <| AD (dF g2 (0 : Int) (23 : Int) h8 h9) <| AG etB h10 <| AC (p := (((List.replicate (5 : Int).toNat false).set (0 : Int).toNat ((ag g0 (0 : Int) (59 : Int)).2)).map etB).set (0 + (1 : Int).toNat) (ay (etB g3) 0 [tB ((ag g2 (0 : Int) (23 : Int)).2)]) = (((List.replicate (5 : Int).toNat false).set (0 : Int).toNat ((ag g0 (0 : Int) (59 : Int)).2)).set (1 : Int).toNat ((ag g2 (0 : Int) (23 : Int)).2)).map etB) (ea (by rfl)) <| AG etS h11 <| AD (dF g4 (1 : Int) (31 : Int) h12 h13) <| AG etB h14 <| AC (p := ((((List.replicate (5 : Int).toNat false).set (0 : Int).toNat ((ag g0 (0 : Int) (59 : Int)).2)).set (1 : Int).toNat ((ag g2 (0 : Int) (23 : Int)).2)).map etB).set (0 + (2 : Int).toNat) (ay (etB g5) 0 [tB ((ag g4 (1 : Int) (31 : Int)).2)]) = ((((List.replicate (5 : Int).toNat false).set (0 : Int).toNat ((ag g0 (0 : Int) (59 : Int)).2)).set (1 : Int).toNat ((ag g2 (0 : Int) (23 : Int)).2)).set (2 : Int).toNat ((ag g4 (1 : Int) (31 : Int)).2)).map etB) (ea (by rfl)) <| AG etS h15 <| AD (dF g6 (1 : Int) (12 : Int) h16 h17) <| AG etB h18 <| AC (p := (((((List.replicate (5 : Int).toNat false).set (0 : Int).toNat ((ag g0 (0 : Int) (59 : Int)).2)).set (1 : Int).toNat ((ag g2 (0 : Int) (23 : Int)).2)).set (2 : Int).toNat ((ag g4 (1 : Int) (31 : Int)).2)).map etB).set (0 + (3 : Int).toNat) (ay (etB g7) 0 [tB ((ag g6 (1 : Int) (12 : Int)).2)]) = (((((List.replicate (5 : Int).toNat false).set (0 : Int).toNat ((ag g0 (0 : Int) (59 : Int)).2)).set (1 : Int).toNat ((ag g2 (0 : Int) (23 : Int)).2)).set (2 : Int).toNat ((ag g4 (1 : Int) (31 : Int)).2)).set (3 : Int).toNat ((ag g6 (1 : Int) (12 : Int)).2)).map etB) (ea (by rfl)) <| AG etS h19 <| AD (dF g8 (0 : Int) (6 : Int) h20 h21) <| AG etB h22 <| AC (p := ((((((List.replicate (5 : Int).toNat false).set (0 : Int).toNat ((ag g0 (0 : Int) (59 : Int)).2)).set (1 : Int).toNat ((ag g2 (0 : Int) (23 : Int)).2)).set (2 : Int).toNat ((ag g4 (1 : Int) (31 : Int)).2)).set (3 : Int).toNat ((ag g6 (1 : Int) (12 : Int)).2)).map etB).set (0 + (4 : Int).toNat) (ay (etB g9) 0 [tB ((ag g8 (0 : Int) (6 : Int)).2)]) = ((((((List.replicate (5 : Int).toNat false).set (0 : Int).toNat ((ag g0 (0 : Int) (59 : Int)).2)).set (1 : Int).toNat ((ag g2 (0 : Int) (23 : Int)).2)).set (2 : Int).toNat ((ag g4 (1 : Int) (31 : Int)).2)).set (3 : Int).toNat ((ag g6 (1 : Int) (12 : Int)).2)).set (4 : Int).toNat ((ag g8 (0 : Int) (6 : Int)).2)).map etB) (ea (by rfl)) <| AL h23 <| AN))
   | x0 =>
    have h23 := hy
    exact K5 (K4 (fn := Tryz.f55) [.ret [(false, [.s .own () 1 (((aN x0).1).map etS)]), (false, [tB true])], .val (.int .i64 (((aN x0).1).length : Int)), .b false, .rows ((List.replicate (5 : Int).toNat false).map etB), .row (etS g0), .ret [(false, [.s .own () 1 (((ag g0 (0 : Int) (59 : Int)).1).map etI)]), (false, [tB ((ag g0 (0 : Int) (59 : Int)).2)])], .row (etB g1), .rows (((List.replicate (5 : Int).toNat false).set (0 : Int).toNat ((ag g0 (0 : Int) (59 : Int)).2)).map etB), .row (etS g2), .ret [(false, [.s .own () 1 (((ag g2 (0 : Int) (23 : Int)).1).map etI)]), (false, [tB ((ag g2 (0 : Int) (23 : Int)).2)])], .row (etB g3), .rows ((((List.replicate (5 : Int).toNat false).set (0 : Int).toNat ((ag g0 (0 : Int) (59 : Int)).2)).set (1 : Int).toNat ((ag g2 (0 : Int) (23 : Int)).2)).map etB), .row (etS g4), .ret [(false, [.s .own () 1 (((ag g4 (1 : Int) (31 : Int)).1).map etI)]), (false, [tB ((ag g4 (1 : Int) (31 : Int)).2)])], .row (etB g5), .rows (((((List.replicate (5 : Int).toNat false).set (0 : Int).toNat ((ag g0 (0 : Int) (59 : Int)).2)).set (1 : Int).toNat ((ag g2 (0 : Int) (23 : Int)).2)).set (2 : Int).toNat ((ag g4 (1 : Int) (31 : Int)).2)).map etB), .row (etS g6), .ret [(false, [.s .own () 1 (((ag g6 (1 : Int) (12 : Int)).1).map etI)]), (false, [tB ((ag g6 (1 : Int) (12 : Int)).2)])], .row (etB g7), .rows ((((((List.replicate (5 : Int).toNat false).set (0 : Int).toNat ((ag g0 (0 : Int) (59 : Int)).2)).set (1 : Int).toNat ((ag g2 (0 : Int) (23 : Int)).2)).set (2 : Int).toNat ((ag g4 (1 : Int) (31 : Int)).2)).set (3 : Int).toNat ((ag g6 (1 : Int) (12 : Int)).2)).map etB), .row (etS g8), .ret [(false, [.s .own () 1 (((ag g8 (0 : Int) (6 : Int)).1).map etI)]), (false, [tB ((ag g8 (0 : Int) (6 : Int)).2)])], .row (etB g9), .rows (((((((List.replicate (5 : Int).toNat false).set (0 : Int).toNat ((ag g0 (0 : Int) (59 : Int)).2)).set (1 : Int).toNat ((ag g2 (0 : Int) (23 : Int)).2)).set (2 : Int).toNat ((ag g4 (1 : Int) (31 : Int)).2)).set (3 : Int).toNat ((ag g6 (1 : Int) (12 : Int)).2)).set (4 : Int).toNat ((ag g8 (0 : Int) (6 : Int)).2)).map etB), .lp (.exit 0) (lP ([]) ([]) ([]) ([]) ([]) ((ag g0 (0 : Int) (59 : Int)).1) ((ag g2 (0 : Int) (23 : Int)).1) ((ag g4 (1 : Int) (31 : Int)).1) ((ag g6 (1 : Int) (12 : Int)).1) ((ag g8 (0 : Int) (6 : Int)).1))] _ rfl (fun _ => rfl) (fun k => by kernel_rfl) (AD (lj x0 h0) <| ALn ((aN x0).1) etS <| AC h1 <| AC h2 <| AC (p := List.replicate (5 : Int).toNat [tB false] = (List.replicate (5 : Int).toNat false).map etB) (pQ rfl) <| AG etS h3 <| AD (dF g0 (0 : Int) (59 : Int) h4 h5) <| AG etB h6 <| AC (p := ((List.replicate (5 : Int).toNat false).map etB).set (0 + (0 : Int).toNat) (ay (etB g1) 0 [tB ((ag g0 (0 : Int) (59 : Int)).2)]) = ((List.replicate (5 : Int).toNat false).set (0 : Int).toNat ((ag g0 (0 : Int) (59 : Int)).2)).map etB) (ea (by rfl)) <| AG etS h7 <| AD (dF g2 (0 : Int) (23 : Int) h8 h9) <| AG etB h10 <| AC (p := (((List.replicate (5 : Int).toNat false).set (0 : Int).toNat ((ag g0 (0 : Int) (59 : Int)).2)).map etB).set (0 + (1 : Int).toNat) (ay (etB g3) 0 [tB ((ag g2 (0 : Int) (23 : Int)).2)]) = (((List.replicate (5 : Int).toNat false).set (0 : Int).toNat ((ag g0 (0 : Int) (59 : Int)).2)).set (1 : Int).toNat ((ag g2 (0 : Int) (23 : Int)).2)).map etB) (ea (by rfl)) <| AG etS h11 <| AD (dF g4 (1 : Int) (31 : Int) h12 h13) <| AG etB h14 <| AC (p := ((((List.replicate (5 : Int).toNat false).set (0 : Int).toNat ((ag g0 (0 : Int) (59 : Int)).2)).set (1 : Int).toNat ((ag g2 (0 : Int) (23 : Int)).2)).map etB).set (0 + (2 : Int).toNat) (ay (etB g5) 0 [tB ((ag g4 (1 : Int) (31 : Int)).2)]) = ((((List.replicate (5 : Int).toNat false).set (0 : Int).toNat ((ag g0 (0 : Int) (59 : Int)).2)).set (1 : Int).toNat ((ag g2 (0 : Int) (23 : Int)).2)).set (2 : Int).toNat ((ag g4 (1 : Int) (31 : Int)).2)).map etB) (ea (by rfl)) <| AG etS h15 <| AD (dF g6 (1 : Int) (12 : Int) h16 h17) <| AG etB h18 <| AC (p := (((((List.replicate (5 : Int).toNat false).set (0 : Int).toNat ((ag g0 (0 : Int) (59 : Int)).2)).set (1 : Int).toNat ((ag g2 (0 : Int) (23 : Int)).2)).set (2 : Int).toNat ((ag g4 (1 : Int) (31 : Int)).2)).map etB).set (0 + (3 : Int).toNat) (ay (etB g7) 0 [tB ((ag g6 (1 : Int) (12 : Int)).2)]) = (((((List.replicate (5 : Int).toNat false).set (0 : Int).toNat ((ag g0 (0 : Int) (59 : Int)).2)).set (1 : Int).toNat ((ag g2 (0 : Int) (23 : Int)).2)).set (2 : Int).toNat ((ag g4 (1 : Int) (31 : Int)).2)).set (3 : Int).toNat ((ag g6 (1 : Int) (12 : Int)).2)).map etB) (ea (by rfl)) <| AG etS h19 <| AD (dF g8 (0 : Int) (6 : Int) h20 h21) <| AG etB h22 <| AC (p := ((((((List.replicate (5 : Int).toNat false).set (0 : Int).toNat ((ag g0 (0 : Int) (59 : Int)).2)).set (1 : Int).toNat ((ag g2 (0 : Int) (23 : Int)).2)).set (2 : Int).toNat ((ag g4 (1 : Int) (31 : Int)).2)).set (3 : Int).toNat ((ag g6 (1 : Int) (12 : Int)).2)).map etB).set (0 + (4 : Int).toNat) (ay (etB g9) 0 [tB ((ag g8 (0 : Int) (6 : Int)).2)]) = ((((((List.replicate (5 : Int).toNat false).set (0 : Int).toNat ((ag g0 (0 : Int) (59 : Int)).2)).set (1 : Int).toNat ((ag g2 (0 : Int) (23 : Int)).2)).set (2 : Int).toNat ((ag g4 (1 : Int) (31 : Int)).2)).set (3 : Int).toNat ((ag g6 (1 : Int) (12 : Int)).2)).set (4 : Int).toNat ((ag g8 (0 : Int) (6 : Int)).2)).map etB) (ea (by rfl)) <| AL h23 <| AN))
 ·exact K5 (K4 (fn := Tryz.f55) [.ret [(false, [.s .own () 1 (((aN x0).1).map etS)]), (false, [tB false])]] _ rfl (fun _ => rfl) (fun k => by kernel_rfl) (AD (lj x0 h0) <| AN))
inductive rq where
 | ret (v2_0 v2_1 v2_2 v2_3 v2_4 : List Int) (v3 : Bool)
 | x0 (v6_0 v6_1 v6_2 v6_3 v6_4 : List Int)
def bn (v2_0 v2_1 v2_2 v2_3 v2_4 : List Int) (v4 : List ByteArray) (v6_0 v6_1 v6_2 v6_3 v6_4 : List Int) (v25 : Int) : US := stL 46 [(2, .box () [.s .own () 1 (v2_0.map etI), .s .own () 1 (v2_1.map etI), .s .own () 1 (v2_2.map etI), .s .own () 1 (v2_3.map etI), .s .own () 1 (v2_4.map etI)]), (4, .one (.s .own () 1 (v4.map etS))), (6, .box () [.s .own () 1 (v6_0.map etI), .s .own () 1 (v6_1.map etI), .s .own () 1 (v6_2.map etI), .s .own () 1 (v6_3.map etI), .s .own () 1 (v6_4.map etI)]), (24, .clo (.arr [0, 1, 2, 3, 4]) [6, 6, 6, 6, 6]), (25, .one (tI v25))]
def dt (zv2_0 zv2_1 zv2_2 zv2_3 zv2_4 : List Int) (zv3 : Bool) : US := stL 46 [(2, .box () [.s .own () 1 (zv2_0.map etI), .s .own () 1 (zv2_1.map etI), .s .own () 1 (zv2_2.map etI), .s .own () 1 (zv2_3.map etI), .s .own () 1 (zv2_4.map etI)]), (3, .one (tB zv3))]
def lI (v2_0 v2_1 v2_2 v2_3 v2_4 zv6_0 zv6_1 zv6_2 zv6_3 zv6_4 : List Int) : US := stL 46 [(2, .box () [.s .own () 1 (v2_0.map etI), .s .own () 1 (v2_1.map etI), .s .own () 1 (v2_2.map etI), .s .own () 1 (v2_3.map etI), .s .own () 1 (v2_4.map etI)]), (6, .box () [.s .own () 1 (zv6_0.map etI), .s .own () 1 (zv6_1.map etI), .s .own () 1 (zv6_2.map etI), .s .own () 1 (zv6_3.map etI), .s .own () 1 (zv6_4.map etI)])]
abbrev ct : US → Exit → US → Prop := Round E 68 (ax Tryz.f68 0)
def yq (v2_0 v2_1 v2_2 v2_3 v2_4 : List Int) (v4 : List ByteArray) (v6_0 v6_1 v6_2 v6_3 v6_4 : List Int) (v25 : Int) : rq → Prop
 | .ret zv2_0 zv2_1 zv2_2 zv2_3 zv2_4 zv3 => Loops E 68 (ax Tryz.f68 0) (bn v2_0 v2_1 v2_2 v2_3 v2_4 v4 v6_0 v6_1 v6_2 v6_3 v6_4 v25) .ret (dt zv2_0 zv2_1 zv2_2 zv2_3 zv2_4 zv3)
 | .x0 zv6_0 zv6_1 zv6_2 zv6_3 zv6_4 => Loops E 68 (ax Tryz.f68 0) (bn v2_0 v2_1 v2_2 v2_3 v2_4 v4 v6_0 v6_1 v6_2 v6_3 v6_4 v25) (.exit 0) (lI v2_0 v2_1 v2_2 v2_3 v2_4 zv6_0 zv6_1 zv6_2 zv6_3 zv6_4)
noncomputable def aO (v4 : List ByteArray) : Nat → (List Int) → (List Int) → (List Int) → (List Int) → (List Int) → Int → Option rq
 | 0, _, _, _, _, _, _ => none
 | n + 1, v6_0, v6_1, v6_2, v6_3, v6_4, v25 => cond (decide (v25 < (5 : Int)))
  (cond (v25 == (0 : Int))
   ((aI v4 v25).bind fun g0 => if g0.size ≤ 2000000 then cond ((aQ g0 v25).2)
    (aO v4 n ((aQ g0 v25).1) v6_1 v6_2 v6_3 v6_4 (inc v25))
    (some (.ret ([]) ([]) ([]) ([]) ([]) false)) else none)
   (cond (v25 == (1 : Int))
    ((aI v4 v25).bind fun g0 => if g0.size ≤ 2000000 then cond ((aQ g0 v25).2)
     (aO v4 n v6_0 ((aQ g0 v25).1) v6_2 v6_3 v6_4 (inc v25))
     (some (.ret ([]) ([]) ([]) ([]) ([]) false)) else none)
    (cond (v25 == (2 : Int))
     ((aI v4 v25).bind fun g0 => if g0.size ≤ 2000000 then cond ((aQ g0 v25).2)
      (aO v4 n v6_0 v6_1 ((aQ g0 v25).1) v6_3 v6_4 (inc v25))
      (some (.ret ([]) ([]) ([]) ([]) ([]) false)) else none)
     (cond (v25 == (3 : Int))
      ((aI v4 v25).bind fun g0 => if g0.size ≤ 2000000 then cond ((aQ g0 v25).2)
       (aO v4 n v6_0 v6_1 v6_2 ((aQ g0 v25).1) v6_4 (inc v25))
       (some (.ret ([]) ([]) ([]) ([]) ([]) false)) else none)
      (if v25 = (4 : Int) then (aI v4 v25).bind fun g0 => if g0.size ≤ 2000000 then cond ((aQ g0 v25).2)
       (aO v4 n v6_0 v6_1 v6_2 v6_3 ((aQ g0 v25).1) (inc v25))
       (some (.ret ([]) ([]) ([]) ([]) ([]) false)) else none else none)))))
  (some (.x0 v6_0 v6_1 v6_2 v6_3 v6_4))
theorem yn (v2_0 v2_1 v2_2 v2_3 v2_4 : List Int) (v4 : List ByteArray) (n : Nat) : ∀ (v6_0 v6_1 v6_2 v6_3 v6_4 : List Int) (v25 : Int), Ans (aO v4 n v6_0 v6_1 v6_2 v6_3 v6_4 v25) (yq v2_0 v2_1 v2_2 v2_3 v2_4 v4 v6_0 v6_1 v6_2 v6_3 v6_4 v25) := by
 induction n with
 | zero => intros; exact Ans.none
 | succ n ih =>
  intro v6_0 v6_1 v6_2 v6_3 v6_4 v25
  unfold aO
  refine K8 (fun h0 => ?_) (fun h0 => ?_)
  ·refine K8 (fun h1 => ?_) (fun h1 => ?_)
   ·refine K9 (fun g0 h2 => ?_)
    refine La (fun h3 => ?_)
    refine K8 (fun h4 => ?_) (fun h4 => ?_)
    ·have r : ct (bn v2_0 v2_1 v2_2 v2_3 v2_4 v4 v6_0 v6_1 v6_2 v6_3 v6_4 v25) .normal (bn v2_0 v2_1 v2_2 v2_3 v2_4 v4 ((aQ g0 v25).1) v6_1 v6_2 v6_3 v6_4 (inc v25)) := K3 [.b true, .val (.int .i64 0), .row (etS g0), .ret [(false, [.s .own () 1 (((aQ g0 v25).1).map etI)]), (false, [tB true])]] _ (fun k => by kernel_rfl) (AC h0 <| AC (p := v25 = (0 : Int)) (eq_of_beq h1) <| AG etS h2 <| AD (ca g0 v25 h3 h4) <| AN); exact (ih ((aQ g0 v25).1) v6_1 v6_2 v6_3 v6_4 (inc v25)).mono fun y hy => by cases y <;> exact K6 r hy
    ·exact K5 (K7 (show ct (bn v2_0 v2_1 v2_2 v2_3 v2_4 v4 v6_0 v6_1 v6_2 v6_3 v6_4 v25) .ret (dt ([]) ([]) ([]) ([]) ([]) false) from K3 [.b true, .val (.int .i64 0), .row (etS g0), .ret [(false, [.s .own () 1 (((aQ g0 v25).1).map etI)]), (false, [tB false])]] _ (fun k => by kernel_rfl) (AC h0 <| AC (p := v25 = (0 : Int)) (eq_of_beq h1) <| AG etS h2 <| AD (ca g0 v25 h3 h4) <| AN)) (by intro h; cases h))
   ·refine K8 (fun h2 => ?_) (fun h2 => ?_)
    ·refine K9 (fun g0 h3 => ?_)
     refine La (fun h4 => ?_)
     refine K8 (fun h5 => ?_) (fun h5 => ?_)
     ·have r : ct (bn v2_0 v2_1 v2_2 v2_3 v2_4 v4 v6_0 v6_1 v6_2 v6_3 v6_4 v25) .normal (bn v2_0 v2_1 v2_2 v2_3 v2_4 v4 v6_0 ((aQ g0 v25).1) v6_2 v6_3 v6_4 (inc v25)) := K3 [.b true, .val (.int .i64 1), .row (etS g0), .ret [(false, [.s .own () 1 (((aQ g0 v25).1).map etI)]), (false, [tB true])]] _ (fun k => by kernel_rfl) (AC h0 <| AC (p := v25 = (1 : Int)) (eq_of_beq h2) <| AG etS h3 <| AD (ca g0 v25 h4 h5) <| AN); exact (ih v6_0 ((aQ g0 v25).1) v6_2 v6_3 v6_4 (inc v25)).mono fun y hy => by cases y <;> exact K6 r hy
     ·exact K5 (K7 (show ct (bn v2_0 v2_1 v2_2 v2_3 v2_4 v4 v6_0 v6_1 v6_2 v6_3 v6_4 v25) .ret (dt ([]) ([]) ([]) ([]) ([]) false) from K3 [.b true, .val (.int .i64 1), .row (etS g0), .ret [(false, [.s .own () 1 (((aQ g0 v25).1).map etI)]), (false, [tB false])]] _ (fun k => by kernel_rfl) (AC h0 <| AC (p := v25 = (1 : Int)) (eq_of_beq h2) <| AG etS h3 <| AD (ca g0 v25 h4 h5) <| AN)) (by intro h; cases h))
    ·refine K8 (fun h3 => ?_) (fun h3 => ?_)
     ·refine K9 (fun g0 h4 => ?_)
      refine La (fun h5 => ?_)
      refine K8 (fun h6 => ?_) (fun h6 => ?_)
      ·have r : ct (bn v2_0 v2_1 v2_2 v2_3 v2_4 v4 v6_0 v6_1 v6_2 v6_3 v6_4 v25) .normal (bn v2_0 v2_1 v2_2 v2_3 v2_4 v4 v6_0 v6_1 ((aQ g0 v25).1) v6_3 v6_4 (inc v25)) := K3 [.b true, .val (.int .i64 2), .row (etS g0), .ret [(false, [.s .own () 1 (((aQ g0 v25).1).map etI)]), (false, [tB true])]] _ (fun k => by kernel_rfl) (AC h0 <| AC (p := v25 = (2 : Int)) (eq_of_beq h3) <| AG etS h4 <| AD (ca g0 v25 h5 h6) <| AN); exact (ih v6_0 v6_1 ((aQ g0 v25).1) v6_3 v6_4 (inc v25)).mono fun y hy => by cases y <;> exact K6 r hy
      ·exact K5 (K7 (show ct (bn v2_0 v2_1 v2_2 v2_3 v2_4 v4 v6_0 v6_1 v6_2 v6_3 v6_4 v25) .ret (dt ([]) ([]) ([]) ([]) ([]) false) from K3 [.b true, .val (.int .i64 2), .row (etS g0), .ret [(false, [.s .own () 1 (((aQ g0 v25).1).map etI)]), (false, [tB false])]] _ (fun k => by kernel_rfl) (AC h0 <| AC (p := v25 = (2 : Int)) (eq_of_beq h3) <| AG etS h4 <| AD (ca g0 v25 h5 h6) <| AN)) (by intro h; cases h))
     ·refine K8 (fun h4 => ?_) (fun h4 => ?_)
      ·refine K9 (fun g0 h5 => ?_)
       refine La (fun h6 => ?_)
       refine K8 (fun h7 => ?_) (fun h7 => ?_)
       ·have r : ct (bn v2_0 v2_1 v2_2 v2_3 v2_4 v4 v6_0 v6_1 v6_2 v6_3 v6_4 v25) .normal (bn v2_0 v2_1 v2_2 v2_3 v2_4 v4 v6_0 v6_1 v6_2 ((aQ g0 v25).1) v6_4 (inc v25)) := K3 [.b true, .val (.int .i64 3), .row (etS g0), .ret [(false, [.s .own () 1 (((aQ g0 v25).1).map etI)]), (false, [tB true])]] _ (fun k => by kernel_rfl) (AC h0 <| AC (p := v25 = (3 : Int)) (eq_of_beq h4) <| AG etS h5 <| AD (ca g0 v25 h6 h7) <| AN); exact (ih v6_0 v6_1 v6_2 ((aQ g0 v25).1) v6_4 (inc v25)).mono fun y hy => by cases y <;> exact K6 r hy
       ·exact K5 (K7 (show ct (bn v2_0 v2_1 v2_2 v2_3 v2_4 v4 v6_0 v6_1 v6_2 v6_3 v6_4 v25) .ret (dt ([]) ([]) ([]) ([]) ([]) false) from K3 [.b true, .val (.int .i64 3), .row (etS g0), .ret [(false, [.s .own () 1 (((aQ g0 v25).1).map etI)]), (false, [tB false])]] _ (fun k => by kernel_rfl) (AC h0 <| AC (p := v25 = (3 : Int)) (eq_of_beq h4) <| AG etS h5 <| AD (ca g0 v25 h6 h7) <| AN)) (by intro h; cases h))
      ·refine La (fun h5 => ?_)
       refine K9 (fun g0 h6 => ?_)
       refine La (fun h7 => ?_)
       refine K8 (fun h8 => ?_) (fun h8 => ?_)
       ·have r : ct (bn v2_0 v2_1 v2_2 v2_3 v2_4 v4 v6_0 v6_1 v6_2 v6_3 v6_4 v25) .normal (bn v2_0 v2_1 v2_2 v2_3 v2_4 v4 v6_0 v6_1 v6_2 v6_3 ((aQ g0 v25).1) (inc v25)) := K3 [.b true, .val (.int .i64 4), .row (etS g0), .ret [(false, [.s .own () 1 (((aQ g0 v25).1).map etI)]), (false, [tB true])]] _ (fun k => by kernel_rfl) (AC h0 <| AC h5 <| AG etS h6 <| AD (ca g0 v25 h7 h8) <| AN); exact (ih v6_0 v6_1 v6_2 v6_3 ((aQ g0 v25).1) (inc v25)).mono fun y hy => by cases y <;> exact K6 r hy
       ·exact K5 (K7 (show ct (bn v2_0 v2_1 v2_2 v2_3 v2_4 v4 v6_0 v6_1 v6_2 v6_3 v6_4 v25) .ret (dt ([]) ([]) ([]) ([]) ([]) false) from K3 [.b true, .val (.int .i64 4), .row (etS g0), .ret [(false, [.s .own () 1 (((aQ g0 v25).1).map etI)]), (false, [tB false])]] _ (fun k => by kernel_rfl) (AC h0 <| AC h5 <| AG etS h6 <| AD (ca g0 v25 h7 h8) <| AN)) (by intro h; cases h))
  ·exact K5 (K7 (show ct (bn v2_0 v2_1 v2_2 v2_3 v2_4 v4 v6_0 v6_1 v6_2 v6_3 v6_4 v25) (.exit 0) (lI v2_0 v2_1 v2_2 v2_3 v2_4 v6_0 v6_1 v6_2 v6_3 v6_4) from K3 [.b false] _ (fun k => by kernel_rfl) (AC h0 <| AN)) (by intro h; cases h))
noncomputable def ll (x0 : ByteArray) : Option (GCron × Bool) :=
  cond ((aN x0).2)
   (cond ((((aN x0).1).length : Int) != (5 : Int))
    (some ((GCron.mk ([] : List Int) ([] : List Int) ([] : List Int) ([] : List Int) ([] : List Int)), false))
    ((aO ((aN x0).1) 9223372036854775808 ([]) ([]) ([]) ([]) ([]) (0 : Int)).bind fun y => match y with
     | .ret w0_2_0 w0_2_1 w0_2_2 w0_2_3 w0_2_4 w0_3 => (some ((GCron.mk w0_2_0 w0_2_1 w0_2_2 w0_2_3 w0_2_4), w0_3))
     | .x0 w0_6_0 w0_6_1 w0_6_2 w0_6_3 w0_6_4 => (some ((GCron.mk w0_6_0 w0_6_1 w0_6_2 w0_6_3 w0_6_4), true))))
   (some ((GCron.mk ([] : List Int) ([] : List Int) ([] : List Int) ([] : List Int) ([] : List Int)), false))
theorem z7 (x0 : ByteArray) : Ans (ll x0) (fun r => Does E 68 [.one (tS x0)] [(true, GCron.t .own r.1), (false, [tB r.2])]) := by
 unfold ll
 refine K8 (fun h0 => ?_) (fun h0 => ?_)
 ·refine K8 (fun h1 => ?_) (fun h1 => ?_)
  ·exact K5 (K4 (fn := Tryz.f68) [.ret [(false, [.s .own () 1 (((aN x0).1).map etS)]), (false, [tB true])], .val (.int .i64 (((aN x0).1).length : Int)), .b true] _ rfl (fun _ => rfl) (fun k => by kernel_rfl) (AD (li x0 h0) <| ALn ((aN x0).1) etS <| AC h1 <| AN))
  ·refine K9 (fun y hy => ?_)
   replace hy := yn ([]) ([]) ([]) ([]) ([]) ((aN x0).1) 9223372036854775808 ([]) ([]) ([]) ([]) ([]) (0 : Int) y hy
   cases y with
   | ret w0_2_0 w0_2_1 w0_2_2 w0_2_3 w0_2_4 w0_3 =>
    have h2 := hy
    exact K5 (K4 (fn := Tryz.f68) [.ret [(false, [.s .own () 1 (((aN x0).1).map etS)]), (false, [tB true])], .val (.int .i64 (((aN x0).1).length : Int)), .b false, .lp .ret (dt w0_2_0 w0_2_1 w0_2_2 w0_2_3 w0_2_4 w0_3)] _ rfl (fun _ => rfl) (fun k => by kernel_rfl) (AD (li x0 h0) <| ALn ((aN x0).1) etS <| AC h1 <| AL h2 <| AN))
   | x0 w0_6_0 w0_6_1 w0_6_2 w0_6_3 w0_6_4 =>
    have h2 := hy
    exact K5 (K4 (fn := Tryz.f68) [.ret [(false, [.s .own () 1 (((aN x0).1).map etS)]), (false, [tB true])], .val (.int .i64 (((aN x0).1).length : Int)), .b false, .lp (.exit 0) (lI ([]) ([]) ([]) ([]) ([]) w0_6_0 w0_6_1 w0_6_2 w0_6_3 w0_6_4)] _ rfl (fun _ => rfl) (fun k => by kernel_rfl) (AD (li x0 h0) <| ALn ((aN x0).1) etS <| AC h1 <| AL h2 <| AN))
 ·exact K5 (K4 (fn := Tryz.f68) [.ret [(false, [.s .own () 1 (((aN x0).1).map etS)]), (false, [tB false])]] _ rfl (fun _ => rfl) (fun k => by kernel_rfl) (AD (li x0 h0) <| AN))
def noCron : GCron := ⟨[], [], [], [], []⟩
noncomputable def rV (a b c d e : ByteArray) : GCron × Bool :=
 cond (ag a 0 59).2 (cond (ag b 0 23).2 (cond (ag c 1 31).2 (cond (ag d 1 12).2 (cond (ag e 0 6).2
  (⟨(ag a 0 59).1, (ag b 0 23).1, (ag c 1 31).1, (ag d 1 12).1, (ag e 0 6).1⟩, true) (noCron, false)) (noCron, false)) (noCron, false)) (noCron, false)) (noCron, false)
noncomputable def Be : List ByteArray → GCron × Bool
 | [a, b, c, d, e] => rV a b c d e
 | _ => (noCron, false)
noncomputable def aw (s : ByteArray) : GCron × Bool := Be (aN s).1
theorem xE {s : ByteArray} (h : (aN s).2 = false) : (aN s).1 = [] := by
 unfold aN at h ⊢
 split
 ·rfl
 ·rename_i h0
  rw [if_neg h0] at h
  split
  ·rename_i h1
   rw [if_pos h1] at h
   split
   ·rfl
   ·rename_i h2
    rw [if_neg h2] at h; cases h
  ·rfl
theorem Im {α : Type} {l : List α} (h : l.length = 5) : ∃ a b c d e, l = [a, b, c, d, e] := by
 match l, h with
 | [a, b, c, d, e], _ => exact ⟨a, b, c, d, e, rfl⟩
theorem tN {l : List ByteArray} (h : l.length ≠ 5) : Be l = (noCron, false) := by
 unfold Be
 split
 ·exact absurd rfl h
 ·rfl
theorem JW (a b c d e : Bool) (n : Nat) : fZ [a, b, c, d, e] (n + 6) 0 = some (cond a (cond b (cond c (cond d (cond e .x0 (.ret [] [] [] [] [] false)) (.ret [] [] [] [] [] false)) (.ret [] [] [] [] [] false)) (.ret [] [] [] [] [] false)) (.ret [] [] [] [] [] false)) := by
 cases a <;> cases b <;> cases c <;> cases d <;> cases e <;> rfl
theorem Jo (s : ByteArray) : lw s = some (aw s) := by
 unfold lw aw
 cases q : (aN s).2 with
 | false =>
  rw [xE q]; rfl
 | true =>
  rw [cond_true]
  by_cases h : (aN s).1.length = 5
  ·obtain ⟨a, b, c, d, e, hl⟩ := Im h
   have hm : ∀ p ∈ [a, b, c, d, e], p.size ≤ 2000000 := fun p hp => by
    rw [← hl] at hp
    have := qT hp
    omega
   have ha : (a.size ≤ 2000000) = True := eq_true (hm a (by simp))
   have hb : (b.size ≤ 2000000) = True := eq_true (hm b (by simp))
   have hc : (c.size ≤ 2000000) = True := eq_true (hm c (by simp))
   have hd : (d.size ≤ 2000000) = True := eq_true (hm d (by simp))
   have he : (e.size ≤ 2000000) = True := eq_true (hm e (by simp))
   have e5 : ((([a, b, c, d, e] : List ByteArray).length : Int) != 5) = false := rfl
   rw [hl, e5, cond_false, if_pos (by decide)]
   have g0 : aI [a, b, c, d, e] (0 : Int) = some a := rfl
   have g1 : aI [a, b, c, d, e] (1 : Int) = some b := rfl
   have g2 : aI [a, b, c, d, e] (2 : Int) = some c := rfl
   have g3 : aI [a, b, c, d, e] (3 : Int) = some d := rfl
   have g4 : aI [a, b, c, d, e] (4 : Int) = some e := rfl
   have b0 : ((0 : Int) ≤ 0 ∧ (0 : Int) ≤ 59 ∧ (59 : Int) ≤ 59) = True := eq_true (by decide)
   have b1 : ((0 : Int) ≤ 0 ∧ (0 : Int) ≤ 23 ∧ (23 : Int) ≤ 59) = True := eq_true (by decide)
   have b2 : ((0 : Int) ≤ 1 ∧ (1 : Int) ≤ 31 ∧ (31 : Int) ≤ 59) = True := eq_true (by decide)
   have b3 : ((0 : Int) ≤ 1 ∧ (1 : Int) ≤ 12 ∧ (12 : Int) ≤ 59) = True := eq_true (by decide)
   have b4 : ((0 : Int) ≤ 0 ∧ (0 : Int) ≤ 6 ∧ (6 : Int) ≤ 59) = True := eq_true (by decide)
   simp only [g0, g1, g2, g3, g4, Option.bind_some, ha, hb, hc, hd, he, b0, b1, b2, b3, b4, if_true]
   show (fZ [(ag a 0 59).2, (ag b 0 23).2, (ag c 1 31).2, (ag d 1 12).2, (ag e 0 6).2] (9223372036854775802 + 6) 0).bind _ = some (rV a b c d e)
   rw [JW]
   unfold rV
   cases (ag a 0 59).2 <;> cases (ag b 0 23).2 <;> cases (ag c 1 31).2 <;> cases (ag d 1 12).2 <;> cases (ag e 0 6).2 <;> rfl
  ·have e5 : (((aN s).1.length : Int) != 5) = true := by rw [bne_iff_ne]; omega
   rw [e5, cond_true, tN h]; rfl
theorem Jn (s : ByteArray) : ll s = some (aw s) := by
 unfold ll aw
 cases q : (aN s).2 with
 | false =>
  rw [xE q]; rfl
 | true =>
  rw [cond_true]
  by_cases h : (aN s).1.length = 5
  ·obtain ⟨a, b, c, d, e, hl⟩ := Im h
   have hm : ∀ p ∈ [a, b, c, d, e], p.size ≤ 2000000 := fun p hp => by
    rw [← hl] at hp
    have := qT hp
    omega
   have e5 : ((([a, b, c, d, e] : List ByteArray).length : Int) != 5) = false := rfl
   rw [hl, e5, cond_false]
   have s0 : ∀ n v0 v1 v2 v3 v4, aO [a, b, c, d, e] (n + 1) v0 v1 v2 v3 v4 0 = cond (ag a 0 59).2 (aO [a, b, c, d, e] n (ag a 0 59).1 v1 v2 v3 v4 1) (some (.ret [] [] [] [] [] false)) := fun n v0 v1 v2 v3 v4 => by
    conv => lhs; unfold aO
    show (if a.size ≤ 2000000 then _ else none) = _
    rw [if_pos (hm a (by simp))]; rfl
   have s1 : ∀ n v0 v1 v2 v3 v4, aO [a, b, c, d, e] (n + 1) v0 v1 v2 v3 v4 1 = cond (ag b 0 23).2 (aO [a, b, c, d, e] n v0 (ag b 0 23).1 v2 v3 v4 2) (some (.ret [] [] [] [] [] false)) := fun n v0 v1 v2 v3 v4 => by
    conv => lhs; unfold aO
    show (if b.size ≤ 2000000 then _ else none) = _
    rw [if_pos (hm b (by simp))]; rfl
   have s2 : ∀ n v0 v1 v2 v3 v4, aO [a, b, c, d, e] (n + 1) v0 v1 v2 v3 v4 2 = cond (ag c 1 31).2 (aO [a, b, c, d, e] n v0 v1 (ag c 1 31).1 v3 v4 3) (some (.ret [] [] [] [] [] false)) := fun n v0 v1 v2 v3 v4 => by
    conv => lhs; unfold aO
    show (if c.size ≤ 2000000 then _ else none) = _
    rw [if_pos (hm c (by simp))]; rfl
   have s3 : ∀ n v0 v1 v2 v3 v4, aO [a, b, c, d, e] (n + 1) v0 v1 v2 v3 v4 3 = cond (ag d 1 12).2 (aO [a, b, c, d, e] n v0 v1 v2 (ag d 1 12).1 v4 4) (some (.ret [] [] [] [] [] false)) := fun n v0 v1 v2 v3 v4 => by
    conv => lhs; unfold aO
    show (if d.size ≤ 2000000 then _ else none) = _
    rw [if_pos (hm d (by simp))]; rfl
   have s4 : ∀ n v0 v1 v2 v3 v4, aO [a, b, c, d, e] (n + 1) v0 v1 v2 v3 v4 4 = cond (ag e 0 6).2 (aO [a, b, c, d, e] n v0 v1 v2 v3 (ag e 0 6).1 5) (some (.ret [] [] [] [] [] false)) := fun n v0 v1 v2 v3 v4 => by
    conv => lhs; unfold aO
    show (if (4 : Int) = 4 then (if e.size ≤ 2000000 then _ else none) else none) = _
    rw [if_pos rfl, if_pos (hm e (by simp))]; rfl
   have s5 : ∀ n v0 v1 v2 v3 v4, aO [a, b, c, d, e] (n + 1) v0 v1 v2 v3 v4 5 = some (.x0 v0 v1 v2 v3 v4) := fun n v0 v1 v2 v3 v4 => rfl
   have st : aO [a, b, c, d, e] (9223372036854775802 + 6) [] [] [] [] [] 0 = _ := s0 _ _ _ _ _ _
   rw [s1, s2, s3, s4, s5] at st
   refine (congrArg (Option.bind · _) st).trans ?_
   show _ = some (rV a b c d e)
   unfold rV
   cases (ag a 0 59).2 <;> cases (ag b 0 23).2 <;> cases (ag c 1 31).2 <;> cases (ag d 1 12).2 <;> cases (ag e 0 6).2 <;> rfl
  ·have e5 : (((aN s).1.length : Int) != 5) = true := by rw [bne_iff_ne]; omega
   rw [e5, cond_true, tN h]; rfl
theorem rn {lo hi : Int} {s : ByteArray} (hs : s.size ≤ 2000000) (hb : 0 ≤ lo ∧ lo ≤ hi ∧ hi ≤ 59) : ao.sm (ag s lo hi).1 := by
 rcases (wh s lo hi hs hb).2.1 with h | h
 ·rw [h.2]; exact ⟨by decide, fun y hy => by cases hy⟩
 ·exact ⟨by have := h.2.2.2.2; omega, fun y hy => trivial⟩
theorem zG : ao.sm noCron := ⟨⟨by decide, fun y hy => by cases hy⟩, ⟨by decide, fun y hy => by cases hy⟩, ⟨by decide, fun y hy => by cases hy⟩, ⟨by decide, fun y hy => by cases hy⟩, ⟨by decide, fun y hy => by cases hy⟩⟩
theorem Cl (s : ByteArray) : ao.sm (aw s).1 := by
 unfold aw
 by_cases h : (aN s).1.length = 5
 ·obtain ⟨a, b, c, d, e, hl⟩ := Im h
  have hm : ∀ p ∈ [a, b, c, d, e], p.size ≤ 2000000 := fun p hp => by
   rw [← hl] at hp
   have := qT hp
   omega
  rw [hl]
  show ao.sm (rV a b c d e).1
  unfold rV
  have := rn (lo := 0) (hi := 59) (hm a (by simp)) (by decide)
  have := rn (lo := 0) (hi := 23) (hm b (by simp)) (by decide)
  have := rn (lo := 1) (hi := 31) (hm c (by simp)) (by decide)
  have := rn (lo := 1) (hi := 12) (hm d (by simp)) (by decide)
  have := rn (lo := 0) (hi := 6) (hm e (by simp)) (by decide)
  cases (ag a 0 59).2 <;> cases (ag b 0 23).2 <;> cases (ag c 1 31).2 <;> cases (ag d 1 12).2 <;> cases (ag e 0 6).2 <;> first | exact zG | exact ⟨by assumption, by assumption, by assumption, by assumption, by assumption⟩
 ·rw [tN h]; exact zG
theorem ol (x0 : ByteArray) : Does E 55 [.one (tS x0)] [(true, GCron.t .own ((aw x0).1)), (false, [tB ((aw x0).2)])] := by
 exact Ao x0 _ (Jo x0)
theorem en (x0 : ByteArray) {bb : Bool} (hbb : (aw x0).2 = bb) : Does E 55 [.one (tS x0)] [(true, GCron.t .own ((aw x0).1)), (false, [tB bb])] := by rw [← hbb]; exact ol x0
theorem zN (x0 : ByteArray) : Does E 68 [.one (tS x0)] [(true, GCron.t .own ((aw x0).1)), (false, [tB ((aw x0).2)])] := by
 exact z7 x0 _ (Jn x0)
theorem qd (x0 : ByteArray) {bb : Bool} (hbb : (aw x0).2 = bb) : Does E 68 [.one (tS x0)] [(true, GCron.t .own ((aw x0).1)), (false, [tB bb])] := by rw [← hbb]; exact zN x0
end Go.Proofs.YtjfbofdmjihglaaGreatDoor.Am
namespace Go.Proofs.YtjfbofdmjihglaaGreatDoor.Am
open Go Go.Proofs Classical
set_option maxRecDepth 100000
set_option linter.unusedVariables false
set_option linter.unusedSimpArgs false
inductive xM where
 | ret (v4 : Bool)
 | x0 
def kM (v0 : List Int) (v1 v5 : Int) : US := stL 18 [(0, .one (.s .far () 1 (v0.map etI))), (1, .one (tI v1)), (5, .one (tI v5))]
def oJ (zv4 : Bool) : US := stL 18 [(4, .one (tB zv4))]
def pV  : US := stL 18 []
abbrev sK : US → Exit → US → Prop := Round E 62 (ax Tryz.f62 0)
def Gc (v0 : List Int) (v1 v5 : Int) : xM → Prop
 | .ret zv4 => Loops E 62 (ax Tryz.f62 0) (kM v0 v1 v5) .ret (oJ zv4)
 | .x0 => Loops E 62 (ax Tryz.f62 0) (kM v0 v1 v5) (.exit 0) (pV)
noncomputable def iZ (v1 : Int) : List Int → Nat → Option xM
 | [], i => some (.x0)
 | hd :: rest, i => cond (hd == v1)
  (some (.ret true))
  (iZ v1 rest (i + 1))
theorem Gb (v0 : List Int) (v1 : Int) (rest : List Int) : ∀ (i : Nat) , (v0).drop i = rest → v0.length ≤ 9223372036854775807 → Ans (iZ v1 rest i) (Gc v0 v1 (i : Int)) := by
 induction rest with
 | nil =>
  intro i hE hl
  have hb := bh hE
  unfold iZ
  exact K5 (K7 (show sK (kM v0 v1 (i : Int)) (.exit 0) (pV) from K3 [.val (.int .i64 (v0.length : Int)), .b false] _ (fun k => by kernel_rfl) (ALn v0 etI <| AC hb <| AN)) (by intro h; cases h))
 | cons hd rest ih =>
  intro i hE hl
  have hb := aS hE
  have hw := aT hE hl
  have hE2 := aG hE
  have hg := aX hE
  unfold iZ
  refine K8 (fun h2 => ?_) (fun h2 => ?_)
  ·exact K5 (K7 (show sK (kM v0 v1 (i : Int)) .ret (oJ true) from K3 [.val (.int .i64 (v0.length : Int)), .b true, .row (etI hd), .b true] _ (fun k => by kernel_rfl) (ALn v0 etI <| AC hb <| AR etI hg <| AC h2 <| AN)) (by intro h; cases h))
  ·exact (ih (i + 1) hE2 hl).mono fun y hy => by have r : sK (kM v0 v1 (i : Int)) .normal (kM v0 v1 (inc (i : Int))) := K3 [.val (.int .i64 (v0.length : Int)), .b true, .row (etI hd), .b false] _ (fun k => by kernel_rfl) (ALn v0 etI <| AC hb <| AR etI hg <| AC h2 <| AN); rw [hw] at r; cases y <;> exact K6 r hy
noncomputable def uU (x0 : List Int) (x1 : Int) : Option (Bool) :=
  if x0.length ≤ 9223372036854775807 then (iZ x1 x0 0).bind fun y => match y with
   | .ret w0_4 => (some (w0_4))
   | .x0 => (some (false)) else none
theorem HB (x0 : List Int) (x1 : Int) : Ans (uU x0 x1) (fun r => Does E 62 [.one (.s .far () 1 (x0.map etI)), .one (tI x1)] [(false, [tB r])]) := by
 unfold uU
 refine La (fun hl1 => ?_)
 refine K9 (fun y hy => ?_)
 replace hy := Gb x0 x1 x0 0 rfl hl1 y hy
 cases y with
 | ret w0_4 =>
  have h0 := hy
  exact K5 (K4 (fn := Tryz.f62) [.lp .ret (oJ w0_4)] _ rfl (fun _ => rfl) (fun k => by kernel_rfl) (AL h0 <| AN))
 | x0 =>
  have h0 := hy
  exact K5 (K4 (fn := Tryz.f62) [.lp (.exit 0) (pV)] _ rfl (fun _ => rfl) (fun k => by kernel_rfl) (AL h0 <| AN))
def bQ (l : List Int) (x : Int) : Bool := l.any fun y => y == x
theorem G7 (x : Int) : ∀ (rest : List Int) (i : Nat), iZ x rest i = some (if bQ rest x = true then .ret true else .x0)
 | [], i => rfl
 | y :: rest, i => by
  unfold iZ
  rw [G7 x rest (i + 1)]
  unfold bQ
  rw [List.any_cons]
  cases y == x <;> rfl
theorem qf (x0 : List Int) (x1 : Int) (h : x0.length ≤ 1050000) : Does E 62 [.one (.s .far () 1 (x0.map etI)), .one (tI x1)] [(false, [tB (bQ x0 x1)])] := by
 exact HB x0 x1 _ (by
  unfold uU
  rw [if_pos (by omega), G7]
  cases q : bQ x0 x1 <;> rfl)
inductive m5 where
 | ret (v4 : Int)
 | x0 
def dC (v0 : List Int) (v1 v7 v8 : Int) : US := stL 19 [(0, .one (.s .far () 1 (v0.map etI))), (1, .one (tI v1)), (7, .one (tI v7)), (8, .one (tI v8))]
def hZ (zv4 : Int) : US := stL 19 [(4, .one (tI zv4))]
def iB  : US := stL 19 []
abbrev jy : US → Exit → US → Prop := Round E 72 (ax Tryz.f72 0)
def tC (v0 : List Int) (v1 v7 v8 : Int) : m5 → Prop
 | .ret zv4 => Loops E 72 (ax Tryz.f72 0) (dC v0 v1 v7 v8) .ret (hZ zv4)
 | .x0 => Loops E 72 (ax Tryz.f72 0) (dC v0 v1 v7 v8) (.exit 0) (iB)
noncomputable def cp (v1 : Int) : List Int → Nat → Option m5
 | [], i => some (.x0)
 | hd :: rest, i => cond (v1 == hd)
  (some (.ret (i : Int)))
  (cp v1 rest (i + 1))
theorem tA (v0 : List Int) (v1 : Int) (rest : List Int) : ∀ (i : Nat) , (v0).drop i = rest → v0.length ≤ 9223372036854775807 → Ans (cp v1 rest i) (tC v0 v1 (v0.length : Int) (i : Int)) := by
 induction rest with
 | nil =>
  intro i hE hl
  have hb := bh hE
  unfold cp
  exact K5 (K7 (show jy (dC v0 v1 (v0.length : Int) (i : Int)) (.exit 0) (iB) from K3 [.b false] _ (fun k => by kernel_rfl) (AC hb <| AN)) (by intro h; cases h))
 | cons hd rest ih =>
  intro i hE hl
  have hb := aS hE
  have hw := aT hE hl
  have hE2 := aG hE
  have hg := aX hE
  unfold cp
  refine K8 (fun h2 => ?_) (fun h2 => ?_)
  ·exact K5 (K7 (show jy (dC v0 v1 (v0.length : Int) (i : Int)) .ret (hZ (i : Int)) from K3 [.b true, .row (etI hd), .b true] _ (fun k => by kernel_rfl) (AC hb <| AR etI hg <| AC h2 <| AN)) (by intro h; cases h))
  ·exact (ih (i + 1) hE2 hl).mono fun y hy => by have r : jy (dC v0 v1 (v0.length : Int) (i : Int)) .normal (dC v0 v1 (v0.length : Int) (inc (i : Int))) := K3 [.b true, .row (etI hd), .b false] _ (fun k => by kernel_rfl) (AC hb <| AR etI hg <| AC h2 <| AN); rw [hw] at r; cases y <;> exact K6 r hy
noncomputable def eb (x0 : List Int) (x1 : Int) : Option (Int) :=
  if x0.length ≤ 9223372036854775807 then (cp x1 x0 0).bind fun y => match y with
   | .ret w0_4 => (some (w0_4))
   | .x0 => (some ((-1 : Int))) else none
theorem u3 (x0 : List Int) (x1 : Int) : Ans (eb x0 x1) (fun r => Does E 72 [.one (.s .far () 1 (x0.map etI)), .one (tI x1)] [(false, [tI r])]) := by
 unfold eb
 refine La (fun hl1 => ?_)
 refine K9 (fun y hy => ?_)
 replace hy := tA x0 x1 x0 0 rfl hl1 y hy
 cases y with
 | ret w0_4 =>
  have h0 := hy
  exact K5 (K4 (fn := Tryz.f72) [.val (.int .i64 (x0.length : Int)), .lp .ret (hZ w0_4)] _ rfl (fun _ => rfl) (fun k => by kernel_rfl) (ALn x0 etI <| AL h0 <| AN))
 | x0 =>
  have h0 := hy
  exact K5 (K4 (fn := Tryz.f72) [.val (.int .i64 (x0.length : Int)), .lp (.exit 0) (iB)] _ rfl (fun _ => rfl) (fun k => by kernel_rfl) (ALn x0 etI <| AL h0 <| AN))
noncomputable def wr (l : List Int) (x : Int) : Int := (eb l x).getD (-1)
theorem IR (x : Int) : ∀ (rest : List Int) (i : Nat), (∃ k : Nat, cp x rest i = some (.ret (k : Int)) ∧ bQ rest x = true) ∨ cp x rest i = some .x0 ∧ bQ rest x = false
 | [], i => .inr ⟨rfl, rfl⟩
 | y :: rest, i => by
  have e : (x == y) = (y == x) := by cases q : y == x with | true => rw [eq_of_beq q]; simp | false => exact beq_eq_false_iff_ne.2 fun e => by rw [e] at q; simp at q
  unfold cp bQ
  rw [List.any_cons, e]
  cases y == x with
  | true => exact .inl ⟨i, rfl, rfl⟩
  | false => exact IR x rest (i + 1)
theorem G4 (l : List Int) (x : Int) (h : l.length ≤ 1050000) : eb l x = some (wr l x) ∧ decide (wr l x ≥ (0 : Int)) = bQ l x := by
 have e : ∃ r, eb l x = some r ∧ decide (r ≥ (0 : Int)) = bQ l x := by
  unfold eb
  rw [if_pos (by omega)]
  rcases IR x l 0 with ⟨k, h1, h2⟩ | ⟨h1, h2⟩
  ·exact ⟨(k : Int), by rw [h1]; rfl, by rw [h2]; exact decide_eq_true (by omega)⟩
  ·exact ⟨-1, by rw [h1]; rfl, by rw [h2]; rfl⟩
 obtain ⟨r, h1, h2⟩ := e
 have p : wr l x = r := by unfold wr; rw [h1]; rfl
 rw [p]; exact ⟨h1, h2⟩
theorem tH (x0 : List Int) (x1 : Int) (h : x0.length ≤ 1050000) : Does E 72 [.one (.s .far () 1 (x0.map etI)), .one (tI x1)] [(false, [tI (wr x0 x1)])] := by
 exact u3 x0 x1 _ (G4 x0 x1 h).1
noncomputable def iA (x0 : List Int) (x1 : Int) : Option (Bool) :=
  if x0.length ≤ 1050000 then some (decide ((wr x0 x1) ≥ (0 : Int))) else none
theorem rI (x0 : List Int) (x1 : Int) : Ans (iA x0 x1) (fun r => Does E 51 [.one (.s .far () 1 (x0.map etI)), .one (tI x1)] [(false, [tB r])]) := by
 unfold iA
 refine La (fun h0 => ?_)
 exact K5 (K4 (fn := Tryz.f51) [.ret [(false, [tI (wr x0 x1)])]] _ rfl (fun _ => rfl) (fun k => by kernel_rfl) (AD (tH x0 x1 h0) <| AN))
theorem cX (x0 : List Int) (x1 : Int) (h : x0.length ≤ 1050000) : Does E 51 [.one (.s .far () 1 (x0.map etI)), .one (tI x1)] [(false, [tB (bQ x0 x1)])] := by
 exact rI x0 x1 _ (by
  unfold iA
  try rw [if_pos h]
  rw [(G4 x0 x1 h).2])
inductive uV where
 | ret (v6 : Bool)
 | x0 
def eE (v0 : List Int) (v1 v2 v7 : Int) : US := stL 41 [(0, .one (.s .far () 1 (v0.map etI))), (1, .one (tI v1)), (2, .one (tI v2)), (7, .one (tI v7))]
def jI (zv6 : Bool) : US := stL 41 [(6, .one (tB zv6))]
def nw (v0 : List Int) : US := stL 41 [(0, .one (.s .far () 1 (v0.map etI)))]
abbrev kf : US → Exit → US → Prop := Round E 103 (ax Tryz.f103 0)
def CN (v0 : List Int) (v1 v2 v7 : Int) : uV → Prop
 | .ret zv6 => Loops E 103 (ax Tryz.f103 0) (eE v0 v1 v2 v7) .ret (jI zv6)
 | .x0 => Loops E 103 (ax Tryz.f103 0) (eE v0 v1 v2 v7) (.exit 0) (nw v0)
noncomputable def fj (v0 : List Int) (v1 v2 : Int) : List Int → Nat → Option uV
 | [], i => some (.x0)
 | hd :: rest, i => cond (aH hd v1 v2)
  (cond (decide ((i : Int) > (0 : Int)))
   ((aI v0 (IntKind.wrap .i64 ((i : Int) - (1 : Int)))).bind fun g1 => cond (decide (g1 ≥ hd))
    (some (.ret false))
    (fj v0 v1 v2 rest (i + 1)))
   (fj v0 v1 v2 rest (i + 1)))
  (some (.ret false))
theorem CM (v0 : List Int) (v1 v2 : Int) (rest : List Int) : ∀ (i : Nat) , (v0).drop i = rest → v0.length ≤ 9223372036854775807 → Ans (fj v0 v1 v2 rest i) (CN v0 v1 v2 (i : Int)) := by
 induction rest with
 | nil =>
  intro i hE hl
  have hb := bh hE
  unfold fj
  exact K5 (K7 (show kf (eE v0 v1 v2 (i : Int)) (.exit 0) (nw v0) from K3 [.val (.int .i64 (v0.length : Int)), .b false] _ (fun k => by kernel_rfl) (ALn v0 etI <| AC hb <| AN)) (by intro h; cases h))
 | cons hd rest ih =>
  intro i hE hl
  have hb := aS hE
  have hw := aT hE hl
  have hE2 := aG hE
  have hg := aX hE
  unfold fj
  refine K8 (fun h2 => ?_) (fun h2 => ?_)
  ·refine K8 (fun h3 => ?_) (fun h3 => ?_)
   ·refine K9 (fun g1 h4 => ?_)
    refine K8 (fun h5 => ?_) (fun h5 => ?_)
    ·exact K5 (K7 (show kf (eE v0 v1 v2 (i : Int)) .ret (jI false) from K3 [.val (.int .i64 (v0.length : Int)), .b true, .row (etI hd), rT, .b true, .row (etI g1), .row (etI hd), .b true] _ (fun k => by kernel_rfl) (ALn v0 etI <| AC hb <| AR etI hg <| AD (Ld (bq hd v1 v2) h2) <| AC h3 <| AR etI h4 <| AR etI hg <| AC h5 <| AN)) (by intro h; cases h))
    ·exact (ih (i + 1) hE2 hl).mono fun y hy => by have r : kf (eE v0 v1 v2 (i : Int)) .normal (eE v0 v1 v2 (inc (i : Int))) := K3 [.val (.int .i64 (v0.length : Int)), .b true, .row (etI hd), rT, .b true, .row (etI g1), .row (etI hd), .b false] _ (fun k => by kernel_rfl) (ALn v0 etI <| AC hb <| AR etI hg <| AD (Ld (bq hd v1 v2) h2) <| AC h3 <| AR etI h4 <| AR etI hg <| AC h5 <| AN); rw [hw] at r; cases y <;> exact K6 r hy
   ·exact (ih (i + 1) hE2 hl).mono fun y hy => by have r : kf (eE v0 v1 v2 (i : Int)) .normal (eE v0 v1 v2 (inc (i : Int))) := K3 [.val (.int .i64 (v0.length : Int)), .b true, .row (etI hd), rT, .b false] _ (fun k => by kernel_rfl) (ALn v0 etI <| AC hb <| AR etI hg <| AD (Ld (bq hd v1 v2) h2) <| AC h3 <| AN); rw [hw] at r; cases y <;> exact K6 r hy
  ·exact K5 (K7 (show kf (eE v0 v1 v2 (i : Int)) .ret (jI false) from K3 [.val (.int .i64 (v0.length : Int)), .b true, .row (etI hd), rF] _ (fun k => by kernel_rfl) (ALn v0 etI <| AC hb <| AR etI hg <| AD (Ld (bq hd v1 v2) h2) <| AN)) (by intro h; cases h))
noncomputable def qW (x0 : List Int) (x1 x2 : Int) : Option (Bool) :=
  if x0.length ≤ 9223372036854775807 then (fj x0 x1 x2 x0 0).bind fun y => match y with
   | .ret w0_6 => (some (w0_6))
   | .x0 => (some (decide ((x0.length : Int) > (0 : Int)))) else none
theorem Ei (x0 : List Int) (x1 x2 : Int) : Ans (qW x0 x1 x2) (fun r => Does E 103 [.one (.s .far () 1 (x0.map etI)), .one (tI x1), .one (tI x2)] [(false, [tB r])]) := by
 unfold qW
 refine La (fun hl1 => ?_)
 refine K9 (fun y hy => ?_)
 replace hy := CM x0 x1 x2 x0 0 rfl hl1 y hy
 cases y with
 | ret w0_6 =>
  have h0 := hy
  exact K5 (K4 (fn := Tryz.f103) [.lp .ret (jI w0_6)] _ rfl (fun _ => rfl) (fun k => by kernel_rfl) (AL h0 <| AN))
 | x0 =>
  have h0 := hy
  exact K5 (K4 (fn := Tryz.f103) [.lp (.exit 0) (nw x0), .val (.int .i64 (x0.length : Int))] _ rfl (fun _ => rfl) (fun k => by kernel_rfl) (AL h0 <| ALn x0 etI <| AN))
def jf (a b : Int) : List Int → Option Int → Bool
 | [], _ => true
 | x :: l, p => aH x a b && (match p with | some y => decide (y < x) | none => true) && jf a b l (some x)
def a8 (l : List Int) (a b : Int) : Bool := jf a b l none && decide ((l.length : Int) > 0)
theorem EL {aU rest : List Int} {x : Int} {i : Nat} (h : aU.drop i = x :: rest) : i = 0 ∨ ∃ y, aU[i - 1]? = some y := by
 cases i with
 | zero => exact .inl rfl
 | succ i =>
  right
  have : i < aU.length := by
   rcases Nat.lt_or_ge i aU.length with g | g
   ·exact g
   ·rw [List.drop_eq_nil_of_le (by omega)] at h; cases h
  exact ⟨aU[i], by simp [this]⟩
def gP (aU : List Int) (i : Nat) : Option Int := if i = 0 then none else aU[i - 1]?
theorem zB {aU rest : List Int} {x : Int} {i : Nat} (h : aU.drop i = x :: rest) : gP aU (i + 1) = some x := by
 unfold gP
 rw [if_neg (by omega)]
 show aU[i]? = some x
 rw [← List.head?_drop, h]; rfl
theorem Hf (aU : List Int) (a b : Int) (hl : aU.length ≤ 1050000) : ∀ (rest : List Int) (i : Nat), aU.drop i = rest → fj aU a b rest i = some (if jf a b rest (gP aU i) = true then .x0 else .ret false)
 | [], i, _ => rfl
 | x :: rest, i, h => by
  have ih := Hf aU a b hl rest (i + 1) (aG h)
  rw [zB h] at ih
  have hi : i < aU.length := by
   rcases Nat.lt_or_ge i aU.length with g | g
   ·exact g
   ·rw [List.drop_eq_nil_of_le g] at h; cases h
  unfold fj jf
  rw [ih]
  cases aH x a b with
  | false => rfl
  | true =>
   rw [cond_true, Bool.true_and]
   rcases EL h with rfl | ⟨y, hy⟩
   ·simp [gP]
   ·by_cases z : i = 0
    ·subst z; simp [gP]
    ·have hp : gP aU i = some y := by unfold gP; rw [if_neg z, hy]
     have hg : aI aU (IntKind.wrap .i64 ((i : Int) - 1)) = some y := by
      rw [cP _ (by omega) (by omega)]
      have e : ((i : Int) - 1) = ((i - 1 : Nat) : Int) := by omega
      rw [e, eR, hy]
     rw [hp, hg, decide_eq_true (by omega : (i : Int) > 0), cond_true, Option.bind_some]
     simp only
     by_cases c : y ≥ x
     ·have yx : ¬ y < x := by omega
      rw [decide_eq_true c, cond_true]; simp [yx]
     ·have yx : y < x := by omega
      rw [decide_eq_false c, cond_false]; simp [yx]
theorem cb (x0 : List Int) (x1 : Int) (x2 : Int) (h : x0.length ≤ 1050000) : Does E 103 [.one (.s .far () 1 (x0.map etI)), .one (tI x1), .one (tI x2)] [(false, [tB (a8 x0 x1 x2)])] := by
 exact Ei x0 x1 x2 _ (by
  unfold qW
  rw [if_pos (by omega), Hf x0 x1 x2 h x0 0 rfl]
  unfold a8 gP
  rw [if_pos rfl]
  cases jf x1 x2 x0 none <;> rfl)
noncomputable def sI (x0 : GCron) : Option (Bool) :=
  if x0.f0.length ≤ 1050000 then cond (a8 x0.f0 (0 : Int) (59 : Int))
   (if x0.f1.length ≤ 1050000 then cond (a8 x0.f1 (0 : Int) (23 : Int))
    (if x0.f2.length ≤ 1050000 then cond (a8 x0.f2 (1 : Int) (31 : Int))
     (if x0.f3.length ≤ 1050000 then cond (a8 x0.f3 (1 : Int) (12 : Int))
      (if x0.f4.length ≤ 1050000 then some (a8 x0.f4 (0 : Int) (6 : Int)) else none)
      (some (false)) else none)
     (some (false)) else none)
    (some (false)) else none)
   (some (false)) else none
theorem F7 (x0 : GCron) : Ans (sI x0) (fun r => Does E 78 [.agg (GCron.t .far x0)] [(false, [tB r])]) := by
 unfold sI
 refine La (fun h0 => ?_)
 refine K8 (fun h1 => ?_) (fun h1 => ?_)
 ·refine La (fun h2 => ?_)
  refine K8 (fun h3 => ?_) (fun h3 => ?_)
  ·refine La (fun h4 => ?_)
   refine K8 (fun h5 => ?_) (fun h5 => ?_)
   ·refine La (fun h6 => ?_)
    refine K8 (fun h7 => ?_) (fun h7 => ?_)
    ·refine La (fun h8 => ?_)
     exact K5 (K4 (fn := Tryz.f78) [rT, rT, rT, rT, .ret [(false, [tB (a8 x0.f4 (0 : Int) (6 : Int))])]] _ rfl (fun _ => rfl) (fun k => by kernel_rfl) (AD (Ld (cb x0.f0 (0 : Int) (59 : Int) h0) h1) <| AD (Ld (cb x0.f1 (0 : Int) (23 : Int) h2) h3) <| AD (Ld (cb x0.f2 (1 : Int) (31 : Int) h4) h5) <| AD (Ld (cb x0.f3 (1 : Int) (12 : Int) h6) h7) <| AD (cb x0.f4 (0 : Int) (6 : Int) h8) <| AN))
    ·exact K5 (K4 (fn := Tryz.f78) [rT, rT, rT, rF] _ rfl (fun _ => rfl) (fun k => by kernel_rfl) (AD (Ld (cb x0.f0 (0 : Int) (59 : Int) h0) h1) <| AD (Ld (cb x0.f1 (0 : Int) (23 : Int) h2) h3) <| AD (Ld (cb x0.f2 (1 : Int) (31 : Int) h4) h5) <| AD (Ld (cb x0.f3 (1 : Int) (12 : Int) h6) h7) <| AN))
   ·exact K5 (K4 (fn := Tryz.f78) [rT, rT, rF] _ rfl (fun _ => rfl) (fun k => by kernel_rfl) (AD (Ld (cb x0.f0 (0 : Int) (59 : Int) h0) h1) <| AD (Ld (cb x0.f1 (0 : Int) (23 : Int) h2) h3) <| AD (Ld (cb x0.f2 (1 : Int) (31 : Int) h4) h5) <| AN))
  ·exact K5 (K4 (fn := Tryz.f78) [rT, rF] _ rfl (fun _ => rfl) (fun k => by kernel_rfl) (AD (Ld (cb x0.f0 (0 : Int) (59 : Int) h0) h1) <| AD (Ld (cb x0.f1 (0 : Int) (23 : Int) h2) h3) <| AN))
 ·exact K5 (K4 (fn := Tryz.f78) [rF] _ rfl (fun _ => rfl) (fun k => by kernel_rfl) (AD (Ld (cb x0.f0 (0 : Int) (59 : Int) h0) h1) <| AN))
def gF (c : GCron) : Bool := a8 c.f0 0 59 && (a8 c.f1 0 23 && (a8 c.f2 1 31 && (a8 c.f3 1 12 && a8 c.f4 0 6)))
theorem wR (x0 : GCron) (h : ao.sm x0) : Does E 78 [.agg (GCron.t .far x0)] [(false, [tB (gF x0)])] := by
 exact F7 x0 _ (by
  have h0 := h.1.1
  have h1 := h.2.1.1
  have h2 := h.2.2.1.1
  have h3 := h.2.2.2.1.1
  have h4 := h.2.2.2.2.1
  unfold sI gF
  simp only [h0, h1, h2, h3, h4, if_true]
  cases a8 x0.f0 0 59 <;> cases a8 x0.f1 0 23 <;> cases a8 x0.f2 1 31 <;> cases a8 x0.f3 1 12 <;> rfl)
inductive vB where
 | ret (v2 : Bool)
 | x2 
def eV (v1_0 v1_1 v1_2 v1_3 v1_4 : List Int) (v5 v6 : Int) (v7 : List Int) (v11 : Int) (v23 : List Int) (v24 v25 : Int) : US := stL 53 [(1, .box () [.s .far () 1 (v1_0.map etI), .s .far () 1 (v1_1.map etI), .s .far () 1 (v1_2.map etI), .s .far () 1 (v1_3.map etI), .s .far () 1 (v1_4.map etI)]), (5, .one (tI v5)), (6, .one (tI v6)), (7, .one (.s .far () 1 (v7.map etI))), (10, .clo (.arr [0, 1, 2, 3, 4]) [1, 1, 1, 1, 1]), (11, .one (tI v11)), (23, .one (.s .far () 1 (v23.map etI))), (24, .one (tI v24)), (25, .one (tI v25))]
def d6 (zv2 : Bool) : US := stL 53 [(2, .one (tB zv2))]
def cr (v1_0 v1_1 v1_2 v1_3 v1_4 v7 : List Int) (v11 : Int) : US := stL 53 [(1, .box () [.s .far () 1 (v1_0.map etI), .s .far () 1 (v1_1.map etI), .s .far () 1 (v1_2.map etI), .s .far () 1 (v1_3.map etI), .s .far () 1 (v1_4.map etI)]), (7, .one (.s .far () 1 (v7.map etI))), (10, .clo (.arr [0, 1, 2, 3, 4]) [1, 1, 1, 1, 1]), (11, .one (tI v11))]
abbrev lb : US → Exit → US → Prop := Round E 88 (ax Tryz.f88 1)
def DF (v1_0 v1_1 v1_2 v1_3 v1_4 : List Int) (v5 v6 : Int) (v7 : List Int) (v11 : Int) (v23 : List Int) (v24 v25 : Int) : vB → Prop
 | .ret zv2 => Loops E 88 (ax Tryz.f88 1) (eV v1_0 v1_1 v1_2 v1_3 v1_4 v5 v6 v7 v11 v23 v24 v25) .ret (d6 zv2)
 | .x2 => Loops E 88 (ax Tryz.f88 1) (eV v1_0 v1_1 v1_2 v1_3 v1_4 v5 v6 v7 v11 v23 v24 v25) (.exit 2) (cr v1_0 v1_1 v1_2 v1_3 v1_4 v7 v11)
noncomputable def cN (v5 v6 : Int) (v7 : List Int) : List Int → Nat → Option vB
 | [], i => some (.x2)
 | hd :: rest, i => cond (aH hd v5 v6)
  (cond (decide ((i : Int) > (0 : Int)))
   ((aI v7 (IntKind.wrap .i64 ((i : Int) - (1 : Int)))).bind fun g1 => cond (decide (hd ≤ g1))
    (some (.ret false))
    (cN v5 v6 v7 rest (i + 1)))
   (cN v5 v6 v7 rest (i + 1)))
  (some (.ret false))
theorem lc (v1_0 v1_1 v1_2 v1_3 v1_4 : List Int) (v5 v6 : Int) (v7 : List Int) (v11 : Int) (v23 : List Int) (rest : List Int) : ∀ (i : Nat) , (v23).drop i = rest → v23.length ≤ 9223372036854775807 → Ans (cN v5 v6 v7 rest i) (DF v1_0 v1_1 v1_2 v1_3 v1_4 v5 v6 v7 v11 v23 (v23.length : Int) (i : Int)) := by
 induction rest with
 | nil =>
  intro i hE hl
  have hb := bh hE
  unfold cN
  exact K5 (K7 (show lb (eV v1_0 v1_1 v1_2 v1_3 v1_4 v5 v6 v7 v11 v23 (v23.length : Int) (i : Int)) (.exit 2) (cr v1_0 v1_1 v1_2 v1_3 v1_4 v7 v11) from K3 [.b false] _ (fun k => by kernel_rfl) (AC hb <| AN)) (by intro h; cases h))
 | cons hd rest ih =>
  intro i hE hl
  have hb := aS hE
  have hw := aT hE hl
  have hE2 := aG hE
  have hg := aX hE
  unfold cN
  refine K8 (fun h2 => ?_) (fun h2 => ?_)
  ·refine K8 (fun h3 => ?_) (fun h3 => ?_)
   ·refine K9 (fun g1 h4 => ?_)
    refine K8 (fun h5 => ?_) (fun h5 => ?_)
    ·exact K5 (K7 (show lb (eV v1_0 v1_1 v1_2 v1_3 v1_4 v5 v6 v7 v11 v23 (v23.length : Int) (i : Int)) .ret (d6 false) from K3 [.b true, .row (etI hd), rT, .b true, .row (etI g1), .b true] _ (fun k => by kernel_rfl) (AC hb <| AR etI hg <| AD (Ld (cM hd v5 v6) h2) <| AC h3 <| AR etI h4 <| AC h5 <| AN)) (by intro h; cases h))
    ·exact (ih (i + 1) hE2 hl).mono fun y hy => by have r : lb (eV v1_0 v1_1 v1_2 v1_3 v1_4 v5 v6 v7 v11 v23 (v23.length : Int) (i : Int)) .normal (eV v1_0 v1_1 v1_2 v1_3 v1_4 v5 v6 v7 v11 v23 (v23.length : Int) (inc (i : Int))) := K3 [.b true, .row (etI hd), rT, .b true, .row (etI g1), .b false] _ (fun k => by kernel_rfl) (AC hb <| AR etI hg <| AD (Ld (cM hd v5 v6) h2) <| AC h3 <| AR etI h4 <| AC h5 <| AN); rw [hw] at r; cases y <;> exact K6 r hy
   ·exact (ih (i + 1) hE2 hl).mono fun y hy => by have r : lb (eV v1_0 v1_1 v1_2 v1_3 v1_4 v5 v6 v7 v11 v23 (v23.length : Int) (i : Int)) .normal (eV v1_0 v1_1 v1_2 v1_3 v1_4 v5 v6 v7 v11 v23 (v23.length : Int) (inc (i : Int))) := K3 [.b true, .row (etI hd), rT, .b false] _ (fun k => by kernel_rfl) (AC hb <| AR etI hg <| AD (Ld (cM hd v5 v6) h2) <| AC h3 <| AN); rw [hw] at r; cases y <;> exact K6 r hy
  ·exact K5 (K7 (show lb (eV v1_0 v1_1 v1_2 v1_3 v1_4 v5 v6 v7 v11 v23 (v23.length : Int) (i : Int)) .ret (d6 false) from K3 [.b true, .row (etI hd), rF] _ (fun k => by kernel_rfl) (AC hb <| AR etI hg <| AD (Ld (cM hd v5 v6) h2) <| AN)) (by intro h; cases h))
inductive qK where
 | ret (v2 : Bool)
 | x0 
def bp (v1_0 v1_1 v1_2 v1_3 v1_4 : List Int) (v11 : Int) : US := stL 53 [(1, .box () [.s .far () 1 (v1_0.map etI), .s .far () 1 (v1_1.map etI), .s .far () 1 (v1_2.map etI), .s .far () 1 (v1_3.map etI), .s .far () 1 (v1_4.map etI)]), (10, .clo (.arr [0, 1, 2, 3, 4]) [1, 1, 1, 1, 1]), (11, .one (tI v11))]
def b7 (zv2 : Bool) : US := stL 53 [(2, .one (tB zv2))]
def om  : US := stL 53 []
abbrev bY : US → Exit → US → Prop := Round E 88 (ax Tryz.f88 0)
def DE (v1_0 v1_1 v1_2 v1_3 v1_4 : List Int) (v11 : Int) : qK → Prop
 | .ret zv2 => Loops E 88 (ax Tryz.f88 0) (bp v1_0 v1_1 v1_2 v1_3 v1_4 v11) .ret (b7 zv2)
 | .x0 => Loops E 88 (ax Tryz.f88 0) (bp v1_0 v1_1 v1_2 v1_3 v1_4 v11) (.exit 0) (om)
noncomputable def bC (v1_0 v1_1 v1_2 v1_3 v1_4 : List Int) : Nat → Int → Option qK
 | 0, _ => none
 | n + 1, v11 => cond (decide (v11 < (5 : Int)))
  (cond (v11 == (0 : Int))
   (if v1_0.length ≤ 9223372036854775807 then (cN ((aF v11).1) ((aF v11).2) v1_0 v1_0 0).bind fun y => match y with
    | .ret w0_2 => (some (.ret w0_2))
    | .x2 => (cond ((v1_0.length : Int) == (0 : Int))
     (some (.ret false))
     (bC v1_0 v1_1 v1_2 v1_3 v1_4 n (inc v11))) else none)
   (cond (v11 == (1 : Int))
    (if v1_1.length ≤ 9223372036854775807 then (cN ((aF v11).1) ((aF v11).2) v1_1 v1_1 0).bind fun y => match y with
     | .ret w0_2 => (some (.ret w0_2))
     | .x2 => (cond ((v1_1.length : Int) == (0 : Int))
      (some (.ret false))
      (bC v1_0 v1_1 v1_2 v1_3 v1_4 n (inc v11))) else none)
    (cond (v11 == (2 : Int))
     (if v1_2.length ≤ 9223372036854775807 then (cN ((aF v11).1) ((aF v11).2) v1_2 v1_2 0).bind fun y => match y with
      | .ret w0_2 => (some (.ret w0_2))
      | .x2 => (cond ((v1_2.length : Int) == (0 : Int))
       (some (.ret false))
       (bC v1_0 v1_1 v1_2 v1_3 v1_4 n (inc v11))) else none)
     (cond (v11 == (3 : Int))
      (if v1_3.length ≤ 9223372036854775807 then (cN ((aF v11).1) ((aF v11).2) v1_3 v1_3 0).bind fun y => match y with
       | .ret w0_2 => (some (.ret w0_2))
       | .x2 => (cond ((v1_3.length : Int) == (0 : Int))
        (some (.ret false))
        (bC v1_0 v1_1 v1_2 v1_3 v1_4 n (inc v11))) else none)
      (if v11 = (4 : Int) then if v1_4.length ≤ 9223372036854775807 then (cN ((aF v11).1) ((aF v11).2) v1_4 v1_4 0).bind fun y => match y with
       | .ret w0_2 => (some (.ret w0_2))
       | .x2 => (cond ((v1_4.length : Int) == (0 : Int))
        (some (.ret false))
        (bC v1_0 v1_1 v1_2 v1_3 v1_4 n (inc v11))) else none else none)))))
  (some (.x0))
theorem DD (v1_0 v1_1 v1_2 v1_3 v1_4 : List Int) (n : Nat) : ∀ (v11 : Int), Ans (bC v1_0 v1_1 v1_2 v1_3 v1_4 n v11) (DE v1_0 v1_1 v1_2 v1_3 v1_4 v11) := by
 induction n with
 | zero => intros; exact Ans.none
 | succ n ih =>
  intro v11
  unfold bC
  refine K8 (fun h0 => ?_) (fun h0 => ?_)
  ·refine K8 (fun h1 => ?_) (fun h1 => ?_)
   ·refine La (fun hl4 => ?_)
    refine K9 (fun y hy => ?_)
    replace hy := lc v1_0 v1_1 v1_2 v1_3 v1_4 ((aF v11).1) ((aF v11).2) v1_0 v11 v1_0 v1_0 0 rfl hl4 y hy
    cases y with
    | ret w0_2 =>
     have h2 := hy
     exact K5 (K7 (show bY (bp v1_0 v1_1 v1_2 v1_3 v1_4 v11) .ret (b7 w0_2) from K3 [.b true, .val (.int .i64 0), .ret [(false, [tI ((aF v11).1)]), (false, [tI ((aF v11).2)])], .val (.int .i64 (v1_0.length : Int)), .lp .ret (d6 w0_2)] _ (fun k => by kernel_rfl) (AC h0 <| AC (p := v11 = (0 : Int)) (eq_of_beq h1) <| AD (bW v11) <| ALn v1_0 etI <| AL h2 <| AN)) (by intro h; cases h))
    | x2 =>
     have h2 := hy
     refine K8 (fun h3 => ?_) (fun h3 => ?_)
     ·exact K5 (K7 (show bY (bp v1_0 v1_1 v1_2 v1_3 v1_4 v11) .ret (b7 false) from K3 [.b true, .val (.int .i64 0), .ret [(false, [tI ((aF v11).1)]), (false, [tI ((aF v11).2)])], .val (.int .i64 (v1_0.length : Int)), .lp (.exit 2) (cr v1_0 v1_1 v1_2 v1_3 v1_4 v1_0 v11), .val (.int .i64 (v1_0.length : Int)), .b true] _ (fun k => by kernel_rfl) (AC h0 <| AC (p := v11 = (0 : Int)) (eq_of_beq h1) <| AD (bW v11) <| ALn v1_0 etI <| AL h2 <| ALn v1_0 etI <| AC h3 <| AN)) (by intro h; cases h))
     ·have r : bY (bp v1_0 v1_1 v1_2 v1_3 v1_4 v11) .normal (bp v1_0 v1_1 v1_2 v1_3 v1_4 (inc v11)) := K3 [.b true, .val (.int .i64 0), .ret [(false, [tI ((aF v11).1)]), (false, [tI ((aF v11).2)])], .val (.int .i64 (v1_0.length : Int)), .lp (.exit 2) (cr v1_0 v1_1 v1_2 v1_3 v1_4 v1_0 v11), .val (.int .i64 (v1_0.length : Int)), .b false] _ (fun k => by kernel_rfl) (AC h0 <| AC (p := v11 = (0 : Int)) (eq_of_beq h1) <| AD (bW v11) <| ALn v1_0 etI <| AL h2 <| ALn v1_0 etI <| AC h3 <| AN); exact (ih (inc v11)).mono fun y hy => by cases y <;> exact K6 r hy
   ·refine K8 (fun h2 => ?_) (fun h2 => ?_)
    ·refine La (fun hl5 => ?_)
     refine K9 (fun y hy => ?_)
     replace hy := lc v1_0 v1_1 v1_2 v1_3 v1_4 ((aF v11).1) ((aF v11).2) v1_1 v11 v1_1 v1_1 0 rfl hl5 y hy
     cases y with
     | ret w0_2 =>
      have h3 := hy
      exact K5 (K7 (show bY (bp v1_0 v1_1 v1_2 v1_3 v1_4 v11) .ret (b7 w0_2) from K3 [.b true, .val (.int .i64 1), .ret [(false, [tI ((aF v11).1)]), (false, [tI ((aF v11).2)])], .val (.int .i64 (v1_1.length : Int)), .lp .ret (d6 w0_2)] _ (fun k => by kernel_rfl) (AC h0 <| AC (p := v11 = (1 : Int)) (eq_of_beq h2) <| AD (bW v11) <| ALn v1_1 etI <| AL h3 <| AN)) (by intro h; cases h))
     | x2 =>
      have h3 := hy
      refine K8 (fun h4 => ?_) (fun h4 => ?_)
      ·exact K5 (K7 (show bY (bp v1_0 v1_1 v1_2 v1_3 v1_4 v11) .ret (b7 false) from K3 [.b true, .val (.int .i64 1), .ret [(false, [tI ((aF v11).1)]), (false, [tI ((aF v11).2)])], .val (.int .i64 (v1_1.length : Int)), .lp (.exit 2) (cr v1_0 v1_1 v1_2 v1_3 v1_4 v1_1 v11), .val (.int .i64 (v1_1.length : Int)), .b true] _ (fun k => by kernel_rfl) (AC h0 <| AC (p := v11 = (1 : Int)) (eq_of_beq h2) <| AD (bW v11) <| ALn v1_1 etI <| AL h3 <| ALn v1_1 etI <| AC h4 <| AN)) (by intro h; cases h))
      ·have r : bY (bp v1_0 v1_1 v1_2 v1_3 v1_4 v11) .normal (bp v1_0 v1_1 v1_2 v1_3 v1_4 (inc v11)) := K3 [.b true, .val (.int .i64 1), .ret [(false, [tI ((aF v11).1)]), (false, [tI ((aF v11).2)])], .val (.int .i64 (v1_1.length : Int)), .lp (.exit 2) (cr v1_0 v1_1 v1_2 v1_3 v1_4 v1_1 v11), .val (.int .i64 (v1_1.length : Int)), .b false] _ (fun k => by kernel_rfl) (AC h0 <| AC (p := v11 = (1 : Int)) (eq_of_beq h2) <| AD (bW v11) <| ALn v1_1 etI <| AL h3 <| ALn v1_1 etI <| AC h4 <| AN); exact (ih (inc v11)).mono fun y hy => by cases y <;> exact K6 r hy
    ·refine K8 (fun h3 => ?_) (fun h3 => ?_)
     ·refine La (fun hl6 => ?_)
      refine K9 (fun y hy => ?_)
      replace hy := lc v1_0 v1_1 v1_2 v1_3 v1_4 ((aF v11).1) ((aF v11).2) v1_2 v11 v1_2 v1_2 0 rfl hl6 y hy
      cases y with
      | ret w0_2 =>
       have h4 := hy
       exact K5 (K7 (show bY (bp v1_0 v1_1 v1_2 v1_3 v1_4 v11) .ret (b7 w0_2) from K3 [.b true, .val (.int .i64 2), .ret [(false, [tI ((aF v11).1)]), (false, [tI ((aF v11).2)])], .val (.int .i64 (v1_2.length : Int)), .lp .ret (d6 w0_2)] _ (fun k => by kernel_rfl) (AC h0 <| AC (p := v11 = (2 : Int)) (eq_of_beq h3) <| AD (bW v11) <| ALn v1_2 etI <| AL h4 <| AN)) (by intro h; cases h))
      | x2 =>
       have h4 := hy
       refine K8 (fun h5 => ?_) (fun h5 => ?_)
       ·exact K5 (K7 (show bY (bp v1_0 v1_1 v1_2 v1_3 v1_4 v11) .ret (b7 false) from K3 [.b true, .val (.int .i64 2), .ret [(false, [tI ((aF v11).1)]), (false, [tI ((aF v11).2)])], .val (.int .i64 (v1_2.length : Int)), .lp (.exit 2) (cr v1_0 v1_1 v1_2 v1_3 v1_4 v1_2 v11), .val (.int .i64 (v1_2.length : Int)), .b true] _ (fun k => by kernel_rfl) (AC h0 <| AC (p := v11 = (2 : Int)) (eq_of_beq h3) <| AD (bW v11) <| ALn v1_2 etI <| AL h4 <| ALn v1_2 etI <| AC h5 <| AN)) (by intro h; cases h))
       ·have r : bY (bp v1_0 v1_1 v1_2 v1_3 v1_4 v11) .normal (bp v1_0 v1_1 v1_2 v1_3 v1_4 (inc v11)) := K3 [.b true, .val (.int .i64 2), .ret [(false, [tI ((aF v11).1)]), (false, [tI ((aF v11).2)])], .val (.int .i64 (v1_2.length : Int)), .lp (.exit 2) (cr v1_0 v1_1 v1_2 v1_3 v1_4 v1_2 v11), .val (.int .i64 (v1_2.length : Int)), .b false] _ (fun k => by kernel_rfl) (AC h0 <| AC (p := v11 = (2 : Int)) (eq_of_beq h3) <| AD (bW v11) <| ALn v1_2 etI <| AL h4 <| ALn v1_2 etI <| AC h5 <| AN); exact (ih (inc v11)).mono fun y hy => by cases y <;> exact K6 r hy
     ·refine K8 (fun h4 => ?_) (fun h4 => ?_)
      ·refine La (fun hl7 => ?_)
       refine K9 (fun y hy => ?_)
       replace hy := lc v1_0 v1_1 v1_2 v1_3 v1_4 ((aF v11).1) ((aF v11).2) v1_3 v11 v1_3 v1_3 0 rfl hl7 y hy
       cases y with
       | ret w0_2 =>
        have h5 := hy
        exact K5 (K7 (show bY (bp v1_0 v1_1 v1_2 v1_3 v1_4 v11) .ret (b7 w0_2) from K3 [.b true, .val (.int .i64 3), .ret [(false, [tI ((aF v11).1)]), (false, [tI ((aF v11).2)])], .val (.int .i64 (v1_3.length : Int)), .lp .ret (d6 w0_2)] _ (fun k => by kernel_rfl) (AC h0 <| AC (p := v11 = (3 : Int)) (eq_of_beq h4) <| AD (bW v11) <| ALn v1_3 etI <| AL h5 <| AN)) (by intro h; cases h))
       | x2 =>
        have h5 := hy
        refine K8 (fun h6 => ?_) (fun h6 => ?_)
        ·exact K5 (K7 (show bY (bp v1_0 v1_1 v1_2 v1_3 v1_4 v11) .ret (b7 false) from K3 [.b true, .val (.int .i64 3), .ret [(false, [tI ((aF v11).1)]), (false, [tI ((aF v11).2)])], .val (.int .i64 (v1_3.length : Int)), .lp (.exit 2) (cr v1_0 v1_1 v1_2 v1_3 v1_4 v1_3 v11), .val (.int .i64 (v1_3.length : Int)), .b true] _ (fun k => by kernel_rfl) (AC h0 <| AC (p := v11 = (3 : Int)) (eq_of_beq h4) <| AD (bW v11) <| ALn v1_3 etI <| AL h5 <| ALn v1_3 etI <| AC h6 <| AN)) (by intro h; cases h))
        ·have r : bY (bp v1_0 v1_1 v1_2 v1_3 v1_4 v11) .normal (bp v1_0 v1_1 v1_2 v1_3 v1_4 (inc v11)) := K3 [.b true, .val (.int .i64 3), .ret [(false, [tI ((aF v11).1)]), (false, [tI ((aF v11).2)])], .val (.int .i64 (v1_3.length : Int)), .lp (.exit 2) (cr v1_0 v1_1 v1_2 v1_3 v1_4 v1_3 v11), .val (.int .i64 (v1_3.length : Int)), .b false] _ (fun k => by kernel_rfl) (AC h0 <| AC (p := v11 = (3 : Int)) (eq_of_beq h4) <| AD (bW v11) <| ALn v1_3 etI <| AL h5 <| ALn v1_3 etI <| AC h6 <| AN); exact (ih (inc v11)).mono fun y hy => by cases y <;> exact K6 r hy
      ·refine La (fun h5 => ?_)
       refine La (fun hl7 => ?_)
       refine K9 (fun y hy => ?_)
       replace hy := lc v1_0 v1_1 v1_2 v1_3 v1_4 ((aF v11).1) ((aF v11).2) v1_4 v11 v1_4 v1_4 0 rfl hl7 y hy
       cases y with
       | ret w0_2 =>
        have h6 := hy
        exact K5 (K7 (show bY (bp v1_0 v1_1 v1_2 v1_3 v1_4 v11) .ret (b7 w0_2) from K3 [.b true, .val (.int .i64 4), .ret [(false, [tI ((aF v11).1)]), (false, [tI ((aF v11).2)])], .val (.int .i64 (v1_4.length : Int)), .lp .ret (d6 w0_2)] _ (fun k => by kernel_rfl) (AC h0 <| AC h5 <| AD (bW v11) <| ALn v1_4 etI <| AL h6 <| AN)) (by intro h; cases h))
       | x2 =>
        have h6 := hy
        refine K8 (fun h7 => ?_) (fun h7 => ?_)
        ·exact K5 (K7 (show bY (bp v1_0 v1_1 v1_2 v1_3 v1_4 v11) .ret (b7 false) from K3 [.b true, .val (.int .i64 4), .ret [(false, [tI ((aF v11).1)]), (false, [tI ((aF v11).2)])], .val (.int .i64 (v1_4.length : Int)), .lp (.exit 2) (cr v1_0 v1_1 v1_2 v1_3 v1_4 v1_4 v11), .val (.int .i64 (v1_4.length : Int)), .b true] _ (fun k => by kernel_rfl) (AC h0 <| AC h5 <| AD (bW v11) <| ALn v1_4 etI <| AL h6 <| ALn v1_4 etI <| AC h7 <| AN)) (by intro h; cases h))
        ·have r : bY (bp v1_0 v1_1 v1_2 v1_3 v1_4 v11) .normal (bp v1_0 v1_1 v1_2 v1_3 v1_4 (inc v11)) := K3 [.b true, .val (.int .i64 4), .ret [(false, [tI ((aF v11).1)]), (false, [tI ((aF v11).2)])], .val (.int .i64 (v1_4.length : Int)), .lp (.exit 2) (cr v1_0 v1_1 v1_2 v1_3 v1_4 v1_4 v11), .val (.int .i64 (v1_4.length : Int)), .b false] _ (fun k => by kernel_rfl) (AC h0 <| AC h5 <| AD (bW v11) <| ALn v1_4 etI <| AL h6 <| ALn v1_4 etI <| AC h7 <| AN); exact (ih (inc v11)).mono fun y hy => by cases y <;> exact K6 r hy
  ·exact K5 (K7 (show bY (bp v1_0 v1_1 v1_2 v1_3 v1_4 v11) (.exit 0) (om) from K3 [.b false] _ (fun k => by kernel_rfl) (AC h0 <| AN)) (by intro h; cases h))
noncomputable def oT (x0 : GCron) : Option (Bool) :=
  (bC x0.f0 x0.f1 x0.f2 x0.f3 x0.f4 9223372036854775808 (0 : Int)).bind fun y => match y with
   | .ret w0_2 => (some (w0_2))
   | .x0 => (some (true))
theorem FD (x0 : GCron) : Ans (oT x0) (fun r => Does E 88 [.agg (GCron.t .far x0)] [(false, [tB r])]) := by
 unfold oT
 refine K9 (fun y hy => ?_)
 replace hy := DD x0.f0 x0.f1 x0.f2 x0.f3 x0.f4 9223372036854775808 (0 : Int) y hy
 cases y with
 | ret w0_2 =>
  have h0 := hy
  exact K5 (K4 (fn := Tryz.f88) [.lp .ret (b7 w0_2)] _ rfl (fun _ => rfl) (fun k => by kernel_rfl) (AL h0 <| AN))
 | x0 =>
  have h0 := hy
  exact K5 (K4 (fn := Tryz.f88) [.lp (.exit 0) (om)] _ rfl (fun _ => rfl) (fun k => by kernel_rfl) (AL h0 <| AN))
theorem Gv (aU : List Int) (a b : Int) (hl : aU.length ≤ 1050000) : ∀ (rest : List Int) (i : Nat), aU.drop i = rest → cN a b aU rest i = some (if jf a b rest (gP aU i) = true then .x2 else .ret false)
 | [], i, _ => rfl
 | x :: rest, i, h => by
  have ih := Gv aU a b hl rest (i + 1) (aG h)
  rw [zB h] at ih
  have hi : i < aU.length := by
   rcases Nat.lt_or_ge i aU.length with g | g
   ·exact g
   ·rw [List.drop_eq_nil_of_le g] at h; cases h
  unfold cN jf
  rw [ih]
  cases aH x a b with
  | false => rfl
  | true =>
   rw [cond_true, Bool.true_and]
   rcases EL h with rfl | ⟨y, hy⟩
   ·simp [gP]
   ·by_cases z : i = 0
    ·subst z; simp [gP]
    ·have hp : gP aU i = some y := by unfold gP; rw [if_neg z, hy]
     have hg : aI aU (IntKind.wrap .i64 ((i : Int) - 1)) = some y := by
      rw [cP _ (by omega) (by omega)]
      have e : ((i : Int) - 1) = ((i - 1 : Nat) : Int) := by omega
      rw [e, eR, hy]
     rw [hp, hg, decide_eq_true (by omega : (i : Int) > 0), cond_true, Option.bind_some]
     simp only
     by_cases c : y ≥ x
     ·have yx : ¬ y < x := by omega
      rw [decide_eq_true (show x ≤ y from c), cond_true]; simp [yx]
     ·have yx : y < x := by omega
      rw [decide_eq_false (show ¬ x ≤ y from c), cond_false]; simp [yx]
theorem mn (l : List Int) (a b : Int) (hl : l.length ≤ 1050000) (K : Option qK) :
  ((cN a b l l 0).bind fun y => match y with
    | .ret w => some (.ret w)
    | .x2 => cond ((l.length : Int) == (0 : Int)) (some (.ret false)) K) = (cond (a8 l a b) K (some (.ret false))) := by
 rw [Gv l a b hl l 0 rfl]
 unfold a8 gP
 rw [if_pos rfl]
 cases jf a b l none with
 | false => rfl
 | true =>
  simp only [if_true, Option.bind_some, Bool.true_and]
  cases l with
  | nil => rfl
  | cons x l =>
   rw [show (((x :: l).length : Int) == (0 : Int)) = false from beq_eq_false_iff_ne.2 (by simp <;> omega), decide_eq_true (by simp <;> omega)]
   rfl
theorem H1 (c : GCron) (h : ao.sm c) : oT c = some (gF c) := by
 have h0 := h.1.1
 have h1 := h.2.1.1
 have h2 := h.2.2.1.1
 have h3 := h.2.2.2.1.1
 have h4 := h.2.2.2.2.1
 unfold oT
 have e0 : ∀ n, bC c.f0 c.f1 c.f2 c.f3 c.f4 (n + 6) 0 = some (if gF c = true then .x0 else .ret false) := by
  intro n
  have s5 : bC c.f0 c.f1 c.f2 c.f3 c.f4 (n + 1) (inc (inc (inc (inc (inc 0))))) = some .x0 := rfl
  have s4 : bC c.f0 c.f1 c.f2 c.f3 c.f4 (n + 2) (inc (inc (inc (inc 0)))) = cond (a8 c.f4 0 6) (some .x0) (some (.ret false)) := by
   rw [← mn c.f4 0 6 h4, ← s5]
   conv => lhs; unfold bC
   show (if inc (inc (inc (inc 0))) = 4 then (if c.f4.length ≤ 9223372036854775807 then _ else none) else none) = _
   rw [if_pos (by rfl), if_pos (by omega)]
   rfl
  have s3 : bC c.f0 c.f1 c.f2 c.f3 c.f4 (n + 3) (inc (inc (inc 0))) = cond (a8 c.f3 1 12) (cond (a8 c.f4 0 6) (some .x0) (some (.ret false))) (some (.ret false)) := by
   rw [← mn c.f3 1 12 h3, ← s4]
   conv => lhs; unfold bC
   show (if c.f3.length ≤ 9223372036854775807 then _ else none) = _
   rw [if_pos (by omega)]
   rfl
  have s2 : bC c.f0 c.f1 c.f2 c.f3 c.f4 (n + 4) (inc (inc 0)) = cond (a8 c.f2 1 31) (cond (a8 c.f3 1 12) (cond (a8 c.f4 0 6) (some .x0) (some (.ret false))) (some (.ret false))) (some (.ret false)) := by
   rw [← mn c.f2 1 31 h2, ← s3]
   conv => lhs; unfold bC
   show (if c.f2.length ≤ 9223372036854775807 then _ else none) = _
   rw [if_pos (by omega)]
   rfl
  have s1 : bC c.f0 c.f1 c.f2 c.f3 c.f4 (n + 5) (inc 0) = cond (a8 c.f1 0 23) (cond (a8 c.f2 1 31) (cond (a8 c.f3 1 12) (cond (a8 c.f4 0 6) (some .x0) (some (.ret false))) (some (.ret false))) (some (.ret false))) (some (.ret false)) := by
   rw [← mn c.f1 0 23 h1, ← s2]
   conv => lhs; unfold bC
   show (if c.f1.length ≤ 9223372036854775807 then _ else none) = _
   rw [if_pos (by omega)]
   rfl
  have s0 : bC c.f0 c.f1 c.f2 c.f3 c.f4 (n + 6) 0 = cond (a8 c.f0 0 59) (cond (a8 c.f1 0 23) (cond (a8 c.f2 1 31) (cond (a8 c.f3 1 12) (cond (a8 c.f4 0 6) (some .x0) (some (.ret false))) (some (.ret false))) (some (.ret false))) (some (.ret false))) (some (.ret false)) := by
   rw [← mn c.f0 0 59 h0, ← s1]
   conv => lhs; unfold bC
   show (if c.f0.length ≤ 9223372036854775807 then _ else none) = _
   rw [if_pos (by omega)]
   rfl
  rw [s0]
  unfold gF
  cases a8 c.f0 0 59 <;> cases a8 c.f1 0 23 <;> cases a8 c.f2 1 31 <;> cases a8 c.f3 1 12 <;> cases a8 c.f4 0 6 <;> rfl
 rw [e0 9223372036854775802]
 cases gF c <;> rfl
theorem wN (x0 : GCron) (h : ao.sm x0) : Does E 88 [.agg (GCron.t .far x0)] [(false, [tB (gF x0)])] := by
 exact FD x0 _ (H1 x0 h)
noncomputable def um (x0 : List Int) (x1 : Int) : Option (Bool) :=
  some ((x0.length : Int) == (inc (IntKind.wrap .i64 (((aF x1).2) - ((aF x1).1)))))
theorem G3 (x0 : List Int) (x1 : Int) : Ans (um x0 x1) (fun r => Does E 89 [.one (.s .far () 1 (x0.map etI)), .one (tI x1)] [(false, [tB r])]) := by
 unfold um
 exact K5 (K4 (fn := Tryz.f89) [.ret [(false, [tI ((aF x1).1)]), (false, [tI ((aF x1).2)])], .val (.int .i64 (x0.length : Int))] _ rfl (fun _ => rfl) (fun k => by kernel_rfl) (AD (bW x1) <| ALn x0 etI <| AN))
noncomputable def mB (l : List Int) (i : Int) : Bool := (um l i).getD false
theorem fL (x0 : List Int) (x1 : Int) : Does E 89 [.one (.s .far () 1 (x0.map etI)), .one (tI x1)] [(false, [tB (mB x0 x1)])] := by
 exact G3 x0 x1 _ rfl
end Go.Proofs.YtjfbofdmjihglaaGreatDoor.Am
namespace Go.Proofs.YtjfbofdmjihglaaGreatDoor.Am
open Go Go.Proofs Classical
set_option maxRecDepth 100000
set_option linter.unusedVariables false
set_option linter.unusedSimpArgs false
inductive uW where
 | x0 (v5 : ByteArray)
def iw (v0 : List Int) (v5 : ByteArray) (v6 : Int) : US := stL 29 [(0, .one (.s .far () 1 (v0.map etI))), (5, .one (tS v5)), (6, .one (tI v6))]
def ny (zv5 : ByteArray) : US := stL 29 [(5, .one (tS zv5))]
abbrev pW : US → Exit → US → Prop := Round E 79 (ax Tryz.f79 0)
def CQ (v0 : List Int) (v5 : ByteArray) (v6 : Int) : uW → Prop
 | .x0 zv5 => Loops E 79 (ax Tryz.f79 0) (iw v0 v5 v6) (.exit 0) (ny zv5)
noncomputable def dN  : List Int → Nat → ByteArray → Option uW
 | [], i, v5 => some (.x0 v5)
 | hd :: rest, i, v5 => cond (decide ((i : Int) > (0 : Int)))
  (if v5.size + (⟨#[44]⟩ : ByteArray).size ≤ maxStr then if -9223372036854775808 ≤ hd ∧ hd ≤ 9223372036854775807 then if (v5 ++ (⟨#[44]⟩ : ByteArray)).size + (ak hd).size ≤ maxStr then dN rest (i + 1) ((v5 ++ (⟨#[44]⟩ : ByteArray)) ++ (ak hd)) else none else none else none)
  (if -9223372036854775808 ≤ hd ∧ hd ≤ 9223372036854775807 then if v5.size + (ak hd).size ≤ maxStr then dN rest (i + 1) (v5 ++ (ak hd)) else none else none)
theorem CP (v0 : List Int) (rest : List Int) : ∀ (i : Nat) (v5 : ByteArray), (v0).drop i = rest → v0.length ≤ 9223372036854775807 → Ans (dN rest i v5) (CQ v0 v5 (i : Int)) := by
 induction rest with
 | nil =>
  intro i v5 hE hl
  have hb := bh hE
  unfold dN
  exact K5 (K7 (show pW (iw v0 v5 (i : Int)) (.exit 0) (ny v5) from K3 [.val (.int .i64 (v0.length : Int)), .b false] _ (fun k => by kernel_rfl) (ALn v0 etI <| AC hb <| AN)) (by intro h; cases h))
 | cons hd rest ih =>
  intro i v5 hE hl
  have hb := aS hE
  have hw := aT hE hl
  have hE2 := aG hE
  have hg := aX hE
  unfold dN
  refine K8 (fun h1 => ?_) (fun h1 => ?_)
  ·refine La (fun h2 => ?_)
   refine La (fun h4 => ?_)
   refine La (fun h5 => ?_)
   exact (ih (i + 1) ((v5 ++ (⟨#[44]⟩ : ByteArray)) ++ (ak hd)) hE2 hl).mono fun y hy => by have r : pW (iw v0 v5 (i : Int)) .normal (iw v0 ((v5 ++ (⟨#[44]⟩ : ByteArray)) ++ (ak hd)) (inc (i : Int))) := K3 [.val (.int .i64 (v0.length : Int)), .b true, .b true, .val (.string (v5 ++ (⟨#[44]⟩ : ByteArray))), .row (etI hd), .ret [(false, [tS (ak hd)])], .val (.string ((v5 ++ (⟨#[44]⟩ : ByteArray)) ++ (ak hd)))] _ (fun k => by kernel_rfl) (ALn v0 etI <| AC hb <| AC h1 <| AC (ar (tab := E.tab) (t := 9) h2) <| AR etI hg <| AD (de hd h4) <| AC (ar (tab := E.tab) (t := 9) h5) <| AN); rw [hw] at r; cases y <;> exact K6 r hy
  ·refine La (fun h3 => ?_)
   refine La (fun h4 => ?_)
   exact (ih (i + 1) (v5 ++ (ak hd)) hE2 hl).mono fun y hy => by have r : pW (iw v0 v5 (i : Int)) .normal (iw v0 (v5 ++ (ak hd)) (inc (i : Int))) := K3 [.val (.int .i64 (v0.length : Int)), .b true, .b false, .row (etI hd), .ret [(false, [tS (ak hd)])], .val (.string (v5 ++ (ak hd)))] _ (fun k => by kernel_rfl) (ALn v0 etI <| AC hb <| AC h1 <| AR etI hg <| AD (de hd h3) <| AC (ar (tab := E.tab) (t := 9) h4) <| AN); rw [hw] at r; cases y <;> exact K6 r hy
noncomputable def nT (x0 : List Int) (x1 : Int) : Option (ByteArray) :=
  cond ((x0.length : Int) == x1)
   (some ((⟨#[42]⟩ : ByteArray)))
   (if x0.length ≤ 9223372036854775807 then (dN x0 0 ByteArray.empty).bind fun y => match y with
    | .x0 w0_5 => (some (w0_5)) else none)
theorem Ej (x0 : List Int) (x1 : Int) : Ans (nT x0 x1) (fun r => Does E 79 [.one (.s .far () 1 (x0.map etI)), .one (tI x1)] [(false, [tS r])]) := by
 unfold nT
 refine K8 (fun h0 => ?_) (fun h0 => ?_)
 ·exact K5 (K4 (fn := Tryz.f79) [.val (.int .i64 (x0.length : Int)), .b true] _ rfl (fun _ => rfl) (fun k => by kernel_rfl) (ALn x0 etI <| AC h0 <| AN))
 ·refine La (fun hl2 => ?_)
  refine K9 (fun y hy => ?_)
  replace hy := CP x0 x0 0 ByteArray.empty rfl hl2 y hy
  cases y with
  | x0 w0_5 =>
   have h1 := hy
   exact K5 (K4 (fn := Tryz.f79) [.val (.int .i64 (x0.length : Int)), .b false, .lp (.exit 0) (ny w0_5)] _ rfl (fun _ => rfl) (fun k => by kernel_rfl) (ALn x0 etI <| AC h0 <| AL h1 <| AN))
def eQ (c : UInt8) : List (List UInt8) → List UInt8
 | [] => []
 | x :: xs => x ++ (xs.map fun y => c :: y).flatten
theorem uu (c : UInt8) : ∀ xs : List (List UInt8), Lib.join xs [c] = eQ c xs
 | [] => rfl
 | [x] => by simp [Lib.join, List.intercalate, eQ]
 | x :: y :: xs => by
  have ih := uu c (y :: xs)
  unfold Lib.join List.intercalate at ih ⊢
  rw [List.intersperse_cons_cons, List.flatten_cons, List.flatten_cons, ih]
  simp [eQ]
theorem ox (xs : List (List UInt8)) (c : UInt8) : aK (xs.map ofTx) ⟨#[c]⟩ = ofTx (eQ c xs) := by
 unfold aK
 have : (xs.map ofTx).map (fun s : ByteArray => s.data.toList) = xs := by
  rw [List.map_map]
  conv => rhs; rw [← List.map_id xs]
  rfl
 rw [this]
 show ofTx (Lib.join xs [c]) = _
 rw [uu]
theorem qE (c : UInt8) (k : Nat) : ∀ xs : List (List UInt8), (∀ x ∈ xs, x.length ≤ k) → (eQ c xs).length ≤ xs.length * (k + 1)
 | [], _ => by simp [eQ]
 | x :: xs, h => by
  have hx := h x (by simp)
  have : ∀ ys : List (List UInt8), (∀ y ∈ ys, y.length ≤ k) → ((ys.map fun y => c :: y).flatten).length ≤ ys.length * (k + 1) := by
   intro ys
   induction ys with
   | nil => intro _; simp
   | cons y ys ih =>
    intro h
    have := ih fun z hz => h z (by simp [hz])
    have := h y (by simp)
    simp [Nat.add_mul] at *
    omega
  have := this xs fun y hy => h y (by simp [hy])
  simp only [eQ, List.length_append, List.length_cons, Nat.add_mul]
  omega
theorem sk {x : Int} (h : 0 ≤ x ∧ x ≤ 59) : (tx (ak x)).length ≤ 2 := by
 show (Lib.itoa x).length ≤ 2
 unfold Lib.itoa
 rw [if_neg (by omega)]
 exact oS 1 _ (by omega)
noncomputable def aE (l : List Int) (size : Int) : ByteArray := cond ((l.length : Int) == size) ⟨#[42]⟩ (ofTx (eQ 44 (l.map fun x => tx (ak x))))
theorem fm {l : List Int} (hl : l.length ≤ 60) (h : ∀ z ∈ l, 0 ≤ z ∧ z ≤ 59) (n : Int) : (aE l n).size ≤ 200 := by
 unfold aE
 cases (l.length : Int) == n with
 | true => exact (by decide : (⟨#[42]⟩ : ByteArray).size ≤ 200)
 | false =>
  rw [cond_false, l9]
  have := qE 44 2 (l.map fun x => tx (ak x)) (fun y hy => by
   obtain ⟨x, hx, rfl⟩ := List.mem_map.1 hy
   exact sk (h x hx))
  rw [List.length_map] at this
  omega
theorem HD : ∀ (l : List Int) (i : Nat) (v : List UInt8), (∀ z ∈ l, 0 ≤ z ∧ z ≤ 59) → 0 < i → v.length + l.length * 3 ≤ 1000 → dN l i (ofTx v) = some (.x0 (ofTx (v ++ ((l.map fun x => 44 :: tx (ak x)).flatten))))
 | [], i, v, _, _, _ => by unfold dN; simp
 | x :: l, i, v, h, hi, hl => by
  have hx := h x (by simp)
  have hz := sk hx
  have e44 : (⟨#[44]⟩ : ByteArray) = ofTx [44] := rfl
  simp only [List.length_cons] at hl
  unfold dN
  rw [decide_eq_true (by omega), cond_true, e44, nm, ← rC (ak x), nm]
  simp only [l9, jx]
  rw [if_pos (by simp [maxStr]; omega), if_pos (by omega), if_pos (by simp [maxStr]; omega), HD l (i + 1) _ (fun z hz => h z (by simp [hz])) (by omega) (by simp; omega)]
  simp
theorem Jr (l : List Int) (n : Int) (hl : l.length ≤ 60) (h : ∀ z ∈ l, 0 ≤ z ∧ z ≤ 59) : nT l n = some (aE l n) := by
 unfold nT aE
 cases (l.length : Int) == n with
 | true => rfl
 | false =>
  rw [cond_false, cond_false, if_pos (by omega)]
  cases l with
  | nil => rfl
  | cons x l =>
   have hx := h x (by simp)
   have hz := sk hx
   simp only [List.length_cons] at hl
   unfold dN
   have e : ByteArray.empty ++ ak x = ofTx (tx (ak x)) := by
    show ofTx [] ++ ofTx (tx (ak x)) = _
    rw [nm]; rfl
   have hz' : (ak x).size ≤ 2 := by rw [bM]; exact hz
   have e0 : ByteArray.empty.size = 0 := rfl
   rw [decide_eq_false (by omega), cond_false, if_pos (by omega), if_pos (by rw [e0]; unfold maxStr; omega), e, HD l _ _ (fun z hz => h z (by simp [hz])) (by omega) (by omega), Option.bind_some]
   simp only [List.map_cons, eQ, List.map_map]
   rfl
theorem k7 (x0 : List Int) (x1 : Int) (h1 : x0.length ≤ 60) (h2 : ∀ z ∈ x0, 0 ≤ z ∧ z ≤ 59) : Does E 79 [.one (.s .far () 1 (x0.map etI)), .one (tI x1)] [(false, [tS (aE x0 x1)])] := by
 exact Ej x0 x1 _ (Jr x0 x1 h1 h2)
noncomputable def mR (x0 : GCron) : Option (ByteArray × Bool) :=
  if ao.sm x0 then cond (gF x0)
   (if x0.f0.length ≤ 60 then if ∀ z ∈ x0.f0, 0 ≤ z ∧ z ≤ 59 then if (aE x0.f0 (60 : Int)).size + (⟨#[32]⟩ : ByteArray).size ≤ maxStr then if x0.f1.length ≤ 60 then if ∀ z ∈ x0.f1, 0 ≤ z ∧ z ≤ 59 then if ((aE x0.f0 (60 : Int)) ++ (⟨#[32]⟩ : ByteArray)).size + (aE x0.f1 (24 : Int)).size ≤ maxStr then if (((aE x0.f0 (60 : Int)) ++ (⟨#[32]⟩ : ByteArray)) ++ (aE x0.f1 (24 : Int))).size + (⟨#[32]⟩ : ByteArray).size ≤ maxStr then if x0.f2.length ≤ 60 then if ∀ z ∈ x0.f2, 0 ≤ z ∧ z ≤ 59 then if ((((aE x0.f0 (60 : Int)) ++ (⟨#[32]⟩ : ByteArray)) ++ (aE x0.f1 (24 : Int))) ++ (⟨#[32]⟩ : ByteArray)).size + (aE x0.f2 (31 : Int)).size ≤ maxStr then if (((((aE x0.f0 (60 : Int)) ++ (⟨#[32]⟩ : ByteArray)) ++ (aE x0.f1 (24 : Int))) ++ (⟨#[32]⟩ : ByteArray)) ++ (aE x0.f2 (31 : Int))).size + (⟨#[32]⟩ : ByteArray).size ≤ maxStr then if x0.f3.length ≤ 60 then if ∀ z ∈ x0.f3, 0 ≤ z ∧ z ≤ 59 then if ((((((aE x0.f0 (60 : Int)) ++ (⟨#[32]⟩ : ByteArray)) ++ (aE x0.f1 (24 : Int))) ++ (⟨#[32]⟩ : ByteArray)) ++ (aE x0.f2 (31 : Int))) ++ (⟨#[32]⟩ : ByteArray)).size + (aE x0.f3 (12 : Int)).size ≤ maxStr then if (((((((aE x0.f0 (60 : Int)) ++ (⟨#[32]⟩ : ByteArray)) ++ (aE x0.f1 (24 : Int))) ++ (⟨#[32]⟩ : ByteArray)) ++ (aE x0.f2 (31 : Int))) ++ (⟨#[32]⟩ : ByteArray)) ++ (aE x0.f3 (12 : Int))).size + (⟨#[32]⟩ : ByteArray).size ≤ maxStr then if x0.f4.length ≤ 60 then if ∀ z ∈ x0.f4, 0 ≤ z ∧ z ≤ 59 then if ((((((((aE x0.f0 (60 : Int)) ++ (⟨#[32]⟩ : ByteArray)) ++ (aE x0.f1 (24 : Int))) ++ (⟨#[32]⟩ : ByteArray)) ++ (aE x0.f2 (31 : Int))) ++ (⟨#[32]⟩ : ByteArray)) ++ (aE x0.f3 (12 : Int))) ++ (⟨#[32]⟩ : ByteArray)).size + (aE x0.f4 (7 : Int)).size ≤ maxStr then some (((((((((aE x0.f0 (60 : Int)) ++ (⟨#[32]⟩ : ByteArray)) ++ (aE x0.f1 (24 : Int))) ++ (⟨#[32]⟩ : ByteArray)) ++ (aE x0.f2 (31 : Int))) ++ (⟨#[32]⟩ : ByteArray)) ++ (aE x0.f3 (12 : Int))) ++ (⟨#[32]⟩ : ByteArray)) ++ (aE x0.f4 (7 : Int)), true) else none else none else none else none else none else none else none else none else none else none else none else none else none else none else none else none else none else none)
   (some (ByteArray.empty, false)) else none
theorem Cz (x0 : GCron) : Ans (mR x0) (fun r => Does E 56 [.agg (GCron.t .far x0)] [(false, [tS r.1]), (false, [tB r.2])]) := by
 unfold mR
 refine La (fun h0 => ?_)
 refine K8 (fun h1 => ?_) (fun h1 => ?_)
 ·refine La (fun h2 => ?_)
  refine La (fun h3 => ?_)
  refine La (fun h4 => ?_)
  refine La (fun h5 => ?_)
  refine La (fun h6 => ?_)
  refine La (fun h7 => ?_)
  refine La (fun h8 => ?_)
  refine La (fun h9 => ?_)
  refine La (fun h10 => ?_)
  refine La (fun h11 => ?_)
  refine La (fun h12 => ?_)
  refine La (fun h13 => ?_)
  refine La (fun h14 => ?_)
  refine La (fun h15 => ?_)
  refine La (fun h16 => ?_)
  refine La (fun h17 => ?_)
  refine La (fun h18 => ?_)
  refine La (fun h19 => ?_)
  exact K5 (K4 (fn := Tryz.f56) [rT, .ret [(false, [tS (aE x0.f0 (60 : Int))])], .val (.string ((aE x0.f0 (60 : Int)) ++ (⟨#[32]⟩ : ByteArray))), .ret [(false, [tS (aE x0.f1 (24 : Int))])], .val (.string (((aE x0.f0 (60 : Int)) ++ (⟨#[32]⟩ : ByteArray)) ++ (aE x0.f1 (24 : Int)))), .val (.string ((((aE x0.f0 (60 : Int)) ++ (⟨#[32]⟩ : ByteArray)) ++ (aE x0.f1 (24 : Int))) ++ (⟨#[32]⟩ : ByteArray))), .ret [(false, [tS (aE x0.f2 (31 : Int))])], .val (.string (((((aE x0.f0 (60 : Int)) ++ (⟨#[32]⟩ : ByteArray)) ++ (aE x0.f1 (24 : Int))) ++ (⟨#[32]⟩ : ByteArray)) ++ (aE x0.f2 (31 : Int)))), .val (.string ((((((aE x0.f0 (60 : Int)) ++ (⟨#[32]⟩ : ByteArray)) ++ (aE x0.f1 (24 : Int))) ++ (⟨#[32]⟩ : ByteArray)) ++ (aE x0.f2 (31 : Int))) ++ (⟨#[32]⟩ : ByteArray))), .ret [(false, [tS (aE x0.f3 (12 : Int))])], .val (.string (((((((aE x0.f0 (60 : Int)) ++ (⟨#[32]⟩ : ByteArray)) ++ (aE x0.f1 (24 : Int))) ++ (⟨#[32]⟩ : ByteArray)) ++ (aE x0.f2 (31 : Int))) ++ (⟨#[32]⟩ : ByteArray)) ++ (aE x0.f3 (12 : Int)))), .val (.string ((((((((aE x0.f0 (60 : Int)) ++ (⟨#[32]⟩ : ByteArray)) ++ (aE x0.f1 (24 : Int))) ++ (⟨#[32]⟩ : ByteArray)) ++ (aE x0.f2 (31 : Int))) ++ (⟨#[32]⟩ : ByteArray)) ++ (aE x0.f3 (12 : Int))) ++ (⟨#[32]⟩ : ByteArray))), .ret [(false, [tS (aE x0.f4 (7 : Int))])], .val (.string (((((((((aE x0.f0 (60 : Int)) ++ (⟨#[32]⟩ : ByteArray)) ++ (aE x0.f1 (24 : Int))) ++ (⟨#[32]⟩ : ByteArray)) ++ (aE x0.f2 (31 : Int))) ++ (⟨#[32]⟩ : ByteArray)) ++ (aE x0.f3 (12 : Int))) ++ (⟨#[32]⟩ : ByteArray)) ++ (aE x0.f4 (7 : Int))))] _ rfl (fun _ => rfl) (fun k => by kernel_rfl) (AD (Ld (wR x0 h0) h1) <| AD (k7 x0.f0 (60 : Int) h2 h3) <| AC (ar (tab := E.tab) (t := 9) h4) <| AD (k7 x0.f1 (24 : Int) h5 h6) <| AC (ar (tab := E.tab) (t := 9) h7) <| AC (ar (tab := E.tab) (t := 9) h8) <| AD (k7 x0.f2 (31 : Int) h9 h10) <| AC (ar (tab := E.tab) (t := 9) h11) <| AC (ar (tab := E.tab) (t := 9) h12) <| AD (k7 x0.f3 (12 : Int) h13 h14) <| AC (ar (tab := E.tab) (t := 9) h15) <| AC (ar (tab := E.tab) (t := 9) h16) <| AD (k7 x0.f4 (7 : Int) h17 h18) <| AC (ar (tab := E.tab) (t := 9) h19) <| AN))
 ·exact K5 (K4 (fn := Tryz.f56) [rF] _ rfl (fun _ => rfl) (fun k => by kernel_rfl) (AD (Ld (wR x0 h0) h1) <| AN))
inductive sZ where
 | x2 (v7 : List ByteArray)
def lk (v1_0 v1_1 v1_2 v1_3 v1_4 : List Int) (v4 v7 : List ByteArray) (v14 : Int) (v28 : List Int) (v29 v30 : Int) : US := stL 48 [(1, .box () [.s .far () 1 (v1_0.map etI), .s .far () 1 (v1_1.map etI), .s .far () 1 (v1_2.map etI), .s .far () 1 (v1_3.map etI), .s .far () 1 (v1_4.map etI)]), (4, .one (.s .own () 1 (v4.map etS))), (7, .one (.s .own () 1 (v7.map etS))), (13, .clo (.arr [0, 1, 2, 3, 4]) [1, 1, 1, 1, 1]), (14, .one (tI v14)), (28, .one (.s .far () 1 (v28.map etI))), (29, .one (tI v29)), (30, .one (tI v30))]
def et (v1_0 v1_1 v1_2 v1_3 v1_4 : List Int) (v4 : List ByteArray) (v14 : Int) (zv7 : List ByteArray) : US := stL 48 [(1, .box () [.s .far () 1 (v1_0.map etI), .s .far () 1 (v1_1.map etI), .s .far () 1 (v1_2.map etI), .s .far () 1 (v1_3.map etI), .s .far () 1 (v1_4.map etI)]), (4, .one (.s .own () 1 (v4.map etS))), (7, .one (.s .own () 1 (zv7.map etS))), (13, .clo (.arr [0, 1, 2, 3, 4]) [1, 1, 1, 1, 1]), (14, .one (tI v14))]
abbrev sY : US → Exit → US → Prop := Round E 69 (ax Tryz.f69 1)
def z6 (v1_0 v1_1 v1_2 v1_3 v1_4 : List Int) (v4 v7 : List ByteArray) (v14 : Int) (v28 : List Int) (v29 v30 : Int) : sZ → Prop
 | .x2 zv7 => Loops E 69 (ax Tryz.f69 1) (lk v1_0 v1_1 v1_2 v1_3 v1_4 v4 v7 v14 v28 v29 v30) (.exit 2) (et v1_0 v1_1 v1_2 v1_3 v1_4 v4 v14 zv7)
noncomputable def b8  : List Int → Nat → (List ByteArray) → Option sZ
 | [], i, v7 => some (.x2 v7)
 | hd :: rest, i, v7 => if -9223372036854775808 ≤ hd ∧ hd ≤ 9223372036854775807 then if (v7.length + ([ak hd]).length) * 16 ≤ 140737488355328 ∧ v7.length + ([ak hd]).length ≤ 4611686018427387904 then b8 rest (i + 1) (v7 ++ ([ak hd])) else none else none
theorem jc (v1_0 v1_1 v1_2 v1_3 v1_4 : List Int) (v4 : List ByteArray) (v14 : Int) (v28 : List Int) (rest : List Int) : ∀ (i : Nat) (v7 : List ByteArray), (v28).drop i = rest → v28.length ≤ 9223372036854775807 → Ans (b8 rest i v7) (z6 v1_0 v1_1 v1_2 v1_3 v1_4 v4 v7 v14 v28 (v28.length : Int) (i : Int)) := by
 induction rest with
 | nil =>
  intro i v7 hE hl
  have hb := bh hE
  unfold b8
  exact K5 (K7 (show sY (lk v1_0 v1_1 v1_2 v1_3 v1_4 v4 v7 v14 v28 (v28.length : Int) (i : Int)) (.exit 2) (et v1_0 v1_1 v1_2 v1_3 v1_4 v4 v14 v7) from K3 [.b false] _ (fun k => by kernel_rfl) (AC hb <| AN)) (by intro h; cases h))
 | cons hd rest ih =>
  intro i v7 hE hl
  have hb := aS hE
  have hw := aT hE hl
  have hE2 := aG hE
  have hg := aX hE
  unfold b8
  refine La (fun h2 => ?_)
  refine La (fun h3 => ?_)
  exact (ih (i + 1) (v7 ++ ([ak hd])) hE2 hl).mono fun y hy => by have r : sY (lk v1_0 v1_1 v1_2 v1_3 v1_4 v4 v7 v14 v28 (v28.length : Int) (i : Int)) .normal (lk v1_0 v1_1 v1_2 v1_3 v1_4 v4 (v7 ++ ([ak hd])) v14 v28 (v28.length : Int) (inc (i : Int))) := K3 [.b true, .row (etI hd), .ret [(false, [tS (ak hd)])], .rows ((v7 ++ ([ak hd])).map etS)] _ (fun k => by kernel_rfl) (AC hb <| AR etI hg <| AD (dE hd h2) <| AAp etS (fun _ => rfl) h3 <| AN); rw [hw] at r; cases y <;> exact K6 r hy
inductive oo where
 | x0 (v4 : List ByteArray)
def bc (v1_0 v1_1 v1_2 v1_3 v1_4 : List Int) (v4 : List ByteArray) (v14 : Int) : US := stL 48 [(1, .box () [.s .far () 1 (v1_0.map etI), .s .far () 1 (v1_1.map etI), .s .far () 1 (v1_2.map etI), .s .far () 1 (v1_3.map etI), .s .far () 1 (v1_4.map etI)]), (4, .one (.s .own () 1 (v4.map etS))), (13, .clo (.arr [0, 1, 2, 3, 4]) [1, 1, 1, 1, 1]), (14, .one (tI v14))]
def mr (zv4 : List ByteArray) : US := stL 48 [(4, .one (.s .own () 1 (zv4.map etS)))]
abbrev cE : US → Exit → US → Prop := Round E 69 (ax Tryz.f69 0)
def zZ (v1_0 v1_1 v1_2 v1_3 v1_4 : List Int) (v4 : List ByteArray) (v14 : Int) : oo → Prop
 | .x0 zv4 => Loops E 69 (ax Tryz.f69 0) (bc v1_0 v1_1 v1_2 v1_3 v1_4 v4 v14) (.exit 0) (mr zv4)
noncomputable def aM (v1_0 v1_1 v1_2 v1_3 v1_4 : List Int) : Nat → (List ByteArray) → Int → Option oo
 | 0, _, _ => none
 | n + 1, v4, v14 => cond (decide (v14 < (5 : Int)))
  (cond (v14 == (0 : Int))
   (cond (mB v1_0 v14)
    (if (v4.length + ([(⟨#[42]⟩ : ByteArray)]).length) * 16 ≤ 140737488355328 ∧ v4.length + ([(⟨#[42]⟩ : ByteArray)]).length ≤ 4611686018427387904 then aM v1_0 v1_1 v1_2 v1_3 v1_4 n (v4 ++ ([(⟨#[42]⟩ : ByteArray)])) (inc v14) else none)
    (if v1_0.length ≤ 9223372036854775807 then (b8 v1_0 0 ([])).bind fun y => match y with
     | .x2 w0_7 => (if w0_7.length ≤ 140737488355328 ∧ (aK w0_7 (⟨#[44]⟩ : ByteArray)).size ≤ 140737488355328 then if (v4.length + ([aK w0_7 (⟨#[44]⟩ : ByteArray)]).length) * 16 ≤ 140737488355328 ∧ v4.length + ([aK w0_7 (⟨#[44]⟩ : ByteArray)]).length ≤ 4611686018427387904 then aM v1_0 v1_1 v1_2 v1_3 v1_4 n (v4 ++ ([aK w0_7 (⟨#[44]⟩ : ByteArray)])) (inc v14) else none else none) else none))
   (cond (v14 == (1 : Int))
    (cond (mB v1_1 v14)
     (if (v4.length + ([(⟨#[42]⟩ : ByteArray)]).length) * 16 ≤ 140737488355328 ∧ v4.length + ([(⟨#[42]⟩ : ByteArray)]).length ≤ 4611686018427387904 then aM v1_0 v1_1 v1_2 v1_3 v1_4 n (v4 ++ ([(⟨#[42]⟩ : ByteArray)])) (inc v14) else none)
     (if v1_1.length ≤ 9223372036854775807 then (b8 v1_1 0 ([])).bind fun y => match y with
      | .x2 w0_7 => (if w0_7.length ≤ 140737488355328 ∧ (aK w0_7 (⟨#[44]⟩ : ByteArray)).size ≤ 140737488355328 then if (v4.length + ([aK w0_7 (⟨#[44]⟩ : ByteArray)]).length) * 16 ≤ 140737488355328 ∧ v4.length + ([aK w0_7 (⟨#[44]⟩ : ByteArray)]).length ≤ 4611686018427387904 then aM v1_0 v1_1 v1_2 v1_3 v1_4 n (v4 ++ ([aK w0_7 (⟨#[44]⟩ : ByteArray)])) (inc v14) else none else none) else none))
    (cond (v14 == (2 : Int))
     (cond (mB v1_2 v14)
      (if (v4.length + ([(⟨#[42]⟩ : ByteArray)]).length) * 16 ≤ 140737488355328 ∧ v4.length + ([(⟨#[42]⟩ : ByteArray)]).length ≤ 4611686018427387904 then aM v1_0 v1_1 v1_2 v1_3 v1_4 n (v4 ++ ([(⟨#[42]⟩ : ByteArray)])) (inc v14) else none)
      (if v1_2.length ≤ 9223372036854775807 then (b8 v1_2 0 ([])).bind fun y => match y with
       | .x2 w0_7 => (if w0_7.length ≤ 140737488355328 ∧ (aK w0_7 (⟨#[44]⟩ : ByteArray)).size ≤ 140737488355328 then if (v4.length + ([aK w0_7 (⟨#[44]⟩ : ByteArray)]).length) * 16 ≤ 140737488355328 ∧ v4.length + ([aK w0_7 (⟨#[44]⟩ : ByteArray)]).length ≤ 4611686018427387904 then aM v1_0 v1_1 v1_2 v1_3 v1_4 n (v4 ++ ([aK w0_7 (⟨#[44]⟩ : ByteArray)])) (inc v14) else none else none) else none))
     (cond (v14 == (3 : Int))
      (cond (mB v1_3 v14)
       (if (v4.length + ([(⟨#[42]⟩ : ByteArray)]).length) * 16 ≤ 140737488355328 ∧ v4.length + ([(⟨#[42]⟩ : ByteArray)]).length ≤ 4611686018427387904 then aM v1_0 v1_1 v1_2 v1_3 v1_4 n (v4 ++ ([(⟨#[42]⟩ : ByteArray)])) (inc v14) else none)
       (if v1_3.length ≤ 9223372036854775807 then (b8 v1_3 0 ([])).bind fun y => match y with
        | .x2 w0_7 => (if w0_7.length ≤ 140737488355328 ∧ (aK w0_7 (⟨#[44]⟩ : ByteArray)).size ≤ 140737488355328 then if (v4.length + ([aK w0_7 (⟨#[44]⟩ : ByteArray)]).length) * 16 ≤ 140737488355328 ∧ v4.length + ([aK w0_7 (⟨#[44]⟩ : ByteArray)]).length ≤ 4611686018427387904 then aM v1_0 v1_1 v1_2 v1_3 v1_4 n (v4 ++ ([aK w0_7 (⟨#[44]⟩ : ByteArray)])) (inc v14) else none else none) else none))
      (if v14 = (4 : Int) then cond (mB v1_4 v14)
       (if (v4.length + ([(⟨#[42]⟩ : ByteArray)]).length) * 16 ≤ 140737488355328 ∧ v4.length + ([(⟨#[42]⟩ : ByteArray)]).length ≤ 4611686018427387904 then aM v1_0 v1_1 v1_2 v1_3 v1_4 n (v4 ++ ([(⟨#[42]⟩ : ByteArray)])) (inc v14) else none)
       (if v1_4.length ≤ 9223372036854775807 then (b8 v1_4 0 ([])).bind fun y => match y with
        | .x2 w0_7 => (if w0_7.length ≤ 140737488355328 ∧ (aK w0_7 (⟨#[44]⟩ : ByteArray)).size ≤ 140737488355328 then if (v4.length + ([aK w0_7 (⟨#[44]⟩ : ByteArray)]).length) * 16 ≤ 140737488355328 ∧ v4.length + ([aK w0_7 (⟨#[44]⟩ : ByteArray)]).length ≤ 4611686018427387904 then aM v1_0 v1_1 v1_2 v1_3 v1_4 n (v4 ++ ([aK w0_7 (⟨#[44]⟩ : ByteArray)])) (inc v14) else none else none) else none) else none)))))
  (some (.x0 v4))
theorem zY (v1_0 v1_1 v1_2 v1_3 v1_4 : List Int) (n : Nat) : ∀ (v4 : List ByteArray) (v14 : Int), Ans (aM v1_0 v1_1 v1_2 v1_3 v1_4 n v4 v14) (zZ v1_0 v1_1 v1_2 v1_3 v1_4 v4 v14) := by
 induction n with
 | zero => intros; exact Ans.none
 | succ n ih =>
  intro v4 v14
  unfold aM
  refine K8 (fun h0 => ?_) (fun h0 => ?_)
  ·refine K8 (fun h1 => ?_) (fun h1 => ?_)
   ·refine K8 (fun h2 => ?_) (fun h2 => ?_)
    ·refine La (fun h3 => ?_)
     have r : cE (bc v1_0 v1_1 v1_2 v1_3 v1_4 v4 v14) .normal (bc v1_0 v1_1 v1_2 v1_3 v1_4 (v4 ++ ([(⟨#[42]⟩ : ByteArray)])) (inc v14)) := K3 [.b true, .val (.int .i64 0), rT, .rows ((v4 ++ ([(⟨#[42]⟩ : ByteArray)])).map etS)] _ (fun k => by kernel_rfl) (AC h0 <| AC (p := v14 = (0 : Int)) (eq_of_beq h1) <| AD (Ld (fL v1_0 v14) h2) <| AAp etS (fun _ => rfl) h3 <| AN); exact (ih (v4 ++ ([(⟨#[42]⟩ : ByteArray)])) (inc v14)).mono fun y hy => by cases y <;> exact K6 r hy
    ·refine La (fun hl5 => ?_)
     refine K9 (fun y hy => ?_)
     replace hy := jc v1_0 v1_1 v1_2 v1_3 v1_4 v4 v14 v1_0 v1_0 0 ([]) rfl hl5 y hy
     cases y with
     | x2 w0_7 =>
      have h3 := hy
      refine La (fun h4 => ?_)
      refine La (fun h5 => ?_)
      have r : cE (bc v1_0 v1_1 v1_2 v1_3 v1_4 v4 v14) .normal (bc v1_0 v1_1 v1_2 v1_3 v1_4 (v4 ++ ([aK w0_7 (⟨#[44]⟩ : ByteArray)])) (inc v14)) := K3 [.b true, .val (.int .i64 0), rF, .val (.int .i64 (v1_0.length : Int)), .lp (.exit 2) (et v1_0 v1_1 v1_2 v1_3 v1_4 v4 v14 w0_7), .ret [(false, [tS (aK w0_7 (⟨#[44]⟩ : ByteArray))])], .rows ((v4 ++ ([aK w0_7 (⟨#[44]⟩ : ByteArray)])).map etS)] _ (fun k => by kernel_rfl) (AC h0 <| AC (p := v14 = (0 : Int)) (eq_of_beq h1) <| AD (Ld (fL v1_0 v14) h2) <| ALn v1_0 etI <| AL h3 <| AV (ψ := fun k => E.C k 61 [.one (.s .far () 1 (((w0_7.map etS).drop 0).take (w0_7.map etS).length)), .one (tS (⟨#[44]⟩ : ByteArray))] = some [(false, [tS (aK w0_7 (⟨#[44]⟩ : ByteArray))])]) (Lc (by simp only [List.take_length, List.drop_zero]) (d3 w0_7 (⟨#[44]⟩ : ByteArray) h4)) <| AAp etS (fun _ => rfl) h5 <| AN); exact (ih (v4 ++ ([aK w0_7 (⟨#[44]⟩ : ByteArray)])) (inc v14)).mono fun y hy => by cases y <;> exact K6 r hy
   ·refine K8 (fun h2 => ?_) (fun h2 => ?_)
    ·refine K8 (fun h3 => ?_) (fun h3 => ?_)
     ·refine La (fun h4 => ?_)
      have r : cE (bc v1_0 v1_1 v1_2 v1_3 v1_4 v4 v14) .normal (bc v1_0 v1_1 v1_2 v1_3 v1_4 (v4 ++ ([(⟨#[42]⟩ : ByteArray)])) (inc v14)) := K3 [.b true, .val (.int .i64 1), rT, .rows ((v4 ++ ([(⟨#[42]⟩ : ByteArray)])).map etS)] _ (fun k => by kernel_rfl) (AC h0 <| AC (p := v14 = (1 : Int)) (eq_of_beq h2) <| AD (Ld (fL v1_1 v14) h3) <| AAp etS (fun _ => rfl) h4 <| AN); exact (ih (v4 ++ ([(⟨#[42]⟩ : ByteArray)])) (inc v14)).mono fun y hy => by cases y <;> exact K6 r hy
     ·refine La (fun hl6 => ?_)
      refine K9 (fun y hy => ?_)
      replace hy := jc v1_0 v1_1 v1_2 v1_3 v1_4 v4 v14 v1_1 v1_1 0 ([]) rfl hl6 y hy
      cases y with
      | x2 w0_7 =>
       have h4 := hy
       refine La (fun h5 => ?_)
       refine La (fun h6 => ?_)
       have r : cE (bc v1_0 v1_1 v1_2 v1_3 v1_4 v4 v14) .normal (bc v1_0 v1_1 v1_2 v1_3 v1_4 (v4 ++ ([aK w0_7 (⟨#[44]⟩ : ByteArray)])) (inc v14)) := K3 [.b true, .val (.int .i64 1), rF, .val (.int .i64 (v1_1.length : Int)), .lp (.exit 2) (et v1_0 v1_1 v1_2 v1_3 v1_4 v4 v14 w0_7), .ret [(false, [tS (aK w0_7 (⟨#[44]⟩ : ByteArray))])], .rows ((v4 ++ ([aK w0_7 (⟨#[44]⟩ : ByteArray)])).map etS)] _ (fun k => by kernel_rfl) (AC h0 <| AC (p := v14 = (1 : Int)) (eq_of_beq h2) <| AD (Ld (fL v1_1 v14) h3) <| ALn v1_1 etI <| AL h4 <| AV (ψ := fun k => E.C k 61 [.one (.s .far () 1 (((w0_7.map etS).drop 0).take (w0_7.map etS).length)), .one (tS (⟨#[44]⟩ : ByteArray))] = some [(false, [tS (aK w0_7 (⟨#[44]⟩ : ByteArray))])]) (Lc (by simp only [List.take_length, List.drop_zero]) (d3 w0_7 (⟨#[44]⟩ : ByteArray) h5)) <| AAp etS (fun _ => rfl) h6 <| AN); exact (ih (v4 ++ ([aK w0_7 (⟨#[44]⟩ : ByteArray)])) (inc v14)).mono fun y hy => by cases y <;> exact K6 r hy
    ·refine K8 (fun h3 => ?_) (fun h3 => ?_)
     ·refine K8 (fun h4 => ?_) (fun h4 => ?_)
      ·refine La (fun h5 => ?_)
       have r : cE (bc v1_0 v1_1 v1_2 v1_3 v1_4 v4 v14) .normal (bc v1_0 v1_1 v1_2 v1_3 v1_4 (v4 ++ ([(⟨#[42]⟩ : ByteArray)])) (inc v14)) := K3 [.b true, .val (.int .i64 2), rT, .rows ((v4 ++ ([(⟨#[42]⟩ : ByteArray)])).map etS)] _ (fun k => by kernel_rfl) (AC h0 <| AC (p := v14 = (2 : Int)) (eq_of_beq h3) <| AD (Ld (fL v1_2 v14) h4) <| AAp etS (fun _ => rfl) h5 <| AN); exact (ih (v4 ++ ([(⟨#[42]⟩ : ByteArray)])) (inc v14)).mono fun y hy => by cases y <;> exact K6 r hy
      ·refine La (fun hl7 => ?_)
       refine K9 (fun y hy => ?_)
       replace hy := jc v1_0 v1_1 v1_2 v1_3 v1_4 v4 v14 v1_2 v1_2 0 ([]) rfl hl7 y hy
       cases y with
       | x2 w0_7 =>
        have h5 := hy
        refine La (fun h6 => ?_)
        refine La (fun h7 => ?_)
        have r : cE (bc v1_0 v1_1 v1_2 v1_3 v1_4 v4 v14) .normal (bc v1_0 v1_1 v1_2 v1_3 v1_4 (v4 ++ ([aK w0_7 (⟨#[44]⟩ : ByteArray)])) (inc v14)) := K3 [.b true, .val (.int .i64 2), rF, .val (.int .i64 (v1_2.length : Int)), .lp (.exit 2) (et v1_0 v1_1 v1_2 v1_3 v1_4 v4 v14 w0_7), .ret [(false, [tS (aK w0_7 (⟨#[44]⟩ : ByteArray))])], .rows ((v4 ++ ([aK w0_7 (⟨#[44]⟩ : ByteArray)])).map etS)] _ (fun k => by kernel_rfl) (AC h0 <| AC (p := v14 = (2 : Int)) (eq_of_beq h3) <| AD (Ld (fL v1_2 v14) h4) <| ALn v1_2 etI <| AL h5 <| AV (ψ := fun k => E.C k 61 [.one (.s .far () 1 (((w0_7.map etS).drop 0).take (w0_7.map etS).length)), .one (tS (⟨#[44]⟩ : ByteArray))] = some [(false, [tS (aK w0_7 (⟨#[44]⟩ : ByteArray))])]) (Lc (by simp only [List.take_length, List.drop_zero]) (d3 w0_7 (⟨#[44]⟩ : ByteArray) h6)) <| AAp etS (fun _ => rfl) h7 <| AN); exact (ih (v4 ++ ([aK w0_7 (⟨#[44]⟩ : ByteArray)])) (inc v14)).mono fun y hy => by cases y <;> exact K6 r hy
     ·refine K8 (fun h4 => ?_) (fun h4 => ?_)
      ·refine K8 (fun h5 => ?_) (fun h5 => ?_)
       ·refine La (fun h6 => ?_)
        have r : cE (bc v1_0 v1_1 v1_2 v1_3 v1_4 v4 v14) .normal (bc v1_0 v1_1 v1_2 v1_3 v1_4 (v4 ++ ([(⟨#[42]⟩ : ByteArray)])) (inc v14)) := K3 [.b true, .val (.int .i64 3), rT, .rows ((v4 ++ ([(⟨#[42]⟩ : ByteArray)])).map etS)] _ (fun k => by kernel_rfl) (AC h0 <| AC (p := v14 = (3 : Int)) (eq_of_beq h4) <| AD (Ld (fL v1_3 v14) h5) <| AAp etS (fun _ => rfl) h6 <| AN); exact (ih (v4 ++ ([(⟨#[42]⟩ : ByteArray)])) (inc v14)).mono fun y hy => by cases y <;> exact K6 r hy
       ·refine La (fun hl8 => ?_)
        refine K9 (fun y hy => ?_)
        replace hy := jc v1_0 v1_1 v1_2 v1_3 v1_4 v4 v14 v1_3 v1_3 0 ([]) rfl hl8 y hy
        cases y with
        | x2 w0_7 =>
         have h6 := hy
         refine La (fun h7 => ?_)
         refine La (fun h8 => ?_)
         have r : cE (bc v1_0 v1_1 v1_2 v1_3 v1_4 v4 v14) .normal (bc v1_0 v1_1 v1_2 v1_3 v1_4 (v4 ++ ([aK w0_7 (⟨#[44]⟩ : ByteArray)])) (inc v14)) := K3 [.b true, .val (.int .i64 3), rF, .val (.int .i64 (v1_3.length : Int)), .lp (.exit 2) (et v1_0 v1_1 v1_2 v1_3 v1_4 v4 v14 w0_7), .ret [(false, [tS (aK w0_7 (⟨#[44]⟩ : ByteArray))])], .rows ((v4 ++ ([aK w0_7 (⟨#[44]⟩ : ByteArray)])).map etS)] _ (fun k => by kernel_rfl) (AC h0 <| AC (p := v14 = (3 : Int)) (eq_of_beq h4) <| AD (Ld (fL v1_3 v14) h5) <| ALn v1_3 etI <| AL h6 <| AV (ψ := fun k => E.C k 61 [.one (.s .far () 1 (((w0_7.map etS).drop 0).take (w0_7.map etS).length)), .one (tS (⟨#[44]⟩ : ByteArray))] = some [(false, [tS (aK w0_7 (⟨#[44]⟩ : ByteArray))])]) (Lc (by simp only [List.take_length, List.drop_zero]) (d3 w0_7 (⟨#[44]⟩ : ByteArray) h7)) <| AAp etS (fun _ => rfl) h8 <| AN); exact (ih (v4 ++ ([aK w0_7 (⟨#[44]⟩ : ByteArray)])) (inc v14)).mono fun y hy => by cases y <;> exact K6 r hy
      ·refine La (fun h5 => ?_)
       refine K8 (fun h6 => ?_) (fun h6 => ?_)
       ·refine La (fun h7 => ?_)
        have r : cE (bc v1_0 v1_1 v1_2 v1_3 v1_4 v4 v14) .normal (bc v1_0 v1_1 v1_2 v1_3 v1_4 (v4 ++ ([(⟨#[42]⟩ : ByteArray)])) (inc v14)) := K3 [.b true, .val (.int .i64 4), rT, .rows ((v4 ++ ([(⟨#[42]⟩ : ByteArray)])).map etS)] _ (fun k => by kernel_rfl) (AC h0 <| AC h5 <| AD (Ld (fL v1_4 v14) h6) <| AAp etS (fun _ => rfl) h7 <| AN); exact (ih (v4 ++ ([(⟨#[42]⟩ : ByteArray)])) (inc v14)).mono fun y hy => by cases y <;> exact K6 r hy
       ·refine La (fun hl8 => ?_)
        refine K9 (fun y hy => ?_)
        replace hy := jc v1_0 v1_1 v1_2 v1_3 v1_4 v4 v14 v1_4 v1_4 0 ([]) rfl hl8 y hy
        cases y with
        | x2 w0_7 =>
         have h7 := hy
         refine La (fun h8 => ?_)
         refine La (fun h9 => ?_)
         have r : cE (bc v1_0 v1_1 v1_2 v1_3 v1_4 v4 v14) .normal (bc v1_0 v1_1 v1_2 v1_3 v1_4 (v4 ++ ([aK w0_7 (⟨#[44]⟩ : ByteArray)])) (inc v14)) := K3 [.b true, .val (.int .i64 4), rF, .val (.int .i64 (v1_4.length : Int)), .lp (.exit 2) (et v1_0 v1_1 v1_2 v1_3 v1_4 v4 v14 w0_7), .ret [(false, [tS (aK w0_7 (⟨#[44]⟩ : ByteArray))])], .rows ((v4 ++ ([aK w0_7 (⟨#[44]⟩ : ByteArray)])).map etS)] _ (fun k => by kernel_rfl) (AC h0 <| AC h5 <| AD (Ld (fL v1_4 v14) h6) <| ALn v1_4 etI <| AL h7 <| AV (ψ := fun k => E.C k 61 [.one (.s .far () 1 (((w0_7.map etS).drop 0).take (w0_7.map etS).length)), .one (tS (⟨#[44]⟩ : ByteArray))] = some [(false, [tS (aK w0_7 (⟨#[44]⟩ : ByteArray))])]) (Lc (by simp only [List.take_length, List.drop_zero]) (d3 w0_7 (⟨#[44]⟩ : ByteArray) h8)) <| AAp etS (fun _ => rfl) h9 <| AN); exact (ih (v4 ++ ([aK w0_7 (⟨#[44]⟩ : ByteArray)])) (inc v14)).mono fun y hy => by cases y <;> exact K6 r hy
  ·exact K5 (K7 (show cE (bc v1_0 v1_1 v1_2 v1_3 v1_4 v4 v14) (.exit 0) (mr v4) from K3 [.b false] _ (fun k => by kernel_rfl) (AC h0 <| AN)) (by intro h; cases h))
noncomputable def ms (x0 : GCron) : Option (ByteArray × Bool) :=
  if ao.sm x0 then cond (gF x0)
   ((aM x0.f0 x0.f1 x0.f2 x0.f3 x0.f4 9223372036854775808 ([]) (0 : Int)).bind fun y => match y with
    | .x0 w0_4 => (if w0_4.length ≤ 140737488355328 ∧ (aK w0_4 (⟨#[32]⟩ : ByteArray)).size ≤ 140737488355328 then some (aK w0_4 (⟨#[32]⟩ : ByteArray), true) else none))
   (some (ByteArray.empty, false)) else none
theorem BH (x0 : GCron) : Ans (ms x0) (fun r => Does E 69 [.agg (GCron.t .far x0)] [(false, [tS r.1]), (false, [tB r.2])]) := by
 unfold ms
 refine La (fun h0 => ?_)
 refine K8 (fun h1 => ?_) (fun h1 => ?_)
 ·refine K9 (fun y hy => ?_)
  replace hy := zY x0.f0 x0.f1 x0.f2 x0.f3 x0.f4 9223372036854775808 ([]) (0 : Int) y hy
  cases y with
  | x0 w0_4 =>
   have h2 := hy
   refine La (fun h3 => ?_)
   exact K5 (K4 (fn := Tryz.f69) [rT, .lp (.exit 0) (mr w0_4), .ret [(false, [tS (aK w0_4 (⟨#[32]⟩ : ByteArray))])]] _ rfl (fun _ => rfl) (fun k => by kernel_rfl) (AD (Ld (wN x0 h0) h1) <| AL h2 <| AV (ψ := fun k => E.C k 61 [.one (.s .far () 1 (((w0_4.map etS).drop 0).take (w0_4.map etS).length)), .one (tS (⟨#[32]⟩ : ByteArray))] = some [(false, [tS (aK w0_4 (⟨#[32]⟩ : ByteArray))])]) (Lc (by simp only [List.take_length, List.drop_zero]) (d3 w0_4 (⟨#[32]⟩ : ByteArray) h3)) <| AN))
 ·exact K5 (K4 (fn := Tryz.f69) [rF] _ rfl (fun _ => rfl) (fun k => by kernel_rfl) (AD (Ld (wN x0 h0) h1) <| AN))
theorem zD {a b : Int} : ∀ {l : List Int} {p : Option Int}, jf a b l p = true → l.Pairwise (· < ·) ∧ ∀ y, p = some y → ∀ x ∈ l, y < x
 | [], p, _ => ⟨by simp, fun y _ x hx => by cases hx⟩
 | z :: l, p, h => by
  unfold jf at h
  simp only [Bool.and_eq_true] at h
  obtain ⟨h1, h2⟩ := zD h.2
  have h3 := h2 z rfl
  refine ⟨List.pairwise_cons.2 ⟨h3, h1⟩, fun y e x hx => ?_⟩
  subst e
  have h4 : y < z := by simpa using h.1.2
  rcases List.mem_cons.1 hx with rfl | hx
  ·exact h4
  ·have := h3 x hx; omega
theorem Cv {a b : Int} : ∀ {l : List Int} {p : Option Int}, jf a b l p = true → ∀ x ∈ l, a ≤ x ∧ x ≤ b
 | [], _, _, x, hx => by cases hx
 | y :: l, p, h, x, hx => by
  unfold jf at h
  simp only [Bool.and_eq_true] at h
  rcases List.mem_cons.1 hx with rfl | hx
  ·have := h.1.1; unfold aH at this; simpa using this
  ·exact Cv h.2 x hx
theorem zr {l : List Int} {a b : Int} (h : a8 l a b = true) : ∀ x ∈ l, a ≤ x ∧ x ≤ b := by
 unfold a8 at h
 rw [Bool.and_eq_true] at h
 have h := h.1
 exact Cv h
theorem FY {l : List Int} {a b : Int} (h : a8 l a b = true) (hab : a ≤ b + 1) : (l.length : Int) ≤ b + 1 - a := by
 have hi := zr h
 unfold a8 at h
 rw [Bool.and_eq_true] at h
 exact sD a b l a (zD h.1).1 hi hab
theorem wX {c : GCron} (h : gF c = true) : a8 c.f0 0 59 = true ∧ a8 c.f1 0 23 = true ∧ a8 c.f2 1 31 = true ∧ a8 c.f3 1 12 = true ∧ a8 c.f4 0 6 = true := by
 unfold gF at h
 simp only [Bool.and_eq_true] at h
 exact h
theorem fP {l : List Int} {a b : Int} (h : a8 l a b = true) (h0 : 0 ≤ a) (h1 : a ≤ b) (h2 : b ≤ 59) : l.length ≤ 60 ∧ ∀ z ∈ l, 0 ≤ z ∧ z ≤ 59 := by
 have := FY h (by omega)
 exact ⟨by omega, fun z hz => by have := zr h z hz; omega⟩
noncomputable def rW (c : GCron) : ByteArray := ofTx (eQ 32 [tx (aE c.f0 60), tx (aE c.f1 24), tx (aE c.f2 31), tx (aE c.f3 12), tx (aE c.f4 7)])
noncomputable def bg (c : GCron) : ByteArray × Bool := cond (gF c) (rW c, true) (ByteArray.empty, false)
theorem Kb (a b c d e : ByteArray) : ((((((((a ++ ⟨#[32]⟩) ++ b) ++ ⟨#[32]⟩) ++ c) ++ ⟨#[32]⟩) ++ d) ++ ⟨#[32]⟩) ++ e : ByteArray) = ofTx (eQ 32 [tx a, tx b, tx c, tx d, tx e]) := by
 apply lh
 have e32 : tx (⟨#[32]⟩ : ByteArray) = [32] := rfl
 simp [gR, e32, jx, eQ]
theorem JZ (c : GCron) (h : ao.sm c) : mR c = some (bg c) := by
 unfold mR bg
 rw [if_pos h]
 cases q : gF c with
 | false => rfl
 | true =>
  obtain ⟨k0, k1, k2, k3, k4⟩ := wX q
  have a0 := fP k0 (by decide) (by decide) (by decide)
  have a1 := fP k1 (by decide) (by decide) (by decide)
  have a2 := fP k2 (by decide) (by decide) (by decide)
  have a3 := fP k3 (by decide) (by decide) (by decide)
  have a4 := fP k4 (by decide) (by decide) (by decide)
  have z0 := fm a0.1 a0.2 60
  have z1 := fm a1.1 a1.2 24
  have z2 := fm a2.1 a2.2 31
  have z3 := fm a3.1 a3.2 12
  have z4 := fm a4.1 a4.2 7
  have e32 : (⟨#[32]⟩ : ByteArray).size = 1 := rfl
  rw [cond_true, cond_true]
  simp only [if_pos a0.1, if_pos a0.2, if_pos a1.1, if_pos a1.2, if_pos a2.1, if_pos a2.2, if_pos a3.1, if_pos a3.2, if_pos a4.1, if_pos a4.2, ByteArray.size_append, e32, maxStr]
  repeat rw [if_pos (by omega)]
  rw [Kb]
  rfl
theorem IW : ∀ (l : List Int) (i : Nat) (v : List ByteArray), (∀ z ∈ l, 0 ≤ z ∧ z ≤ 59) → v.length + l.length ≤ 1000 → b8 l i v = some (.x2 (v ++ l.map ak))
 | [], i, v, _, _ => by unfold b8; simp
 | x :: l, i, v, h, hl => by
  have hx := h x (by simp)
  simp only [List.length_cons] at hl
  unfold b8
  rw [if_pos (by omega), if_pos (by simp; omega), IW l (i + 1) _ (fun z hz => h z (by simp [hz])) (by simp; omega)]
  simp
theorem oj (l : List Int) (hl : l.length ≤ 60) (hm : ∀ z ∈ l, 0 ≤ z ∧ z ≤ 59) (v : List ByteArray) (hv : v.length ≤ 10) (b : Bool) (n : Int) (hb : b = ((l.length : Int) == n)) (K : List ByteArray → Option oo) :
  cond b
    (if (v.length + ([(⟨#[42]⟩ : ByteArray)]).length) * 16 ≤ 140737488355328 ∧ v.length + ([(⟨#[42]⟩ : ByteArray)]).length ≤ 4611686018427387904 then K (v ++ ([(⟨#[42]⟩ : ByteArray)])) else none)
    (if l.length ≤ 9223372036854775807 then (b8 l 0 ([])).bind fun y => match y with
     | .x2 w0_7 => (if w0_7.length ≤ 140737488355328 ∧ (aK w0_7 (⟨#[44]⟩ : ByteArray)).size ≤ 140737488355328 then if (v.length + ([aK w0_7 (⟨#[44]⟩ : ByteArray)]).length) * 16 ≤ 140737488355328 ∧ v.length + ([aK w0_7 (⟨#[44]⟩ : ByteArray)]).length ≤ 4611686018427387904 then K (v ++ ([aK w0_7 (⟨#[44]⟩ : ByteArray)])) else none else none) else none) = K (v ++ [aE l n]) := by
 subst hb
 have hj : aK (l.map ak) ⟨#[44]⟩ = ofTx (eQ 44 (l.map fun x => tx (ak x))) := by
  have e : l.map ak = (l.map fun x => tx (ak x)).map ofTx := by rw [List.map_map]; rfl
  rw [e, ox]
 unfold aE
 have hz := fm hl hm n
 unfold aE at hz
 cases q : (l.length : Int) == n with
 | true => rw [cond_true, if_pos (by simp; omega), cond_true]
 | false =>
  rw [q, cond_false] at hz
  rw [cond_false, cond_false, if_pos (by omega), IW l 0 [] hm (by simp; omega), Option.bind_some]
  simp only [List.nil_append]
  rw [hj, if_pos (by rw [List.length_map]; omega), if_pos (by simp; omega)]
theorem JY (c : GCron) (h : ao.sm c) : ms c = some (bg c) := by
 unfold ms bg
 rw [if_pos h]
 cases q : gF c with
 | false => rfl
 | true =>
  obtain ⟨k0, k1, k2, k3, k4⟩ := wX q
  have a0 := fP k0 (by decide) (by decide) (by decide)
  have a1 := fP k1 (by decide) (by decide) (by decide)
  have a2 := fP k2 (by decide) (by decide) (by decide)
  have a3 := fP k3 (by decide) (by decide) (by decide)
  have a4 := fP k4 (by decide) (by decide) (by decide)
  have z0 := fm a0.1 a0.2 60
  have z1 := fm a1.1 a1.2 24
  have z2 := fm a2.1 a2.2 31
  have z3 := fm a3.1 a3.2 12
  have z4 := fm a4.1 a4.2 7
  have s0 : ∀ n, aM c.f0 c.f1 c.f2 c.f3 c.f4 (n + 1) [] 0 = aM c.f0 c.f1 c.f2 c.f3 c.f4 n ([] ++ [aE c.f0 60]) 1 := fun n =>
   oj c.f0 a0.1 a0.2 [] (by simp) (mB c.f0 0) 60 rfl fun w => aM c.f0 c.f1 c.f2 c.f3 c.f4 n w 1
  have s1 : ∀ n v, v.length ≤ 10 → aM c.f0 c.f1 c.f2 c.f3 c.f4 (n + 1) v 1 = aM c.f0 c.f1 c.f2 c.f3 c.f4 n (v ++ [aE c.f1 24]) 2 := fun n v hv =>
   oj c.f1 a1.1 a1.2 v hv (mB c.f1 1) 24 rfl fun w => aM c.f0 c.f1 c.f2 c.f3 c.f4 n w 2
  have s2 : ∀ n v, v.length ≤ 10 → aM c.f0 c.f1 c.f2 c.f3 c.f4 (n + 1) v 2 = aM c.f0 c.f1 c.f2 c.f3 c.f4 n (v ++ [aE c.f2 31]) 3 := fun n v hv =>
   oj c.f2 a2.1 a2.2 v hv (mB c.f2 2) 31 rfl fun w => aM c.f0 c.f1 c.f2 c.f3 c.f4 n w 3
  have s3 : ∀ n v, v.length ≤ 10 → aM c.f0 c.f1 c.f2 c.f3 c.f4 (n + 1) v 3 = aM c.f0 c.f1 c.f2 c.f3 c.f4 n (v ++ [aE c.f3 12]) 4 := fun n v hv =>
   oj c.f3 a3.1 a3.2 v hv (mB c.f3 3) 12 rfl fun w => aM c.f0 c.f1 c.f2 c.f3 c.f4 n w 4
  have s4 : ∀ n v, v.length ≤ 10 → aM c.f0 c.f1 c.f2 c.f3 c.f4 (n + 1) v 4 = aM c.f0 c.f1 c.f2 c.f3 c.f4 n (v ++ [aE c.f4 7]) 5 := fun n v hv =>
   oj c.f4 a4.1 a4.2 v hv (mB c.f4 4) 7 rfl fun w => aM c.f0 c.f1 c.f2 c.f3 c.f4 n w 5
  have s5 : ∀ n v, aM c.f0 c.f1 c.f2 c.f3 c.f4 (n + 1) v 5 = some (.x0 v) := fun n v => rfl
  have st : aM c.f0 c.f1 c.f2 c.f3 c.f4 (9223372036854775802 + 6) [] 0 = _ := s0 _
  rw [s1 _ _ (by simp), s2 _ _ (by simp), s3 _ _ (by simp), s4 _ _ (by simp), s5] at st
  simp only [List.nil_append, List.cons_append] at st
  rw [cond_true, cond_true]
  refine (congrArg (Option.bind · _) st).trans ?_
  rw [Option.bind_some]
  have ej : aK [aE c.f0 60, aE c.f1 24, aE c.f2 31, aE c.f3 12, aE c.f4 7] ⟨#[32]⟩ = rW c := ox [tx (aE c.f0 60), tx (aE c.f1 24), tx (aE c.f2 31), tx (aE c.f3 12), tx (aE c.f4 7)] 32
  have el : (rW c).size ≤ 2000 := by
   unfold rW
   rw [l9]
   have := qE 32 200 [tx (aE c.f0 60), tx (aE c.f1 24), tx (aE c.f2 31), tx (aE c.f3 12), tx (aE c.f4 7)] (fun x hx => by
    simp only [List.mem_cons, List.not_mem_nil, or_false] at hx
    rcases hx with rfl | rfl | rfl | rfl | rfl <;> rw [← bM] <;> assumption)
   simp only [List.length_cons, List.length_nil] at this
   omega
  show (if _ then _ else none) = _
  rw [ej, if_pos ⟨by simp, by omega⟩]
theorem ep (x0 : GCron) (h : ao.sm x0) : Does E 56 [.agg (GCron.t .far x0)] [(false, [tS ((bg x0).1)]), (false, [tB ((bg x0).2)])] := by
 exact Cz x0 _ (JZ x0 h)
theorem tF (x0 : GCron) (h : ao.sm x0) : Does E 69 [.agg (GCron.t .far x0)] [(false, [tS ((bg x0).1)]), (false, [tB ((bg x0).2)])] := by
 exact BH x0 _ (JY x0 h)
end Go.Proofs.YtjfbofdmjihglaaGreatDoor.Am
