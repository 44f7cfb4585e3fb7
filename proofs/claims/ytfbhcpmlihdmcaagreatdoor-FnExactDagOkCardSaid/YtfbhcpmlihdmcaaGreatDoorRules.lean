/- Rules. -/
import Derived.Test.YtfbhcpmlihdmcaaGreatDoorWords
namespace Go.Proofs.YtfbhcpmlihdmcaaGreatDoor.Am
open Go Go.Proofs Classical
set_option maxRecDepth 100000
set_option linter.unusedVariables false
set_option linter.unusedSimpArgs false
inductive oB where
 | ret (v2_0 v2_1 v2_2 v2_3 v2_4 : List Int) (v3 : Bool)
 | x0 
def eO (v2_0 v2_1 v2_2 v2_3 v2_4 v6_0 v6_1 v6_2 v6_3 v6_4 : List Int) (v7 : List Bool) (v8 : Int) : US := stL 85 [(2, .box () [.s .own () 1 (v2_0.map etI), .s .own () 1 (v2_1.map etI), .s .own () 1 (v2_2.map etI), .s .own () 1 (v2_3.map etI), .s .own () 1 (v2_4.map etI)]), (6, .box () [.s .own () 1 (v6_0.map etI), .s .own () 1 (v6_1.map etI), .s .own () 1 (v6_2.map etI), .s .own () 1 (v6_3.map etI), .s .own () 1 (v6_4.map etI)]), (7, .one (.s .own () 1 (v7.map etB))), (8, .one (tI v8))]
def jm (zv2_0 zv2_1 zv2_2 zv2_3 zv2_4 : List Int) (zv3 : Bool) : US := stL 85 [(2, .box () [.s .own () 1 (zv2_0.map etI), .s .own () 1 (zv2_1.map etI), .s .own () 1 (zv2_2.map etI), .s .own () 1 (zv2_3.map etI), .s .own () 1 (zv2_4.map etI)]), (3, .one (tB zv3))]
def jS (v2_0 v2_1 v2_2 v2_3 v2_4 v6_0 v6_1 v6_2 v6_3 v6_4 : List Int) : US := stL 85 [(2, .box () [.s .own () 1 (v2_0.map etI), .s .own () 1 (v2_1.map etI), .s .own () 1 (v2_2.map etI), .s .own () 1 (v2_3.map etI), .s .own () 1 (v2_4.map etI)]), (6, .box () [.s .own () 1 (v6_0.map etI), .s .own () 1 (v6_1.map etI), .s .own () 1 (v6_2.map etI), .s .own () 1 (v6_3.map etI), .s .own () 1 (v6_4.map etI)])]
abbrev lj : US → Exit → US → Prop := Round E 10 (aB Tryz.f10 0)
def wP (v2_0 v2_1 v2_2 v2_3 v2_4 v6_0 v6_1 v6_2 v6_3 v6_4 : List Int) (v7 : List Bool) (v8 : Int) : oB → Prop
 | .ret zv2_0 zv2_1 zv2_2 zv2_3 zv2_4 zv3 => Loops E 10 (aB Tryz.f10 0) (eO v2_0 v2_1 v2_2 v2_3 v2_4 v6_0 v6_1 v6_2 v6_3 v6_4 v7 v8) .ret (jm zv2_0 zv2_1 zv2_2 zv2_3 zv2_4 zv3)
 | .x0 => Loops E 10 (aB Tryz.f10 0) (eO v2_0 v2_1 v2_2 v2_3 v2_4 v6_0 v6_1 v6_2 v6_3 v6_4 v7 v8) (.exit 0) (jS v2_0 v2_1 v2_2 v2_3 v2_4 v6_0 v6_1 v6_2 v6_3 v6_4)
theorem tJ (v2_0 v2_1 v2_2 v2_3 v2_4 v6_0 v6_1 v6_2 v6_3 v6_4 : List Int) (v7 : List Bool) (v8 : Int) (g0 : Bool) (h0 : (decide (v8 < (5 : Int))) = true) (h1 : am v7 v8 = some g0) (h2 : g0 = true) : lj (eO v2_0 v2_1 v2_2 v2_3 v2_4 v6_0 v6_1 v6_2 v6_3 v6_4 v7 v8) .normal (eO v2_0 v2_1 v2_2 v2_3 v2_4 v6_0 v6_1 v6_2 v6_3 v6_4 v7 (inc v8)) :=
 IV [.b true, .row ([tB true])] _ (fun k => by kernel_rfl) (AC h0 <| AC (p := 0 ≤ v8 ∧ v8 < ((v7.map etB).length : Int)) (aF h1) <| AC (p := (v7.map etB)[0 + v8.toNat]? = some ([tB true])) ((au h1).trans (congrArg some (show [tB g0] = [tB true] by rw [h2]))) <| AN)
theorem tK (v2_0 v2_1 v2_2 v2_3 v2_4 v6_0 v6_1 v6_2 v6_3 v6_4 : List Int) (v7 : List Bool) (v8 : Int) (g0 : Bool) (h0 : (decide (v8 < (5 : Int))) = true) (h1 : am v7 v8 = some g0) (h2 : g0 = false) : lj (eO v2_0 v2_1 v2_2 v2_3 v2_4 v6_0 v6_1 v6_2 v6_3 v6_4 v7 v8) .ret (jm ([]) ([]) ([]) ([]) ([]) false) :=
 IV [.b true, .row ([tB false])] _ (fun k => by kernel_rfl) (AC h0 <| AC (p := 0 ≤ v8 ∧ v8 < ((v7.map etB).length : Int)) (aF h1) <| AC (p := (v7.map etB)[0 + v8.toNat]? = some ([tB false])) ((au h1).trans (congrArg some (show [tB g0] = [tB false] by rw [h2]))) <| AN)
theorem tL (v2_0 v2_1 v2_2 v2_3 v2_4 v6_0 v6_1 v6_2 v6_3 v6_4 : List Int) (v7 : List Bool) (v8 : Int) (h0 : (decide (v8 < (5 : Int))) = false) : lj (eO v2_0 v2_1 v2_2 v2_3 v2_4 v6_0 v6_1 v6_2 v6_3 v6_4 v7 v8) (.exit 0) (jS v2_0 v2_1 v2_2 v2_3 v2_4 v6_0 v6_1 v6_2 v6_3 v6_4) :=
 IV [.b false] _ (fun k => by kernel_rfl) (AC h0 <| AN)
noncomputable def eP (v7 : List Bool) : Nat → Int → Option oB
 | 0, _ => none
 | n + 1, v8 => cond (decide (v8 < (5 : Int)))
  ((am v7 v8).bind fun g0 => cond (g0)
   (eP v7 n (inc v8))
   (some (.ret ([]) ([]) ([]) ([]) ([]) false)))
  (some (.x0))
theorem wO (v2_0 v2_1 v2_2 v2_3 v2_4 v6_0 v6_1 v6_2 v6_3 v6_4 : List Int) (v7 : List Bool) (n : Nat) : ∀ (v8 : Int), Ans (eP v7 n v8) (wP v2_0 v2_1 v2_2 v2_3 v2_4 v6_0 v6_1 v6_2 v6_3 v6_4 v7 v8) := by
 induction n with
 | zero => intros; exact Ans.none
 | succ n ih =>
  intro v8
  unfold eP
  refine I3 (fun h0 => ?_) (fun h0 => ?_)
  ·refine I4 (fun g0 h1 => ?_)
   refine I3 (fun h2 => ?_) (fun h2 => ?_)
   ·exact (ih (inc v8)).mono fun y hy => by cases y <;> exact IY (tJ v2_0 v2_1 v2_2 v2_3 v2_4 v6_0 v6_1 v6_2 v6_3 v6_4 v7 v8 g0 h0 h1 h2) hy
   ·exact IX (IZ (tK v2_0 v2_1 v2_2 v2_3 v2_4 v6_0 v6_1 v6_2 v6_3 v6_4 v7 v8 g0 h0 h1 h2) (by intro h; cases h))
  ·exact IX (IZ (tL v2_0 v2_1 v2_2 v2_3 v2_4 v6_0 v6_1 v6_2 v6_3 v6_4 v7 v8 h0) (by intro h; cases h))
noncomputable def jF (x0 : ByteArray) : Option (GCron × Bool) :=
  cond ((an x0).2)
   (cond ((((an x0).1).length : Int) != (5 : Int))
    (some ((GCron.mk ([] : List Int) ([] : List Int) ([] : List Int) ([] : List Int) ([] : List Int)), false))
    (if 0 ≤ (5 : Int) ∧ (5 : Int) ≤ (5 : Int) ∧ ((1 : Nat) : Int) * (5 : Int) ≤ 281474976710656 ∧ (5 : Int) ≤ 4611686018427387904 then (am ((an x0).1) (0 : Int)).bind fun g0 => if g0.size ≤ 2000000 then if 0 ≤ (0 : Int) ∧ (0 : Int) ≤ (59 : Int) ∧ (59 : Int) ≤ 59 then (am (List.replicate (5 : Int).toNat false) (0 : Int)).bind fun g1 => (am ((an x0).1) (1 : Int)).bind fun g2 => if g2.size ≤ 2000000 then if 0 ≤ (0 : Int) ∧ (0 : Int) ≤ (23 : Int) ∧ (23 : Int) ≤ 59 then (am ((List.replicate (5 : Int).toNat false).set (0 : Int).toNat ((ac g0 (0 : Int) (59 : Int)).2)) (1 : Int)).bind fun g3 => (am ((an x0).1) (2 : Int)).bind fun g4 => if g4.size ≤ 2000000 then if 0 ≤ (1 : Int) ∧ (1 : Int) ≤ (31 : Int) ∧ (31 : Int) ≤ 59 then (am (((List.replicate (5 : Int).toNat false).set (0 : Int).toNat ((ac g0 (0 : Int) (59 : Int)).2)).set (1 : Int).toNat ((ac g2 (0 : Int) (23 : Int)).2)) (2 : Int)).bind fun g5 => (am ((an x0).1) (3 : Int)).bind fun g6 => if g6.size ≤ 2000000 then if 0 ≤ (1 : Int) ∧ (1 : Int) ≤ (12 : Int) ∧ (12 : Int) ≤ 59 then (am ((((List.replicate (5 : Int).toNat false).set (0 : Int).toNat ((ac g0 (0 : Int) (59 : Int)).2)).set (1 : Int).toNat ((ac g2 (0 : Int) (23 : Int)).2)).set (2 : Int).toNat ((ac g4 (1 : Int) (31 : Int)).2)) (3 : Int)).bind fun g7 => (am ((an x0).1) (4 : Int)).bind fun g8 => if g8.size ≤ 2000000 then if 0 ≤ (0 : Int) ∧ (0 : Int) ≤ (6 : Int) ∧ (6 : Int) ≤ 59 then (am (((((List.replicate (5 : Int).toNat false).set (0 : Int).toNat ((ac g0 (0 : Int) (59 : Int)).2)).set (1 : Int).toNat ((ac g2 (0 : Int) (23 : Int)).2)).set (2 : Int).toNat ((ac g4 (1 : Int) (31 : Int)).2)).set (3 : Int).toNat ((ac g6 (1 : Int) (12 : Int)).2)) (4 : Int)).bind fun g9 => (eP ((((((List.replicate (5 : Int).toNat false).set (0 : Int).toNat ((ac g0 (0 : Int) (59 : Int)).2)).set (1 : Int).toNat ((ac g2 (0 : Int) (23 : Int)).2)).set (2 : Int).toNat ((ac g4 (1 : Int) (31 : Int)).2)).set (3 : Int).toNat ((ac g6 (1 : Int) (12 : Int)).2)).set (4 : Int).toNat ((ac g8 (0 : Int) (6 : Int)).2)) 9223372036854775808 (0 : Int)).bind fun y => match y with
     | .ret w0_2_0 w0_2_1 w0_2_2 w0_2_3 w0_2_4 w0_3 => (some ((GCron.mk w0_2_0 w0_2_1 w0_2_2 w0_2_3 w0_2_4), w0_3))
     | .x0 => (some ((GCron.mk ((ac g0 (0 : Int) (59 : Int)).1) ((ac g2 (0 : Int) (23 : Int)).1) ((ac g4 (1 : Int) (31 : Int)).1) ((ac g6 (1 : Int) (12 : Int)).1) ((ac g8 (0 : Int) (6 : Int)).1)), true)) else none else none else none else none else none else none else none else none else none else none else none))
   (some ((GCron.mk ([] : List Int) ([] : List Int) ([] : List Int) ([] : List Int) ([] : List Int)), false))
theorem yY (x0 : ByteArray) : Ans (jF x0) (fun r => Does E 10 [.one (tS x0)] [(true, GCron.t .own r.1), (false, [tB r.2])]) := by
 unfold jF
 refine I3 (fun h0 => ?_) (fun h0 => ?_)
 ·refine I3 (fun h1 => ?_) (fun h1 => ?_)
  ·exact IX (IW (fn := Tryz.f10) [.ret [(false, [.s .own () 1 (((an x0).1).map etS)]), (false, [tB true])], .val (.int .i64 (((an x0).1).length : Int)), .b true] _ rfl (fun _ => rfl) (fun k => by kernel_rfl) (AD (I6 (rs' := [(false, [.s .own () 1 (((an x0).1).map etS)]), (false, [tB true])]) (lv x0) (by rw [h0])) <| AC (p := ((((an x0).1).map etS).length : Int) = (((an x0).1).length : Int)) ag <| AC h1 <| AN))
  ·refine I5 (fun h2 => ?_)
   refine I4 (fun g0 h3 => ?_)
   refine I5 (fun h4 => ?_)
   refine I5 (fun h5 => ?_)
   refine I4 (fun g1 h6 => ?_)
   refine I4 (fun g2 h7 => ?_)
   refine I5 (fun h8 => ?_)
   refine I5 (fun h9 => ?_)
   refine I4 (fun g3 h10 => ?_)
   refine I4 (fun g4 h11 => ?_)
   refine I5 (fun h12 => ?_)
   refine I5 (fun h13 => ?_)
   refine I4 (fun g5 h14 => ?_)
   refine I4 (fun g6 h15 => ?_)
   refine I5 (fun h16 => ?_)
   refine I5 (fun h17 => ?_)
   refine I4 (fun g7 h18 => ?_)
   refine I4 (fun g8 h19 => ?_)
   refine I5 (fun h20 => ?_)
   refine I5 (fun h21 => ?_)
   refine I4 (fun g9 h22 => ?_)
   refine I4 (fun y hy => ?_)
   replace hy := wO ([]) ([]) ([]) ([]) ([]) ((ac g0 (0 : Int) (59 : Int)).1) ((ac g2 (0 : Int) (23 : Int)).1) ((ac g4 (1 : Int) (31 : Int)).1) ((ac g6 (1 : Int) (12 : Int)).1) ((ac g8 (0 : Int) (6 : Int)).1) ((((((List.replicate (5 : Int).toNat false).set (0 : Int).toNat ((ac g0 (0 : Int) (59 : Int)).2)).set (1 : Int).toNat ((ac g2 (0 : Int) (23 : Int)).2)).set (2 : Int).toNat ((ac g4 (1 : Int) (31 : Int)).2)).set (3 : Int).toNat ((ac g6 (1 : Int) (12 : Int)).2)).set (4 : Int).toNat ((ac g8 (0 : Int) (6 : Int)).2)) 9223372036854775808 (0 : Int) y hy
   cases y with
   | ret w0_2_0 w0_2_1 w0_2_2 w0_2_3 w0_2_4 w0_3 =>
    have h23 := hy
    exact IX (IW (fn := Tryz.f10) [.ret [(false, [.s .own () 1 (((an x0).1).map etS)]), (false, [tB true])], .val (.int .i64 (((an x0).1).length : Int)), .b false, .rows ((List.replicate (5 : Int).toNat false).map etB), .row (etS g0), .ret [(false, [.s .own () 1 (((ac g0 (0 : Int) (59 : Int)).1).map etI)]), (false, [tB ((ac g0 (0 : Int) (59 : Int)).2)])], .row (etB g1), .rows (((List.replicate (5 : Int).toNat false).set (0 : Int).toNat ((ac g0 (0 : Int) (59 : Int)).2)).map etB), .row (etS g2), .ret [(false, [.s .own () 1 (((ac g2 (0 : Int) (23 : Int)).1).map etI)]), (false, [tB ((ac g2 (0 : Int) (23 : Int)).2)])], .row (etB g3), .rows ((((List.replicate (5 : Int).toNat false).set (0 : Int).toNat ((ac g0 (0 : Int) (59 : Int)).2)).set (1 : Int).toNat ((ac g2 (0 : Int) (23 : Int)).2)).map etB), .row (etS g4), .ret [(false, [.s .own () 1 (((ac g4 (1 : Int) (31 : Int)).1).map etI)]), (false, [tB ((ac g4 (1 : Int) (31 : Int)).2)])], .row (etB g5), .rows (((((List.replicate (5 : Int).toNat false).set (0 : Int).toNat ((ac g0 (0 : Int) (59 : Int)).2)).set (1 : Int).toNat ((ac g2 (0 : Int) (23 : Int)).2)).set (2 : Int).toNat ((ac g4 (1 : Int) (31 : Int)).2)).map etB), .row (etS g6), .ret [(false, [.s .own () 1 (((ac g6 (1 : Int) (12 : Int)).1).map etI)]), (false, [tB ((ac g6 (1 : Int) (12 : Int)).2)])], .row (etB g7), .rows ((((((List.replicate (5 : Int).toNat false).set (0 : Int).toNat ((ac g0 (0 : Int) (59 : Int)).2)).set (1 : Int).toNat ((ac g2 (0 : Int) (23 : Int)).2)).set (2 : Int).toNat ((ac g4 (1 : Int) (31 : Int)).2)).set (3 : Int).toNat ((ac g6 (1 : Int) (12 : Int)).2)).map etB), .row (etS g8), .ret [(false, [.s .own () 1 (((ac g8 (0 : Int) (6 : Int)).1).map etI)]), (false, [tB ((ac g8 (0 : Int) (6 : Int)).2)])], .row (etB g9), .rows (((((((List.replicate (5 : Int).toNat false).set (0 : Int).toNat ((ac g0 (0 : Int) (59 : Int)).2)).set (1 : Int).toNat ((ac g2 (0 : Int) (23 : Int)).2)).set (2 : Int).toNat ((ac g4 (1 : Int) (31 : Int)).2)).set (3 : Int).toNat ((ac g6 (1 : Int) (12 : Int)).2)).set (4 : Int).toNat ((ac g8 (0 : Int) (6 : Int)).2)).map etB), .lp .ret (jm w0_2_0 w0_2_1 w0_2_2 w0_2_3 w0_2_4 w0_3)] _ rfl (fun _ => rfl) (fun k => by kernel_rfl) (AD (I6 (rs' := [(false, [.s .own () 1 (((an x0).1).map etS)]), (false, [tB true])]) (lv x0) (by rw [h0])) <| AC (p := ((((an x0).1).map etS).length : Int) = (((an x0).1).length : Int)) ag <| AC h1 <| AC h2 <| AC (p := List.replicate (5 : Int).toNat [tB false] = (List.replicate (5 : Int).toNat false).map etB) (oz rfl) <| AC (p := 0 ≤ (0 : Int) ∧ (0 : Int) < ((((an x0).1).map etS).length : Int)) (aF h3) <| AC (p := (((an x0).1).map etS)[0 + (0 : Int).toNat]? = some (etS g0)) (au h3) <| AD (cW g0 (0 : Int) (59 : Int) h4 h5) <| AC (p := 0 ≤ (0 : Int) ∧ (0 : Int) < (((List.replicate (5 : Int).toNat false).map etB).length : Int)) (aF h6) <| AC (p := ((List.replicate (5 : Int).toNat false).map etB)[0 + (0 : Int).toNat]? = some (etB g1)) (au h6) <| AC (p := ((List.replicate (5 : Int).toNat false).map etB).set (0 + (0 : Int).toNat) (ax (etB g1) 0 [tB ((ac g0 (0 : Int) (59 : Int)).2)]) = ((List.replicate (5 : Int).toNat false).set (0 : Int).toNat ((ac g0 (0 : Int) (59 : Int)).2)).map etB) (fX (by rfl)) <| AC (p := 0 ≤ (1 : Int) ∧ (1 : Int) < ((((an x0).1).map etS).length : Int)) (aF h7) <| AC (p := (((an x0).1).map etS)[0 + (1 : Int).toNat]? = some (etS g2)) (au h7) <| AD (cW g2 (0 : Int) (23 : Int) h8 h9) <| AC (p := 0 ≤ (1 : Int) ∧ (1 : Int) < ((((List.replicate (5 : Int).toNat false).set (0 : Int).toNat ((ac g0 (0 : Int) (59 : Int)).2)).map etB).length : Int)) (aF h10) <| AC (p := (((List.replicate (5 : Int).toNat false).set (0 : Int).toNat ((ac g0 (0 : Int) (59 : Int)).2)).map etB)[0 + (1 : Int).toNat]? = some (etB g3)) (au h10) <| AC (p := (((List.replicate (5 : Int).toNat false).set (0 : Int).toNat ((ac g0 (0 : Int) (59 : Int)).2)).map etB).set (0 + (1 : Int).toNat) (ax (etB g3) 0 [tB ((ac g2 (0 : Int) (23 : Int)).2)]) = (((List.replicate (5 : Int).toNat false).set (0 : Int).toNat ((ac g0 (0 : Int) (59 : Int)).2)).set (1 : Int).toNat ((ac g2 (0 : Int) (23 : Int)).2)).map etB) (fX (by rfl)) <| AC (p := 0 ≤ (2 : Int) ∧ (2 : Int) < ((((an x0).1).map etS).length : Int)) (aF h11) <| AC (p := (((an x0).1).map etS)[0 + (2 : Int).toNat]? = some (etS g4)) (au h11) <| AD (cW g4 (1 : Int) (31 : Int) h12 h13) <| AC (p := 0 ≤ (2 : Int) ∧ (2 : Int) < (((((List.replicate (5 : Int).toNat false).set (0 : Int).toNat ((ac g0 (0 : Int) (59 : Int)).2)).set (1 : Int).toNat ((ac g2 (0 : Int) (23 : Int)).2)).map etB).length : Int)) (aF h14) <| AC (p := ((((List.replicate (5 : Int).toNat false).set (0 : Int).toNat ((ac g0 (0 : Int) (59 : Int)).2)).set (1 : Int).toNat ((ac g2 (0 : Int) (23 : Int)).2)).map etB)[0 + (2 : Int).toNat]? = some (etB g5)) (au h14) <| AC (p := ((((List.replicate (5 : Int).toNat false).set (0 : Int).toNat ((ac g0 (0 : Int) (59 : Int)).2)).set (1 : Int).toNat ((ac g2 (0 : Int) (23 : Int)).2)).map etB).set (0 + (2 : Int).toNat) (ax (etB g5) 0 [tB ((ac g4 (1 : Int) (31 : Int)).2)]) = ((((List.replicate (5 : Int).toNat false).set (0 : Int).toNat ((ac g0 (0 : Int) (59 : Int)).2)).set (1 : Int).toNat ((ac g2 (0 : Int) (23 : Int)).2)).set (2 : Int).toNat ((ac g4 (1 : Int) (31 : Int)).2)).map etB) (fX (by rfl)) <| AC (p := 0 ≤ (3 : Int) ∧ (3 : Int) < ((((an x0).1).map etS).length : Int)) (aF h15) <| AC (p := (((an x0).1).map etS)[0 + (3 : Int).toNat]? = some (etS g6)) (au h15) <| AD (cW g6 (1 : Int) (12 : Int) h16 h17) <| AC (p := 0 ≤ (3 : Int) ∧ (3 : Int) < ((((((List.replicate (5 : Int).toNat false).set (0 : Int).toNat ((ac g0 (0 : Int) (59 : Int)).2)).set (1 : Int).toNat ((ac g2 (0 : Int) (23 : Int)).2)).set (2 : Int).toNat ((ac g4 (1 : Int) (31 : Int)).2)).map etB).length : Int)) (aF h18) <| AC (p := (((((List.replicate (5 : Int).toNat false).set (0 : Int).toNat ((ac g0 (0 : Int) (59 : Int)).2)).set (1 : Int).toNat ((ac g2 (0 : Int) (23 : Int)).2)).set (2 : Int).toNat ((ac g4 (1 : Int) (31 : Int)).2)).map etB)[0 + (3 : Int).toNat]? = some (etB g7)) (au h18) <| AC (p := (((((List.replicate (5 : Int).toNat false).set (0 : Int).toNat ((ac g0 (0 : Int) (59 : Int)).2)).set (1 : Int).toNat ((ac g2 (0 : Int) (23 : Int)).2)).set (2 : Int).toNat ((ac g4 (1 : Int) (31 : Int)).2)).map etB).set (0 + (3 : Int).toNat) (ax (etB g7) 0 [tB ((ac g6 (1 : Int) (12 : Int)).2)]) = (((((List.replicate (5 : Int).toNat false).set (0 : Int).toNat ((ac g0 (0 : Int) (59 : Int)).2)).set (1 : Int).toNat ((ac g2 (0 : Int) (23 : Int)).2)).set (2 : Int).toNat ((ac g4 (1 : Int) (31 : Int)).2)).set (3 : Int).toNat ((ac g6 (1 : Int) (12 : Int)).2)).map etB) (fX (by rfl)) <| AC (p := 0 ≤ (4 : Int) ∧ (4 : Int) < ((((an x0).1).map etS).length : Int)) (aF h19) <| AC (p := (((an x0).1).map etS)[0 + (4 : Int).toNat]? = some (etS g8)) (au h19) <| AD (cW g8 (0 : Int) (6 : Int) h20 h21) <| AC (p := 0 ≤ (4 : Int) ∧ (4 : Int) < (((((((List.replicate (5 : Int).toNat false).set (0 : Int).toNat ((ac g0 (0 : Int) (59 : Int)).2)).set (1 : Int).toNat ((ac g2 (0 : Int) (23 : Int)).2)).set (2 : Int).toNat ((ac g4 (1 : Int) (31 : Int)).2)).set (3 : Int).toNat ((ac g6 (1 : Int) (12 : Int)).2)).map etB).length : Int)) (aF h22) <| AC (p := ((((((List.replicate (5 : Int).toNat false).set (0 : Int).toNat ((ac g0 (0 : Int) (59 : Int)).2)).set (1 : Int).toNat ((ac g2 (0 : Int) (23 : Int)).2)).set (2 : Int).toNat ((ac g4 (1 : Int) (31 : Int)).2)).set (3 : Int).toNat ((ac g6 (1 : Int) (12 : Int)).2)).map etB)[0 + (4 : Int).toNat]? = some (etB g9)) (au h22) <| AC (p := ((((((List.replicate (5 : Int).toNat false).set (0 : Int).toNat ((ac g0 (0 : Int) (59 : Int)).2)).set (1 : Int).toNat ((ac g2 (0 : Int) (23 : Int)).2)).set (2 : Int).toNat ((ac g4 (1 : Int) (31 : Int)).2)).set (3 : Int).toNat ((ac g6 (1 : Int) (12 : Int)).2)).map etB).set (0 + (4 : Int).toNat) (ax (etB g9) 0 [tB ((ac g8 (0 : Int) (6 : Int)).2)]) = ((((((List.replicate (5 : Int).toNat false).set (0 : Int).toNat ((ac g0 (0 : Int) (59 : Int)).2)).set (1 : Int).toNat ((ac g2 (0 : Int) (23 : Int)).2)).set (2 : Int).toNat ((ac g4 (1 : Int) (31 : Int)).2)).set (3 : Int).toNat ((ac g6 (1 : Int) (12 : Int)).2)).set (4 : Int).toNat ((ac g8 (0 : Int) (6 : Int)).2)).map etB) (fX (by rfl)) <| AL h23 <| AN))
   | x0 =>
    have h23 := hy
    exact IX (IW (fn := Tryz.f10) [.ret [(false, [.s .own () 1 (((an x0).1).map etS)]), (false, [tB true])], .val (.int .i64 (((an x0).1).length : Int)), .b false, .rows ((List.replicate (5 : Int).toNat false).map etB), .row (etS g0), .ret [(false, [.s .own () 1 (((ac g0 (0 : Int) (59 : Int)).1).map etI)]), (false, [tB ((ac g0 (0 : Int) (59 : Int)).2)])], .row (etB g1), .rows (((List.replicate (5 : Int).toNat false).set (0 : Int).toNat ((ac g0 (0 : Int) (59 : Int)).2)).map etB), .row (etS g2), .ret [(false, [.s .own () 1 (((ac g2 (0 : Int) (23 : Int)).1).map etI)]), (false, [tB ((ac g2 (0 : Int) (23 : Int)).2)])], .row (etB g3), .rows ((((List.replicate (5 : Int).toNat false).set (0 : Int).toNat ((ac g0 (0 : Int) (59 : Int)).2)).set (1 : Int).toNat ((ac g2 (0 : Int) (23 : Int)).2)).map etB), .row (etS g4), .ret [(false, [.s .own () 1 (((ac g4 (1 : Int) (31 : Int)).1).map etI)]), (false, [tB ((ac g4 (1 : Int) (31 : Int)).2)])], .row (etB g5), .rows (((((List.replicate (5 : Int).toNat false).set (0 : Int).toNat ((ac g0 (0 : Int) (59 : Int)).2)).set (1 : Int).toNat ((ac g2 (0 : Int) (23 : Int)).2)).set (2 : Int).toNat ((ac g4 (1 : Int) (31 : Int)).2)).map etB), .row (etS g6), .ret [(false, [.s .own () 1 (((ac g6 (1 : Int) (12 : Int)).1).map etI)]), (false, [tB ((ac g6 (1 : Int) (12 : Int)).2)])], .row (etB g7), .rows ((((((List.replicate (5 : Int).toNat false).set (0 : Int).toNat ((ac g0 (0 : Int) (59 : Int)).2)).set (1 : Int).toNat ((ac g2 (0 : Int) (23 : Int)).2)).set (2 : Int).toNat ((ac g4 (1 : Int) (31 : Int)).2)).set (3 : Int).toNat ((ac g6 (1 : Int) (12 : Int)).2)).map etB), .row (etS g8), .ret [(false, [.s .own () 1 (((ac g8 (0 : Int) (6 : Int)).1).map etI)]), (false, [tB ((ac g8 (0 : Int) (6 : Int)).2)])], .row (etB g9), .rows (((((((List.replicate (5 : Int).toNat false).set (0 : Int).toNat ((ac g0 (0 : Int) (59 : Int)).2)).set (1 : Int).toNat ((ac g2 (0 : Int) (23 : Int)).2)).set (2 : Int).toNat ((ac g4 (1 : Int) (31 : Int)).2)).set (3 : Int).toNat ((ac g6 (1 : Int) (12 : Int)).2)).set (4 : Int).toNat ((ac g8 (0 : Int) (6 : Int)).2)).map etB), .lp (.exit 0) (jS ([]) ([]) ([]) ([]) ([]) ((ac g0 (0 : Int) (59 : Int)).1) ((ac g2 (0 : Int) (23 : Int)).1) ((ac g4 (1 : Int) (31 : Int)).1) ((ac g6 (1 : Int) (12 : Int)).1) ((ac g8 (0 : Int) (6 : Int)).1))] _ rfl (fun _ => rfl) (fun k => by kernel_rfl) (AD (I6 (rs' := [(false, [.s .own () 1 (((an x0).1).map etS)]), (false, [tB true])]) (lv x0) (by rw [h0])) <| AC (p := ((((an x0).1).map etS).length : Int) = (((an x0).1).length : Int)) ag <| AC h1 <| AC h2 <| AC (p := List.replicate (5 : Int).toNat [tB false] = (List.replicate (5 : Int).toNat false).map etB) (oz rfl) <| AC (p := 0 ≤ (0 : Int) ∧ (0 : Int) < ((((an x0).1).map etS).length : Int)) (aF h3) <| AC (p := (((an x0).1).map etS)[0 + (0 : Int).toNat]? = some (etS g0)) (au h3) <| AD (cW g0 (0 : Int) (59 : Int) h4 h5) <| AC (p := 0 ≤ (0 : Int) ∧ (0 : Int) < (((List.replicate (5 : Int).toNat false).map etB).length : Int)) (aF h6) <| AC (p := ((List.replicate (5 : Int).toNat false).map etB)[0 + (0 : Int).toNat]? = some (etB g1)) (au h6) <| AC (p := ((List.replicate (5 : Int).toNat false).map etB).set (0 + (0 : Int).toNat) (ax (etB g1) 0 [tB ((ac g0 (0 : Int) (59 : Int)).2)]) = ((List.replicate (5 : Int).toNat false).set (0 : Int).toNat ((ac g0 (0 : Int) (59 : Int)).2)).map etB) (fX (by rfl)) <| AC (p := 0 ≤ (1 : Int) ∧ (1 : Int) < ((((an x0).1).map etS).length : Int)) (aF h7) <| AC (p := (((an x0).1).map etS)[0 + (1 : Int).toNat]? = some (etS g2)) (au h7) <| AD (cW g2 (0 : Int) (23 : Int) h8 h9) <| AC (p := 0 ≤ (1 : Int) ∧ (1 : Int) < ((((List.replicate (5 : Int).toNat false).set (0 : Int).toNat ((ac g0 (0 : Int) (59 : Int)).2)).map etB).length : Int)) (aF h10) <| AC (p := (((List.replicate (5 : Int).toNat false).set (0 : Int).toNat ((ac g0 (0 : Int) (59 : Int)).2)).map etB)[0 + (1 : Int).toNat]? = some (etB g3)) (au h10) <| AC (p := (((List.replicate (5 : Int).toNat false).set (0 : Int).toNat ((ac g0 (0 : Int) (59 : Int)).2)).map etB).set (0 + (1 : Int).toNat) (ax (etB g3) 0 [tB ((ac g2 (0 : Int) (23 : Int)).2)]) = (((List.replicate (5 : Int).toNat false).set (0 : Int).toNat ((ac g0 (0 : Int) (59 : Int)).2)).set (1 : Int).toNat ((ac g2 (0 : Int) (23 : Int)).2)).map etB) (fX (by rfl)) <| AC (p := 0 ≤ (2 : Int) ∧ (2 : Int) < ((((an x0).1).map etS).length : Int)) (aF h11) <| AC (p := (((an x0).1).map etS)[0 + (2 : Int).toNat]? = some (etS g4)) (au h11) <| AD (cW g4 (1 : Int) (31 : Int) h12 h13) <| AC (p := 0 ≤ (2 : Int) ∧ (2 : Int) < (((((List.replicate (5 : Int).toNat false).set (0 : Int).toNat ((ac g0 (0 : Int) (59 : Int)).2)).set (1 : Int).toNat ((ac g2 (0 : Int) (23 : Int)).2)).map etB).length : Int)) (aF h14) <| AC (p := ((((List.replicate (5 : Int).toNat false).set (0 : Int).toNat ((ac g0 (0 : Int) (59 : Int)).2)).set (1 : Int).toNat ((ac g2 (0 : Int) (23 : Int)).2)).map etB)[0 + (2 : Int).toNat]? = some (etB g5)) (au h14) <| AC (p := ((((List.replicate (5 : Int).toNat false).set (0 : Int).toNat ((ac g0 (0 : Int) (59 : Int)).2)).set (1 : Int).toNat ((ac g2 (0 : Int) (23 : Int)).2)).map etB).set (0 + (2 : Int).toNat) (ax (etB g5) 0 [tB ((ac g4 (1 : Int) (31 : Int)).2)]) = ((((List.replicate (5 : Int).toNat false).set (0 : Int).toNat ((ac g0 (0 : Int) (59 : Int)).2)).set (1 : Int).toNat ((ac g2 (0 : Int) (23 : Int)).2)).set (2 : Int).toNat ((ac g4 (1 : Int) (31 : Int)).2)).map etB) (fX (by rfl)) <| AC (p := 0 ≤ (3 : Int) ∧ (3 : Int) < ((((an x0).1).map etS).length : Int)) (aF h15) <| AC (p := (((an x0).1).map etS)[0 + (3 : Int).toNat]? = some (etS g6)) (au h15) <| AD (cW g6 (1 : Int) (12 : Int) h16 h17) <| AC (p := 0 ≤ (3 : Int) ∧ (3 : Int) < ((((((List.replicate (5 : Int).toNat false).set (0 : Int).toNat ((ac g0 (0 : Int) (59 : Int)).2)).set (1 : Int).toNat ((ac g2 (0 : Int) (23 : Int)).2)).set (2 : Int).toNat ((ac g4 (1 : Int) (31 : Int)).2)).map etB).length : Int)) (aF h18) <| AC (p := (((((List.replicate (5 : Int).toNat false).set (0 : Int).toNat ((ac g0 (0 : Int) (59 : Int)).2)).set (1 : Int).toNat ((ac g2 (0 : Int) (23 : Int)).2)).set (2 : Int).toNat ((ac g4 (1 : Int) (31 : Int)).2)).map etB)[0 + (3 : Int).toNat]? = some (etB g7)) (au h18) <| AC (p := (((((List.replicate (5 : Int).toNat false).set (0 : Int).toNat ((ac g0 (0 : Int) (59 : Int)).2)).set (1 : Int).toNat ((ac g2 (0 : Int) (23 : Int)).2)).set (2 : Int).toNat ((ac g4 (1 : Int) (31 : Int)).2)).map etB).set (0 + (3 : Int).toNat) (ax (etB g7) 0 [tB ((ac g6 (1 : Int) (12 : Int)).2)]) = (((((List.replicate (5 : Int).toNat false).set (0 : Int).toNat ((ac g0 (0 : Int) (59 : Int)).2)).set (1 : Int).toNat ((ac g2 (0 : Int) (23 : Int)).2)).set (2 : Int).toNat ((ac g4 (1 : Int) (31 : Int)).2)).set (3 : Int).toNat ((ac g6 (1 : Int) (12 : Int)).2)).map etB) (fX (by rfl)) <| AC (p := 0 ≤ (4 : Int) ∧ (4 : Int) < ((((an x0).1).map etS).length : Int)) (aF h19) <| AC (p := (((an x0).1).map etS)[0 + (4 : Int).toNat]? = some (etS g8)) (au h19) <| AD (cW g8 (0 : Int) (6 : Int) h20 h21) <| AC (p := 0 ≤ (4 : Int) ∧ (4 : Int) < (((((((List.replicate (5 : Int).toNat false).set (0 : Int).toNat ((ac g0 (0 : Int) (59 : Int)).2)).set (1 : Int).toNat ((ac g2 (0 : Int) (23 : Int)).2)).set (2 : Int).toNat ((ac g4 (1 : Int) (31 : Int)).2)).set (3 : Int).toNat ((ac g6 (1 : Int) (12 : Int)).2)).map etB).length : Int)) (aF h22) <| AC (p := ((((((List.replicate (5 : Int).toNat false).set (0 : Int).toNat ((ac g0 (0 : Int) (59 : Int)).2)).set (1 : Int).toNat ((ac g2 (0 : Int) (23 : Int)).2)).set (2 : Int).toNat ((ac g4 (1 : Int) (31 : Int)).2)).set (3 : Int).toNat ((ac g6 (1 : Int) (12 : Int)).2)).map etB)[0 + (4 : Int).toNat]? = some (etB g9)) (au h22) <| AC (p := ((((((List.replicate (5 : Int).toNat false).set (0 : Int).toNat ((ac g0 (0 : Int) (59 : Int)).2)).set (1 : Int).toNat ((ac g2 (0 : Int) (23 : Int)).2)).set (2 : Int).toNat ((ac g4 (1 : Int) (31 : Int)).2)).set (3 : Int).toNat ((ac g6 (1 : Int) (12 : Int)).2)).map etB).set (0 + (4 : Int).toNat) (ax (etB g9) 0 [tB ((ac g8 (0 : Int) (6 : Int)).2)]) = ((((((List.replicate (5 : Int).toNat false).set (0 : Int).toNat ((ac g0 (0 : Int) (59 : Int)).2)).set (1 : Int).toNat ((ac g2 (0 : Int) (23 : Int)).2)).set (2 : Int).toNat ((ac g4 (1 : Int) (31 : Int)).2)).set (3 : Int).toNat ((ac g6 (1 : Int) (12 : Int)).2)).set (4 : Int).toNat ((ac g8 (0 : Int) (6 : Int)).2)).map etB) (fX (by rfl)) <| AL h23 <| AN))
 ·exact IX (IW (fn := Tryz.f10) [.ret [(false, [.s .own () 1 (((an x0).1).map etS)]), (false, [tB false])]] _ rfl (fun _ => rfl) (fun k => by kernel_rfl) (AD (I6 (rs' := [(false, [.s .own () 1 (((an x0).1).map etS)]), (false, [tB false])]) (lv x0) (by rw [h0])) <| AN))
inductive om where
 | ret (v2_0 v2_1 v2_2 v2_3 v2_4 : List Int) (v3 : Bool)
 | x0 (v6_0 v6_1 v6_2 v6_3 v6_4 : List Int)
def aW (v2_0 v2_1 v2_2 v2_3 v2_4 : List Int) (v4 : List ByteArray) (v6_0 v6_1 v6_2 v6_3 v6_4 : List Int) (v25 : Int) : US := stL 46 [(2, .box () [.s .own () 1 (v2_0.map etI), .s .own () 1 (v2_1.map etI), .s .own () 1 (v2_2.map etI), .s .own () 1 (v2_3.map etI), .s .own () 1 (v2_4.map etI)]), (4, .one (.s .own () 1 (v4.map etS))), (6, .box () [.s .own () 1 (v6_0.map etI), .s .own () 1 (v6_1.map etI), .s .own () 1 (v6_2.map etI), .s .own () 1 (v6_3.map etI), .s .own () 1 (v6_4.map etI)]), (24, .clo (.arr [0, 1, 2, 3, 4]) [6, 6, 6, 6, 6]), (25, .one (tI v25))]
def cM (zv2_0 zv2_1 zv2_2 zv2_3 zv2_4 : List Int) (zv3 : Bool) : US := stL 46 [(2, .box () [.s .own () 1 (zv2_0.map etI), .s .own () 1 (zv2_1.map etI), .s .own () 1 (zv2_2.map etI), .s .own () 1 (zv2_3.map etI), .s .own () 1 (zv2_4.map etI)]), (3, .one (tB zv3))]
def jN (v2_0 v2_1 v2_2 v2_3 v2_4 zv6_0 zv6_1 zv6_2 zv6_3 zv6_4 : List Int) : US := stL 46 [(2, .box () [.s .own () 1 (v2_0.map etI), .s .own () 1 (v2_1.map etI), .s .own () 1 (v2_2.map etI), .s .own () 1 (v2_3.map etI), .s .own () 1 (v2_4.map etI)]), (6, .box () [.s .own () 1 (zv6_0.map etI), .s .own () 1 (zv6_1.map etI), .s .own () 1 (zv6_2.map etI), .s .own () 1 (zv6_3.map etI), .s .own () 1 (zv6_4.map etI)])]
abbrev ca : US → Exit → US → Prop := Round E 33 (aB Tryz.f33 0)
def wb (v2_0 v2_1 v2_2 v2_3 v2_4 : List Int) (v4 : List ByteArray) (v6_0 v6_1 v6_2 v6_3 v6_4 : List Int) (v25 : Int) : om → Prop
 | .ret zv2_0 zv2_1 zv2_2 zv2_3 zv2_4 zv3 => Loops E 33 (aB Tryz.f33 0) (aW v2_0 v2_1 v2_2 v2_3 v2_4 v4 v6_0 v6_1 v6_2 v6_3 v6_4 v25) .ret (cM zv2_0 zv2_1 zv2_2 zv2_3 zv2_4 zv3)
 | .x0 zv6_0 zv6_1 zv6_2 zv6_3 zv6_4 => Loops E 33 (aB Tryz.f33 0) (aW v2_0 v2_1 v2_2 v2_3 v2_4 v4 v6_0 v6_1 v6_2 v6_3 v6_4 v25) (.exit 0) (jN v2_0 v2_1 v2_2 v2_3 v2_4 zv6_0 zv6_1 zv6_2 zv6_3 zv6_4)
theorem sZ (v2_0 v2_1 v2_2 v2_3 v2_4 : List Int) (v4 : List ByteArray) (v6_0 v6_1 v6_2 v6_3 v6_4 : List Int) (v25 : Int) (g0 : ByteArray) (h0 : (decide (v25 < (5 : Int))) = true) (h1 : (v25 == (0 : Int)) = true) (h2 : am v4 v25 = some g0) (h3 : g0.size ≤ 2000000) (h4 : ((av g0 v25).2) = true) : ca (aW v2_0 v2_1 v2_2 v2_3 v2_4 v4 v6_0 v6_1 v6_2 v6_3 v6_4 v25) .normal (aW v2_0 v2_1 v2_2 v2_3 v2_4 v4 ((av g0 v25).1) v6_1 v6_2 v6_3 v6_4 (inc v25)) :=
 IV [.b true, .val (.int .i64 0), .row (etS g0), .ret [(false, [.s .own () 1 (((av g0 v25).1).map etI)]), (false, [tB true])]] _ (fun k => by kernel_rfl) (AC h0 <| AC (p := v25 = (0 : Int)) (eq_of_beq h1) <| AC (p := 0 ≤ v25 ∧ v25 < ((v4.map etS).length : Int)) (aF h2) <| AC (p := (v4.map etS)[0 + v25.toNat]? = some (etS g0)) (au h2) <| AD (I6 (rs' := [(false, [.s .own () 1 (((av g0 v25).1).map etI)]), (false, [tB true])]) (cl g0 v25 h3) (by rw [h4])) <| AN)
theorem s6 (v2_0 v2_1 v2_2 v2_3 v2_4 : List Int) (v4 : List ByteArray) (v6_0 v6_1 v6_2 v6_3 v6_4 : List Int) (v25 : Int) (g0 : ByteArray) (h0 : (decide (v25 < (5 : Int))) = true) (h1 : (v25 == (0 : Int)) = true) (h2 : am v4 v25 = some g0) (h3 : g0.size ≤ 2000000) (h4 : ((av g0 v25).2) = false) : ca (aW v2_0 v2_1 v2_2 v2_3 v2_4 v4 v6_0 v6_1 v6_2 v6_3 v6_4 v25) .ret (cM ([]) ([]) ([]) ([]) ([]) false) :=
 IV [.b true, .val (.int .i64 0), .row (etS g0), .ret [(false, [.s .own () 1 (((av g0 v25).1).map etI)]), (false, [tB false])]] _ (fun k => by kernel_rfl) (AC h0 <| AC (p := v25 = (0 : Int)) (eq_of_beq h1) <| AC (p := 0 ≤ v25 ∧ v25 < ((v4.map etS).length : Int)) (aF h2) <| AC (p := (v4.map etS)[0 + v25.toNat]? = some (etS g0)) (au h2) <| AD (I6 (rs' := [(false, [.s .own () 1 (((av g0 v25).1).map etI)]), (false, [tB false])]) (cl g0 v25 h3) (by rw [h4])) <| AN)
theorem s7 (v2_0 v2_1 v2_2 v2_3 v2_4 : List Int) (v4 : List ByteArray) (v6_0 v6_1 v6_2 v6_3 v6_4 : List Int) (v25 : Int) (g0 : ByteArray) (h0 : (decide (v25 < (5 : Int))) = true) (h1 : (v25 == (0 : Int)) = false) (h2 : (v25 == (1 : Int)) = true) (h3 : am v4 v25 = some g0) (h4 : g0.size ≤ 2000000) (h5 : ((av g0 v25).2) = true) : ca (aW v2_0 v2_1 v2_2 v2_3 v2_4 v4 v6_0 v6_1 v6_2 v6_3 v6_4 v25) .normal (aW v2_0 v2_1 v2_2 v2_3 v2_4 v4 v6_0 ((av g0 v25).1) v6_2 v6_3 v6_4 (inc v25)) :=
 IV [.b true, .val (.int .i64 1), .row (etS g0), .ret [(false, [.s .own () 1 (((av g0 v25).1).map etI)]), (false, [tB true])]] _ (fun k => by kernel_rfl) (AC h0 <| AC (p := v25 = (1 : Int)) (eq_of_beq h2) <| AC (p := 0 ≤ v25 ∧ v25 < ((v4.map etS).length : Int)) (aF h3) <| AC (p := (v4.map etS)[0 + v25.toNat]? = some (etS g0)) (au h3) <| AD (I6 (rs' := [(false, [.s .own () 1 (((av g0 v25).1).map etI)]), (false, [tB true])]) (cl g0 v25 h4) (by rw [h5])) <| AN)
theorem s8 (v2_0 v2_1 v2_2 v2_3 v2_4 : List Int) (v4 : List ByteArray) (v6_0 v6_1 v6_2 v6_3 v6_4 : List Int) (v25 : Int) (g0 : ByteArray) (h0 : (decide (v25 < (5 : Int))) = true) (h1 : (v25 == (0 : Int)) = false) (h2 : (v25 == (1 : Int)) = true) (h3 : am v4 v25 = some g0) (h4 : g0.size ≤ 2000000) (h5 : ((av g0 v25).2) = false) : ca (aW v2_0 v2_1 v2_2 v2_3 v2_4 v4 v6_0 v6_1 v6_2 v6_3 v6_4 v25) .ret (cM ([]) ([]) ([]) ([]) ([]) false) :=
 IV [.b true, .val (.int .i64 1), .row (etS g0), .ret [(false, [.s .own () 1 (((av g0 v25).1).map etI)]), (false, [tB false])]] _ (fun k => by kernel_rfl) (AC h0 <| AC (p := v25 = (1 : Int)) (eq_of_beq h2) <| AC (p := 0 ≤ v25 ∧ v25 < ((v4.map etS).length : Int)) (aF h3) <| AC (p := (v4.map etS)[0 + v25.toNat]? = some (etS g0)) (au h3) <| AD (I6 (rs' := [(false, [.s .own () 1 (((av g0 v25).1).map etI)]), (false, [tB false])]) (cl g0 v25 h4) (by rw [h5])) <| AN)
theorem s9 (v2_0 v2_1 v2_2 v2_3 v2_4 : List Int) (v4 : List ByteArray) (v6_0 v6_1 v6_2 v6_3 v6_4 : List Int) (v25 : Int) (g0 : ByteArray) (h0 : (decide (v25 < (5 : Int))) = true) (h1 : (v25 == (0 : Int)) = false) (h2 : (v25 == (1 : Int)) = false) (h3 : (v25 == (2 : Int)) = true) (h4 : am v4 v25 = some g0) (h5 : g0.size ≤ 2000000) (h6 : ((av g0 v25).2) = true) : ca (aW v2_0 v2_1 v2_2 v2_3 v2_4 v4 v6_0 v6_1 v6_2 v6_3 v6_4 v25) .normal (aW v2_0 v2_1 v2_2 v2_3 v2_4 v4 v6_0 v6_1 ((av g0 v25).1) v6_3 v6_4 (inc v25)) :=
 IV [.b true, .val (.int .i64 2), .row (etS g0), .ret [(false, [.s .own () 1 (((av g0 v25).1).map etI)]), (false, [tB true])]] _ (fun k => by kernel_rfl) (AC h0 <| AC (p := v25 = (2 : Int)) (eq_of_beq h3) <| AC (p := 0 ≤ v25 ∧ v25 < ((v4.map etS).length : Int)) (aF h4) <| AC (p := (v4.map etS)[0 + v25.toNat]? = some (etS g0)) (au h4) <| AD (I6 (rs' := [(false, [.s .own () 1 (((av g0 v25).1).map etI)]), (false, [tB true])]) (cl g0 v25 h5) (by rw [h6])) <| AN)
theorem ta (v2_0 v2_1 v2_2 v2_3 v2_4 : List Int) (v4 : List ByteArray) (v6_0 v6_1 v6_2 v6_3 v6_4 : List Int) (v25 : Int) (g0 : ByteArray) (h0 : (decide (v25 < (5 : Int))) = true) (h1 : (v25 == (0 : Int)) = false) (h2 : (v25 == (1 : Int)) = false) (h3 : (v25 == (2 : Int)) = true) (h4 : am v4 v25 = some g0) (h5 : g0.size ≤ 2000000) (h6 : ((av g0 v25).2) = false) : ca (aW v2_0 v2_1 v2_2 v2_3 v2_4 v4 v6_0 v6_1 v6_2 v6_3 v6_4 v25) .ret (cM ([]) ([]) ([]) ([]) ([]) false) :=
 IV [.b true, .val (.int .i64 2), .row (etS g0), .ret [(false, [.s .own () 1 (((av g0 v25).1).map etI)]), (false, [tB false])]] _ (fun k => by kernel_rfl) (AC h0 <| AC (p := v25 = (2 : Int)) (eq_of_beq h3) <| AC (p := 0 ≤ v25 ∧ v25 < ((v4.map etS).length : Int)) (aF h4) <| AC (p := (v4.map etS)[0 + v25.toNat]? = some (etS g0)) (au h4) <| AD (I6 (rs' := [(false, [.s .own () 1 (((av g0 v25).1).map etI)]), (false, [tB false])]) (cl g0 v25 h5) (by rw [h6])) <| AN)
theorem tb (v2_0 v2_1 v2_2 v2_3 v2_4 : List Int) (v4 : List ByteArray) (v6_0 v6_1 v6_2 v6_3 v6_4 : List Int) (v25 : Int) (g0 : ByteArray) (h0 : (decide (v25 < (5 : Int))) = true) (h1 : (v25 == (0 : Int)) = false) (h2 : (v25 == (1 : Int)) = false) (h3 : (v25 == (2 : Int)) = false) (h4 : (v25 == (3 : Int)) = true) (h5 : am v4 v25 = some g0) (h6 : g0.size ≤ 2000000) (h7 : ((av g0 v25).2) = true) : ca (aW v2_0 v2_1 v2_2 v2_3 v2_4 v4 v6_0 v6_1 v6_2 v6_3 v6_4 v25) .normal (aW v2_0 v2_1 v2_2 v2_3 v2_4 v4 v6_0 v6_1 v6_2 ((av g0 v25).1) v6_4 (inc v25)) :=
 IV [.b true, .val (.int .i64 3), .row (etS g0), .ret [(false, [.s .own () 1 (((av g0 v25).1).map etI)]), (false, [tB true])]] _ (fun k => by kernel_rfl) (AC h0 <| AC (p := v25 = (3 : Int)) (eq_of_beq h4) <| AC (p := 0 ≤ v25 ∧ v25 < ((v4.map etS).length : Int)) (aF h5) <| AC (p := (v4.map etS)[0 + v25.toNat]? = some (etS g0)) (au h5) <| AD (I6 (rs' := [(false, [.s .own () 1 (((av g0 v25).1).map etI)]), (false, [tB true])]) (cl g0 v25 h6) (by rw [h7])) <| AN)
theorem tc (v2_0 v2_1 v2_2 v2_3 v2_4 : List Int) (v4 : List ByteArray) (v6_0 v6_1 v6_2 v6_3 v6_4 : List Int) (v25 : Int) (g0 : ByteArray) (h0 : (decide (v25 < (5 : Int))) = true) (h1 : (v25 == (0 : Int)) = false) (h2 : (v25 == (1 : Int)) = false) (h3 : (v25 == (2 : Int)) = false) (h4 : (v25 == (3 : Int)) = true) (h5 : am v4 v25 = some g0) (h6 : g0.size ≤ 2000000) (h7 : ((av g0 v25).2) = false) : ca (aW v2_0 v2_1 v2_2 v2_3 v2_4 v4 v6_0 v6_1 v6_2 v6_3 v6_4 v25) .ret (cM ([]) ([]) ([]) ([]) ([]) false) :=
 IV [.b true, .val (.int .i64 3), .row (etS g0), .ret [(false, [.s .own () 1 (((av g0 v25).1).map etI)]), (false, [tB false])]] _ (fun k => by kernel_rfl) (AC h0 <| AC (p := v25 = (3 : Int)) (eq_of_beq h4) <| AC (p := 0 ≤ v25 ∧ v25 < ((v4.map etS).length : Int)) (aF h5) <| AC (p := (v4.map etS)[0 + v25.toNat]? = some (etS g0)) (au h5) <| AD (I6 (rs' := [(false, [.s .own () 1 (((av g0 v25).1).map etI)]), (false, [tB false])]) (cl g0 v25 h6) (by rw [h7])) <| AN)
theorem tf (v2_0 v2_1 v2_2 v2_3 v2_4 : List Int) (v4 : List ByteArray) (v6_0 v6_1 v6_2 v6_3 v6_4 : List Int) (v25 : Int) (g0 : ByteArray) (h0 : (decide (v25 < (5 : Int))) = true) (h1 : (v25 == (0 : Int)) = false) (h2 : (v25 == (1 : Int)) = false) (h3 : (v25 == (2 : Int)) = false) (h4 : (v25 == (3 : Int)) = false) (h5 : v25 = (4 : Int)) (h6 : am v4 v25 = some g0) (h7 : g0.size ≤ 2000000) (h8 : ((av g0 v25).2) = true) : ca (aW v2_0 v2_1 v2_2 v2_3 v2_4 v4 v6_0 v6_1 v6_2 v6_3 v6_4 v25) .normal (aW v2_0 v2_1 v2_2 v2_3 v2_4 v4 v6_0 v6_1 v6_2 v6_3 ((av g0 v25).1) (inc v25)) :=
 IV [.b true, .val (.int .i64 4), .row (etS g0), .ret [(false, [.s .own () 1 (((av g0 v25).1).map etI)]), (false, [tB true])]] _ (fun k => by kernel_rfl) (AC h0 <| AC h5 <| AC (p := 0 ≤ v25 ∧ v25 < ((v4.map etS).length : Int)) (aF h6) <| AC (p := (v4.map etS)[0 + v25.toNat]? = some (etS g0)) (au h6) <| AD (I6 (rs' := [(false, [.s .own () 1 (((av g0 v25).1).map etI)]), (false, [tB true])]) (cl g0 v25 h7) (by rw [h8])) <| AN)
theorem tg (v2_0 v2_1 v2_2 v2_3 v2_4 : List Int) (v4 : List ByteArray) (v6_0 v6_1 v6_2 v6_3 v6_4 : List Int) (v25 : Int) (g0 : ByteArray) (h0 : (decide (v25 < (5 : Int))) = true) (h1 : (v25 == (0 : Int)) = false) (h2 : (v25 == (1 : Int)) = false) (h3 : (v25 == (2 : Int)) = false) (h4 : (v25 == (3 : Int)) = false) (h5 : v25 = (4 : Int)) (h6 : am v4 v25 = some g0) (h7 : g0.size ≤ 2000000) (h8 : ((av g0 v25).2) = false) : ca (aW v2_0 v2_1 v2_2 v2_3 v2_4 v4 v6_0 v6_1 v6_2 v6_3 v6_4 v25) .ret (cM ([]) ([]) ([]) ([]) ([]) false) :=
 IV [.b true, .val (.int .i64 4), .row (etS g0), .ret [(false, [.s .own () 1 (((av g0 v25).1).map etI)]), (false, [tB false])]] _ (fun k => by kernel_rfl) (AC h0 <| AC h5 <| AC (p := 0 ≤ v25 ∧ v25 < ((v4.map etS).length : Int)) (aF h6) <| AC (p := (v4.map etS)[0 + v25.toNat]? = some (etS g0)) (au h6) <| AD (I6 (rs' := [(false, [.s .own () 1 (((av g0 v25).1).map etI)]), (false, [tB false])]) (cl g0 v25 h7) (by rw [h8])) <| AN)
theorem rN (v2_0 v2_1 v2_2 v2_3 v2_4 : List Int) (v4 : List ByteArray) (v6_0 v6_1 v6_2 v6_3 v6_4 : List Int) (v25 : Int) (h0 : (decide (v25 < (5 : Int))) = false) : ca (aW v2_0 v2_1 v2_2 v2_3 v2_4 v4 v6_0 v6_1 v6_2 v6_3 v6_4 v25) (.exit 0) (jN v2_0 v2_1 v2_2 v2_3 v2_4 v6_0 v6_1 v6_2 v6_3 v6_4) :=
 IV [.b false] _ (fun k => by kernel_rfl) (AC h0 <| AN)
noncomputable def aG (v4 : List ByteArray) : Nat → (List Int) → (List Int) → (List Int) → (List Int) → (List Int) → Int → Option om
 | 0, _, _, _, _, _, _ => none
 | n + 1, v6_0, v6_1, v6_2, v6_3, v6_4, v25 => cond (decide (v25 < (5 : Int)))
  (cond (v25 == (0 : Int))
   ((am v4 v25).bind fun g0 => if g0.size ≤ 2000000 then cond ((av g0 v25).2)
    (aG v4 n ((av g0 v25).1) v6_1 v6_2 v6_3 v6_4 (inc v25))
    (some (.ret ([]) ([]) ([]) ([]) ([]) false)) else none)
   (cond (v25 == (1 : Int))
    ((am v4 v25).bind fun g0 => if g0.size ≤ 2000000 then cond ((av g0 v25).2)
     (aG v4 n v6_0 ((av g0 v25).1) v6_2 v6_3 v6_4 (inc v25))
     (some (.ret ([]) ([]) ([]) ([]) ([]) false)) else none)
    (cond (v25 == (2 : Int))
     ((am v4 v25).bind fun g0 => if g0.size ≤ 2000000 then cond ((av g0 v25).2)
      (aG v4 n v6_0 v6_1 ((av g0 v25).1) v6_3 v6_4 (inc v25))
      (some (.ret ([]) ([]) ([]) ([]) ([]) false)) else none)
     (cond (v25 == (3 : Int))
      ((am v4 v25).bind fun g0 => if g0.size ≤ 2000000 then cond ((av g0 v25).2)
       (aG v4 n v6_0 v6_1 v6_2 ((av g0 v25).1) v6_4 (inc v25))
       (some (.ret ([]) ([]) ([]) ([]) ([]) false)) else none)
      (if v25 = (4 : Int) then (am v4 v25).bind fun g0 => if g0.size ≤ 2000000 then cond ((av g0 v25).2)
       (aG v4 n v6_0 v6_1 v6_2 v6_3 ((av g0 v25).1) (inc v25))
       (some (.ret ([]) ([]) ([]) ([]) ([]) false)) else none else none)))))
  (some (.x0 v6_0 v6_1 v6_2 v6_3 v6_4))
theorem wa (v2_0 v2_1 v2_2 v2_3 v2_4 : List Int) (v4 : List ByteArray) (n : Nat) : ∀ (v6_0 v6_1 v6_2 v6_3 v6_4 : List Int) (v25 : Int), Ans (aG v4 n v6_0 v6_1 v6_2 v6_3 v6_4 v25) (wb v2_0 v2_1 v2_2 v2_3 v2_4 v4 v6_0 v6_1 v6_2 v6_3 v6_4 v25) := by
 induction n with
 | zero => intros; exact Ans.none
 | succ n ih =>
  intro v6_0 v6_1 v6_2 v6_3 v6_4 v25
  unfold aG
  refine I3 (fun h0 => ?_) (fun h0 => ?_)
  ·refine I3 (fun h1 => ?_) (fun h1 => ?_)
   ·refine I4 (fun g0 h2 => ?_)
    refine I5 (fun h3 => ?_)
    refine I3 (fun h4 => ?_) (fun h4 => ?_)
    ·exact (ih ((av g0 v25).1) v6_1 v6_2 v6_3 v6_4 (inc v25)).mono fun y hy => by cases y <;> exact IY (sZ v2_0 v2_1 v2_2 v2_3 v2_4 v4 v6_0 v6_1 v6_2 v6_3 v6_4 v25 g0 h0 h1 h2 h3 h4) hy
    ·exact IX (IZ (s6 v2_0 v2_1 v2_2 v2_3 v2_4 v4 v6_0 v6_1 v6_2 v6_3 v6_4 v25 g0 h0 h1 h2 h3 h4) (by intro h; cases h))
   ·refine I3 (fun h2 => ?_) (fun h2 => ?_)
    ·refine I4 (fun g0 h3 => ?_)
     refine I5 (fun h4 => ?_)
     refine I3 (fun h5 => ?_) (fun h5 => ?_)
     ·exact (ih v6_0 ((av g0 v25).1) v6_2 v6_3 v6_4 (inc v25)).mono fun y hy => by cases y <;> exact IY (s7 v2_0 v2_1 v2_2 v2_3 v2_4 v4 v6_0 v6_1 v6_2 v6_3 v6_4 v25 g0 h0 h1 h2 h3 h4 h5) hy
     ·exact IX (IZ (s8 v2_0 v2_1 v2_2 v2_3 v2_4 v4 v6_0 v6_1 v6_2 v6_3 v6_4 v25 g0 h0 h1 h2 h3 h4 h5) (by intro h; cases h))
    ·refine I3 (fun h3 => ?_) (fun h3 => ?_)
     ·refine I4 (fun g0 h4 => ?_)
      refine I5 (fun h5 => ?_)
      refine I3 (fun h6 => ?_) (fun h6 => ?_)
      ·exact (ih v6_0 v6_1 ((av g0 v25).1) v6_3 v6_4 (inc v25)).mono fun y hy => by cases y <;> exact IY (s9 v2_0 v2_1 v2_2 v2_3 v2_4 v4 v6_0 v6_1 v6_2 v6_3 v6_4 v25 g0 h0 h1 h2 h3 h4 h5 h6) hy
      ·exact IX (IZ (ta v2_0 v2_1 v2_2 v2_3 v2_4 v4 v6_0 v6_1 v6_2 v6_3 v6_4 v25 g0 h0 h1 h2 h3 h4 h5 h6) (by intro h; cases h))
     ·refine I3 (fun h4 => ?_) (fun h4 => ?_)
      ·refine I4 (fun g0 h5 => ?_)
       refine I5 (fun h6 => ?_)
       refine I3 (fun h7 => ?_) (fun h7 => ?_)
       ·exact (ih v6_0 v6_1 v6_2 ((av g0 v25).1) v6_4 (inc v25)).mono fun y hy => by cases y <;> exact IY (tb v2_0 v2_1 v2_2 v2_3 v2_4 v4 v6_0 v6_1 v6_2 v6_3 v6_4 v25 g0 h0 h1 h2 h3 h4 h5 h6 h7) hy
       ·exact IX (IZ (tc v2_0 v2_1 v2_2 v2_3 v2_4 v4 v6_0 v6_1 v6_2 v6_3 v6_4 v25 g0 h0 h1 h2 h3 h4 h5 h6 h7) (by intro h; cases h))
      ·refine I5 (fun h5 => ?_)
       refine I4 (fun g0 h6 => ?_)
       refine I5 (fun h7 => ?_)
       refine I3 (fun h8 => ?_) (fun h8 => ?_)
       ·exact (ih v6_0 v6_1 v6_2 v6_3 ((av g0 v25).1) (inc v25)).mono fun y hy => by cases y <;> exact IY (tf v2_0 v2_1 v2_2 v2_3 v2_4 v4 v6_0 v6_1 v6_2 v6_3 v6_4 v25 g0 h0 h1 h2 h3 h4 h5 h6 h7 h8) hy
       ·exact IX (IZ (tg v2_0 v2_1 v2_2 v2_3 v2_4 v4 v6_0 v6_1 v6_2 v6_3 v6_4 v25 g0 h0 h1 h2 h3 h4 h5 h6 h7 h8) (by intro h; cases h))
  ·exact IX (IZ (rN v2_0 v2_1 v2_2 v2_3 v2_4 v4 v6_0 v6_1 v6_2 v6_3 v6_4 v25 h0) (by intro h; cases h))
noncomputable def jz (x0 : ByteArray) : Option (GCron × Bool) :=
  cond ((an x0).2)
   (cond ((((an x0).1).length : Int) != (5 : Int))
    (some ((GCron.mk ([] : List Int) ([] : List Int) ([] : List Int) ([] : List Int) ([] : List Int)), false))
    ((aG ((an x0).1) 9223372036854775808 ([]) ([]) ([]) ([]) ([]) (0 : Int)).bind fun y => match y with
     | .ret w0_2_0 w0_2_1 w0_2_2 w0_2_3 w0_2_4 w0_3 => (some ((GCron.mk w0_2_0 w0_2_1 w0_2_2 w0_2_3 w0_2_4), w0_3))
     | .x0 w0_6_0 w0_6_1 w0_6_2 w0_6_3 w0_6_4 => (some ((GCron.mk w0_6_0 w0_6_1 w0_6_2 w0_6_3 w0_6_4), true))))
   (some ((GCron.mk ([] : List Int) ([] : List Int) ([] : List Int) ([] : List Int) ([] : List Int)), false))
theorem yD (x0 : ByteArray) : Ans (jz x0) (fun r => Does E 33 [.one (tS x0)] [(true, GCron.t .own r.1), (false, [tB r.2])]) := by
 unfold jz
 refine I3 (fun h0 => ?_) (fun h0 => ?_)
 ·refine I3 (fun h1 => ?_) (fun h1 => ?_)
  ·exact IX (IW (fn := Tryz.f33) [.ret [(false, [.s .own () 1 (((an x0).1).map etS)]), (false, [tB true])], .val (.int .i64 (((an x0).1).length : Int)), .b true] _ rfl (fun _ => rfl) (fun k => by kernel_rfl) (AD (I6 (rs' := [(false, [.s .own () 1 (((an x0).1).map etS)]), (false, [tB true])]) (ls x0) (by rw [h0])) <| AC (p := ((((an x0).1).map etS).length : Int) = (((an x0).1).length : Int)) ag <| AC h1 <| AN))
  ·refine I4 (fun y hy => ?_)
   replace hy := wa ([]) ([]) ([]) ([]) ([]) ((an x0).1) 9223372036854775808 ([]) ([]) ([]) ([]) ([]) (0 : Int) y hy
   cases y with
   | ret w0_2_0 w0_2_1 w0_2_2 w0_2_3 w0_2_4 w0_3 =>
    have h2 := hy
    exact IX (IW (fn := Tryz.f33) [.ret [(false, [.s .own () 1 (((an x0).1).map etS)]), (false, [tB true])], .val (.int .i64 (((an x0).1).length : Int)), .b false, .lp .ret (cM w0_2_0 w0_2_1 w0_2_2 w0_2_3 w0_2_4 w0_3)] _ rfl (fun _ => rfl) (fun k => by kernel_rfl) (AD (I6 (rs' := [(false, [.s .own () 1 (((an x0).1).map etS)]), (false, [tB true])]) (ls x0) (by rw [h0])) <| AC (p := ((((an x0).1).map etS).length : Int) = (((an x0).1).length : Int)) ag <| AC h1 <| AL h2 <| AN))
   | x0 w0_6_0 w0_6_1 w0_6_2 w0_6_3 w0_6_4 =>
    have h2 := hy
    exact IX (IW (fn := Tryz.f33) [.ret [(false, [.s .own () 1 (((an x0).1).map etS)]), (false, [tB true])], .val (.int .i64 (((an x0).1).length : Int)), .b false, .lp (.exit 0) (jN ([]) ([]) ([]) ([]) ([]) w0_6_0 w0_6_1 w0_6_2 w0_6_3 w0_6_4)] _ rfl (fun _ => rfl) (fun k => by kernel_rfl) (AD (I6 (rs' := [(false, [.s .own () 1 (((an x0).1).map etS)]), (false, [tB true])]) (ls x0) (by rw [h0])) <| AC (p := ((((an x0).1).map etS).length : Int) = (((an x0).1).length : Int)) ag <| AC h1 <| AL h2 <| AN))
 ·exact IX (IW (fn := Tryz.f33) [.ret [(false, [.s .own () 1 (((an x0).1).map etS)]), (false, [tB false])]] _ rfl (fun _ => rfl) (fun k => by kernel_rfl) (AD (I6 (rs' := [(false, [.s .own () 1 (((an x0).1).map etS)]), (false, [tB false])]) (ls x0) (by rw [h0])) <| AN))
def noCron : GCron := ⟨[], [], [], [], []⟩
noncomputable def oS (a b c d e : ByteArray) : GCron × Bool :=
 cond (ac a 0 59).2 (cond (ac b 0 23).2 (cond (ac c 1 31).2 (cond (ac d 1 12).2 (cond (ac e 0 6).2
  (⟨(ac a 0 59).1, (ac b 0 23).1, (ac c 1 31).1, (ac d 1 12).1, (ac e 0 6).1⟩, true) (noCron, false)) (noCron, false)) (noCron, false)) (noCron, false)) (noCron, false)
noncomputable def zI : List ByteArray → GCron × Bool
 | [a, b, c, d, e] => oS a b c d e
 | _ => (noCron, false)
noncomputable def ai (s : ByteArray) : GCron × Bool := zI (an s).1
theorem uT {s : ByteArray} (h : (an s).2 = false) : (an s).1 = [] := by
 unfold an at h ⊢
 split
 ·rfl
 ·rename_i h0
  rw [if_neg h0] at h
  split
  ·rename_i h1
   rw [if_pos h1] at h
   split
   ·rfl
   ·rename_i h2
    rw [if_neg h2] at h; cases h
  ·rfl
theorem Gc {α : Type} {l : List α} (h : l.length = 5) : ∃ a b c d e, l = [a, b, c, d, e] := by
 match l, h with
 | [a, b, c, d, e], _ => exact ⟨a, b, c, d, e, rfl⟩
theorem qj {l : List ByteArray} (h : l.length ≠ 5) : zI l = (noCron, false) := by
 unfold zI
 split
 ·exact absurd rfl h
 ·rfl
theorem HB (a b c d e : Bool) (n : Nat) : eP [a, b, c, d, e] (n + 6) 0 = some (cond a (cond b (cond c (cond d (cond e .x0 (.ret [] [] [] [] [] false)) (.ret [] [] [] [] [] false)) (.ret [] [] [] [] [] false)) (.ret [] [] [] [] [] false)) (.ret [] [] [] [] [] false)) := by
 cases a <;> cases b <;> cases c <;> cases d <;> cases e <;> rfl
theorem G5 (s : ByteArray) : jF s = some (ai s) := by
 unfold jF ai
 cases q : (an s).2 with
 | false =>
  rw [uT q]; rfl
 | true =>
  rw [cond_true]
  by_cases h : (an s).1.length = 5
  ·obtain ⟨a, b, c, d, e, hl⟩ := Gc h
   have hm : ∀ p ∈ [a, b, c, d, e], p.size ≤ 2000000 := fun p hp => by
    rw [← hl] at hp
    have := nP hp
    omega
   have ha : (a.size ≤ 2000000) = True := eq_true (hm a (by simp))
   have hb : (b.size ≤ 2000000) = True := eq_true (hm b (by simp))
   have hc : (c.size ≤ 2000000) = True := eq_true (hm c (by simp))
   have hd : (d.size ≤ 2000000) = True := eq_true (hm d (by simp))
   have he : (e.size ≤ 2000000) = True := eq_true (hm e (by simp))
   have e5 : ((([a, b, c, d, e] : List ByteArray).length : Int) != 5) = false := rfl
   rw [hl, e5, cond_false, if_pos (by decide)]
   have g0 : am [a, b, c, d, e] (0 : Int) = some a := rfl
   have g1 : am [a, b, c, d, e] (1 : Int) = some b := rfl
   have g2 : am [a, b, c, d, e] (2 : Int) = some c := rfl
   have g3 : am [a, b, c, d, e] (3 : Int) = some d := rfl
   have g4 : am [a, b, c, d, e] (4 : Int) = some e := rfl
   have b0 : ((0 : Int) ≤ 0 ∧ (0 : Int) ≤ 59 ∧ (59 : Int) ≤ 59) = True := eq_true (by decide)
   have b1 : ((0 : Int) ≤ 0 ∧ (0 : Int) ≤ 23 ∧ (23 : Int) ≤ 59) = True := eq_true (by decide)
   have b2 : ((0 : Int) ≤ 1 ∧ (1 : Int) ≤ 31 ∧ (31 : Int) ≤ 59) = True := eq_true (by decide)
   have b3 : ((0 : Int) ≤ 1 ∧ (1 : Int) ≤ 12 ∧ (12 : Int) ≤ 59) = True := eq_true (by decide)
   have b4 : ((0 : Int) ≤ 0 ∧ (0 : Int) ≤ 6 ∧ (6 : Int) ≤ 59) = True := eq_true (by decide)
   simp only [g0, g1, g2, g3, g4, Option.bind_some, ha, hb, hc, hd, he, b0, b1, b2, b3, b4, if_true]
   show (eP [(ac a 0 59).2, (ac b 0 23).2, (ac c 1 31).2, (ac d 1 12).2, (ac e 0 6).2] (9223372036854775802 + 6) 0).bind _ = some (oS a b c d e)
   rw [HB]
   unfold oS
   cases (ac a 0 59).2 <;> cases (ac b 0 23).2 <;> cases (ac c 1 31).2 <;> cases (ac d 1 12).2 <;> cases (ac e 0 6).2 <;> rfl
  ·have e5 : (((an s).1.length : Int) != 5) = true := by rw [bne_iff_ne]; omega
   rw [e5, cond_true, qj h]; rfl
theorem G4 (s : ByteArray) : jz s = some (ai s) := by
 unfold jz ai
 cases q : (an s).2 with
 | false =>
  rw [uT q]; rfl
 | true =>
  rw [cond_true]
  by_cases h : (an s).1.length = 5
  ·obtain ⟨a, b, c, d, e, hl⟩ := Gc h
   have hm : ∀ p ∈ [a, b, c, d, e], p.size ≤ 2000000 := fun p hp => by
    rw [← hl] at hp
    have := nP hp
    omega
   have e5 : ((([a, b, c, d, e] : List ByteArray).length : Int) != 5) = false := rfl
   rw [hl, e5, cond_false]
   have s0 : ∀ n v0 v1 v2 v3 v4, aG [a, b, c, d, e] (n + 1) v0 v1 v2 v3 v4 0 = cond (ac a 0 59).2 (aG [a, b, c, d, e] n (ac a 0 59).1 v1 v2 v3 v4 1) (some (.ret [] [] [] [] [] false)) := fun n v0 v1 v2 v3 v4 => by
    conv => lhs; unfold aG
    show (if a.size ≤ 2000000 then _ else none) = _
    rw [if_pos (hm a (by simp))]; rfl
   have s1 : ∀ n v0 v1 v2 v3 v4, aG [a, b, c, d, e] (n + 1) v0 v1 v2 v3 v4 1 = cond (ac b 0 23).2 (aG [a, b, c, d, e] n v0 (ac b 0 23).1 v2 v3 v4 2) (some (.ret [] [] [] [] [] false)) := fun n v0 v1 v2 v3 v4 => by
    conv => lhs; unfold aG
    show (if b.size ≤ 2000000 then _ else none) = _
    rw [if_pos (hm b (by simp))]; rfl
   have s2 : ∀ n v0 v1 v2 v3 v4, aG [a, b, c, d, e] (n + 1) v0 v1 v2 v3 v4 2 = cond (ac c 1 31).2 (aG [a, b, c, d, e] n v0 v1 (ac c 1 31).1 v3 v4 3) (some (.ret [] [] [] [] [] false)) := fun n v0 v1 v2 v3 v4 => by
    conv => lhs; unfold aG
    show (if c.size ≤ 2000000 then _ else none) = _
    rw [if_pos (hm c (by simp))]; rfl
   have s3 : ∀ n v0 v1 v2 v3 v4, aG [a, b, c, d, e] (n + 1) v0 v1 v2 v3 v4 3 = cond (ac d 1 12).2 (aG [a, b, c, d, e] n v0 v1 v2 (ac d 1 12).1 v4 4) (some (.ret [] [] [] [] [] false)) := fun n v0 v1 v2 v3 v4 => by
    conv => lhs; unfold aG
    show (if d.size ≤ 2000000 then _ else none) = _
    rw [if_pos (hm d (by simp))]; rfl
   have s4 : ∀ n v0 v1 v2 v3 v4, aG [a, b, c, d, e] (n + 1) v0 v1 v2 v3 v4 4 = cond (ac e 0 6).2 (aG [a, b, c, d, e] n v0 v1 v2 v3 (ac e 0 6).1 5) (some (.ret [] [] [] [] [] false)) := fun n v0 v1 v2 v3 v4 => by
    conv => lhs; unfold aG
    show (if (4 : Int) = 4 then (if e.size ≤ 2000000 then _ else none) else none) = _
    rw [if_pos rfl, if_pos (hm e (by simp))]; rfl
   have s5 : ∀ n v0 v1 v2 v3 v4, aG [a, b, c, d, e] (n + 1) v0 v1 v2 v3 v4 5 = some (.x0 v0 v1 v2 v3 v4) := fun n v0 v1 v2 v3 v4 => rfl
   have st : aG [a, b, c, d, e] (9223372036854775802 + 6) [] [] [] [] [] 0 = _ := s0 _ _ _ _ _ _
   rw [s1, s2, s3, s4, s5] at st
   refine (congrArg (Option.bind · _) st).trans ?_
   show _ = some (oS a b c d e)
   unfold oS
   cases (ac a 0 59).2 <;> cases (ac b 0 23).2 <;> cases (ac c 1 31).2 <;> cases (ac d 1 12).2 <;> cases (ac e 0 6).2 <;> rfl
  ·have e5 : (((an s).1.length : Int) != 5) = true := by rw [bne_iff_ne]; omega
   rw [e5, cond_true, qj h]; rfl
theorem oi {lo hi : Int} {s : ByteArray} (hs : s.size ≤ 2000000) (hb : 0 ≤ lo ∧ lo ≤ hi ∧ hi ≤ 59) : aq.sm (ac s lo hi).1 := by
 rcases (sT s lo hi hs hb).2.1 with h | h
 ·rw [h.2]; exact ⟨by decide, fun y hy => by cases hy⟩
 ·exact ⟨by have := h.2.2.2.2; omega, fun y hy => trivial⟩
theorem xS : aq.sm noCron := ⟨⟨by decide, fun y hy => by cases hy⟩, ⟨by decide, fun y hy => by cases hy⟩, ⟨by decide, fun y hy => by cases hy⟩, ⟨by decide, fun y hy => by cases hy⟩, ⟨by decide, fun y hy => by cases hy⟩⟩
theorem AZ (s : ByteArray) : aq.sm (ai s).1 := by
 unfold ai
 by_cases h : (an s).1.length = 5
 ·obtain ⟨a, b, c, d, e, hl⟩ := Gc h
  have hm : ∀ p ∈ [a, b, c, d, e], p.size ≤ 2000000 := fun p hp => by
   rw [← hl] at hp
   have := nP hp
   omega
  rw [hl]
  show aq.sm (oS a b c d e).1
  unfold oS
  have := oi (lo := 0) (hi := 59) (hm a (by simp)) (by decide)
  have := oi (lo := 0) (hi := 23) (hm b (by simp)) (by decide)
  have := oi (lo := 1) (hi := 31) (hm c (by simp)) (by decide)
  have := oi (lo := 1) (hi := 12) (hm d (by simp)) (by decide)
  have := oi (lo := 0) (hi := 6) (hm e (by simp)) (by decide)
  cases (ac a 0 59).2 <;> cases (ac b 0 23).2 <;> cases (ac c 1 31).2 <;> cases (ac d 1 12).2 <;> cases (ac e 0 6).2 <;> first | exact xS | exact ⟨by assumption, by assumption, by assumption, by assumption, by assumption⟩
 ·rw [qj h]; exact xS
theorem c7 (x0 : ByteArray) : Does E 10 [.one (tS x0)] [(true, GCron.t .own ((ai x0).1)), (false, [tB ((ai x0).2)])] := by
 exact yY x0 _ (G5 x0)
theorem px (x0 : ByteArray) : Does E 33 [.one (tS x0)] [(true, GCron.t .own ((ai x0).1)), (false, [tB ((ai x0).2)])] := by
 exact yD x0 _ (G4 x0)
end Go.Proofs.YtfbhcpmlihdmcaaGreatDoor.Am
namespace Go.Proofs.YtfbhcpmlihdmcaaGreatDoor.Am
open Go Go.Proofs Classical
set_option maxRecDepth 100000
set_option linter.unusedVariables false
set_option linter.unusedSimpArgs false
inductive vd where
 | ret (v4 : Bool)
 | x0 
def jb (v0 : List Int) (v1 v5 : Int) : US := stL 18 [(0, .one (.s .far () 1 (v0.map etI))), (1, .one (tI v1)), (5, .one (tI v5))]
def l8 (zv4 : Bool) : US := stL 18 [(4, .one (tB zv4))]
def mY  : US := stL 18 []
abbrev pp : US → Exit → US → Prop := Round E 31 (aB Tryz.f31 0)
def Ej (v0 : List Int) (v1 v5 : Int) : vd → Prop
 | .ret zv4 => Loops E 31 (aB Tryz.f31 0) (jb v0 v1 v5) .ret (l8 zv4)
 | .x0 => Loops E 31 (aB Tryz.f31 0) (jb v0 v1 v5) (.exit 0) (mY)
theorem Bm (v0 : List Int) (v1 v5 g0 : Int) (h0 : (decide (v5 < (v0.length : Int))) = true) (h1 : am v0 v5 = some g0) (h2 : (g0 == v1) = true) : pp (jb v0 v1 v5) .ret (l8 true) :=
 IV [.val (.int .i64 (v0.length : Int)), .b true, .row (etI g0), .b true] _ (fun k => by kernel_rfl) (AC (p := ((v0.map etI).length : Int) = (v0.length : Int)) ag <| AC h0 <| AC (p := 0 ≤ v5 ∧ (v0.map etI)[v5.toNat]? = some (etI g0)) (az h1) <| AC h2 <| AN)
theorem Bn (v0 : List Int) (v1 v5 g0 : Int) (h0 : (decide (v5 < (v0.length : Int))) = true) (h1 : am v0 v5 = some g0) (h2 : (g0 == v1) = false) : pp (jb v0 v1 v5) .normal (jb v0 v1 (inc v5)) :=
 IV [.val (.int .i64 (v0.length : Int)), .b true, .row (etI g0), .b false] _ (fun k => by kernel_rfl) (AC (p := ((v0.map etI).length : Int) = (v0.length : Int)) ag <| AC h0 <| AC (p := 0 ≤ v5 ∧ (v0.map etI)[v5.toNat]? = some (etI g0)) (az h1) <| AC h2 <| AN)
theorem Bo (v0 : List Int) (v1 v5 : Int) (h0 : (decide (v5 < (v0.length : Int))) = false) : pp (jb v0 v1 v5) (.exit 0) (mY) :=
 IV [.val (.int .i64 (v0.length : Int)), .b false] _ (fun k => by kernel_rfl) (AC (p := ((v0.map etI).length : Int) = (v0.length : Int)) ag <| AC h0 <| AN)
noncomputable def gA (v1 : Int) : List Int → Nat → Option vd
 | [], i => some (.x0)
 | hd :: rest, i => cond (hd == v1)
  (some (.ret true))
  (gA v1 rest (i + 1))
theorem Ei (v0 : List Int) (v1 : Int) (rest : List Int) : ∀ (i : Nat) , (v0).drop i = rest → v0.length ≤ 9223372036854775807 → Ans (gA v1 rest i) (Ej v0 v1 (i : Int)) := by
 induction rest with
 | nil =>
  intro i hE hl
  have hb := bH hE
  unfold gA
  exact IX (IZ (Bo v0 v1 (i : Int) hb) (by intro h; cases h))
 | cons hd rest ih =>
  intro i hE hl
  have hb := bh hE
  have hw := bi hE hl
  have hE2 := aK hE
  have hg := bq hE
  unfold gA
  refine I3 (fun h2 => ?_) (fun h2 => ?_)
  ·exact IX (IZ (Bm v0 v1 (i : Int) hd hb hg h2) (by intro h; cases h))
  ·exact (ih (i + 1) hE2 hl).mono fun y hy => by have r := Bn v0 v1 (i : Int) hd hb hg h2; rw [hw] at r; cases y <;> exact IY r hy
noncomputable def rn (x0 : List Int) (x1 : Int) : Option (Bool) :=
  if x0.length ≤ 9223372036854775807 then (gA x1 x0 0).bind fun y => match y with
   | .ret w0_4 => (some (w0_4))
   | .x0 => (some (false)) else none
theorem Fw (x0 : List Int) (x1 : Int) : Ans (rn x0 x1) (fun r => Does E 31 [.one (.s .far () 1 (x0.map etI)), .one (tI x1)] [(false, [tB r])]) := by
 unfold rn
 refine I5 (fun hl1 => ?_)
 refine I4 (fun y hy => ?_)
 replace hy := Ei x0 x1 x0 0 rfl hl1 y hy
 cases y with
 | ret w0_4 =>
  have h0 := hy
  exact IX (IW (fn := Tryz.f31) [.lp .ret (l8 w0_4)] _ rfl (fun _ => rfl) (fun k => by kernel_rfl) (AL h0 <| AN))
 | x0 =>
  have h0 := hy
  exact IX (IW (fn := Tryz.f31) [.lp (.exit 0) (mY)] _ rfl (fun _ => rfl) (fun k => by kernel_rfl) (AL h0 <| AN))
def bI (l : List Int) (x : Int) : Bool := l.any fun y => y == x
theorem E3 (x : Int) : ∀ (rest : List Int) (i : Nat), gA x rest i = some (if bI rest x = true then .ret true else .x0)
 | [], i => rfl
 | y :: rest, i => by
  unfold gA
  rw [E3 x rest (i + 1)]
  unfold bI
  rw [List.any_cons]
  cases y == x <;> rfl
theorem nb (x0 : List Int) (x1 : Int) (h : x0.length ≤ 1050000) : Does E 31 [.one (.s .far () 1 (x0.map etI)), .one (tI x1)] [(false, [tB (bI x0 x1)])] := by
 exact Fw x0 x1 _ (by
  unfold rn
  rw [if_pos (by omega), E3]
  cases q : bI x0 x1 <;> rfl)
inductive kU where
 | ret (v4 : Int)
 | x0 
def cT (v0 : List Int) (v1 v7 v8 : Int) : US := stL 19 [(0, .one (.s .far () 1 (v0.map etI))), (1, .one (tI v1)), (7, .one (tI v7)), (8, .one (tI v8))]
def fH (zv4 : Int) : US := stL 19 [(4, .one (tI zv4))]
def fZ  : US := stL 19 []
abbrev hJ : US → Exit → US → Prop := Round E 55 (aB Tryz.f55 0)
def pY (v0 : List Int) (v1 v7 v8 : Int) : kU → Prop
 | .ret zv4 => Loops E 55 (aB Tryz.f55 0) (cT v0 v1 v7 v8) .ret (fH zv4)
 | .x0 => Loops E 55 (aB Tryz.f55 0) (cT v0 v1 v7 v8) (.exit 0) (fZ)
theorem oD (v0 : List Int) (v1 v7 v8 g0 : Int) (h0 : (decide (v8 < v7)) = true) (h1 : am v0 v8 = some g0) (h2 : (v1 == g0) = true) : hJ (cT v0 v1 v7 v8) .ret (fH v8) :=
 IV [.b true, .row (etI g0), .b true] _ (fun k => by kernel_rfl) (AC h0 <| AC (p := 0 ≤ v8 ∧ (v0.map etI)[v8.toNat]? = some (etI g0)) (az h1) <| AC h2 <| AN)
theorem oE (v0 : List Int) (v1 v7 v8 g0 : Int) (h0 : (decide (v8 < v7)) = true) (h1 : am v0 v8 = some g0) (h2 : (v1 == g0) = false) : hJ (cT v0 v1 v7 v8) .normal (cT v0 v1 v7 (inc v8)) :=
 IV [.b true, .row (etI g0), .b false] _ (fun k => by kernel_rfl) (AC h0 <| AC (p := 0 ≤ v8 ∧ (v0.map etI)[v8.toNat]? = some (etI g0)) (az h1) <| AC h2 <| AN)
theorem oF (v0 : List Int) (v1 v7 v8 : Int) (h0 : (decide (v8 < v7)) = false) : hJ (cT v0 v1 v7 v8) (.exit 0) (fZ) :=
 IV [.b false] _ (fun k => by kernel_rfl) (AC h0 <| AN)
noncomputable def b8 (v1 : Int) : List Int → Nat → Option kU
 | [], i => some (.x0)
 | hd :: rest, i => cond (v1 == hd)
  (some (.ret (i : Int)))
  (b8 v1 rest (i + 1))
theorem pX (v0 : List Int) (v1 : Int) (rest : List Int) : ∀ (i : Nat) , (v0).drop i = rest → v0.length ≤ 9223372036854775807 → Ans (b8 v1 rest i) (pY v0 v1 (v0.length : Int) (i : Int)) := by
 induction rest with
 | nil =>
  intro i hE hl
  have hb := bH hE
  unfold b8
  exact IX (IZ (oF v0 v1 (v0.length : Int) (i : Int) hb) (by intro h; cases h))
 | cons hd rest ih =>
  intro i hE hl
  have hb := bh hE
  have hw := bi hE hl
  have hE2 := aK hE
  have hg := bq hE
  unfold b8
  refine I3 (fun h2 => ?_) (fun h2 => ?_)
  ·exact IX (IZ (oD v0 v1 (v0.length : Int) (i : Int) hd hb hg h2) (by intro h; cases h))
  ·exact (ih (i + 1) hE2 hl).mono fun y hy => by have r := oE v0 v1 (v0.length : Int) (i : Int) hd hb hg h2; rw [hw] at r; cases y <;> exact IY r hy
noncomputable def dn (x0 : List Int) (x1 : Int) : Option (Int) :=
  if x0.length ≤ 9223372036854775807 then (b8 x1 x0 0).bind fun y => match y with
   | .ret w0_4 => (some (w0_4))
   | .x0 => (some ((-1 : Int))) else none
theorem ru (x0 : List Int) (x1 : Int) : Ans (dn x0 x1) (fun r => Does E 55 [.one (.s .far () 1 (x0.map etI)), .one (tI x1)] [(false, [tI r])]) := by
 unfold dn
 refine I5 (fun hl1 => ?_)
 refine I4 (fun y hy => ?_)
 replace hy := pX x0 x1 x0 0 rfl hl1 y hy
 cases y with
 | ret w0_4 =>
  have h0 := hy
  exact IX (IW (fn := Tryz.f55) [.val (.int .i64 (x0.length : Int)), .lp .ret (fH w0_4)] _ rfl (fun _ => rfl) (fun k => by kernel_rfl) (AC (p := ((x0.map etI).length : Int) = (x0.length : Int)) ag <| AL h0 <| AN))
 | x0 =>
  have h0 := hy
  exact IX (IW (fn := Tryz.f55) [.val (.int .i64 (x0.length : Int)), .lp (.exit 0) (fZ)] _ rfl (fun _ => rfl) (fun k => by kernel_rfl) (AC (p := ((x0.map etI).length : Int) = (x0.length : Int)) ag <| AL h0 <| AN))
noncomputable def tn (l : List Int) (x : Int) : Int := (dn l x).getD (-1)
theorem GB (x : Int) : ∀ (rest : List Int) (i : Nat), (∃ k : Nat, b8 x rest i = some (.ret (k : Int)) ∧ bI rest x = true) ∨ b8 x rest i = some .x0 ∧ bI rest x = false
 | [], i => .inr ⟨rfl, rfl⟩
 | y :: rest, i => by
  have e : (x == y) = (y == x) := by cases q : y == x with | true => rw [eq_of_beq q]; simp | false => exact beq_eq_false_iff_ne.2 fun e => by rw [e] at q; simp at q
  unfold b8 bI
  rw [List.any_cons, e]
  cases y == x with
  | true => exact .inl ⟨i, rfl, rfl⟩
  | false => exact GB x rest (i + 1)
theorem E0 (l : List Int) (x : Int) (h : l.length ≤ 1050000) : dn l x = some (tn l x) ∧ decide (tn l x ≥ (0 : Int)) = bI l x := by
 have e : ∃ r, dn l x = some r ∧ decide (r ≥ (0 : Int)) = bI l x := by
  unfold dn
  rw [if_pos (by omega)]
  rcases GB x l 0 with ⟨k, h1, h2⟩ | ⟨h1, h2⟩
  ·exact ⟨(k : Int), by rw [h1]; rfl, by rw [h2]; exact decide_eq_true (by omega)⟩
  ·exact ⟨-1, by rw [h1]; rfl, by rw [h2]; rfl⟩
 obtain ⟨r, h1, h2⟩ := e
 have p : tn l x = r := by unfold tn; rw [h1]; rfl
 rw [p]; exact ⟨h1, h2⟩
theorem qe (x0 : List Int) (x1 : Int) (h : x0.length ≤ 1050000) : Does E 55 [.one (.s .far () 1 (x0.map etI)), .one (tI x1)] [(false, [tI (tn x0 x1)])] := by
 exact ru x0 x1 _ (E0 x0 x1 h).1
noncomputable def fY (x0 : List Int) (x1 : Int) : Option (Bool) :=
  if x0.length ≤ 1050000 then some (decide ((tn x0 x1) ≥ (0 : Int))) else none
theorem oC (x0 : List Int) (x1 : Int) : Ans (fY x0 x1) (fun r => Does E 39 [.one (.s .far () 1 (x0.map etI)), .one (tI x1)] [(false, [tB r])]) := by
 unfold fY
 refine I5 (fun h0 => ?_)
 exact IX (IW (fn := Tryz.f39) [.ret [(false, [tI (tn x0 x1)])]] _ rfl (fun _ => rfl) (fun k => by kernel_rfl) (AD (qe x0 x1 h0) <| AN))
theorem eb (x0 : List Int) (x1 : Int) (h : x0.length ≤ 1050000) : Does E 39 [.one (.s .far () 1 (x0.map etI)), .one (tI x1)] [(false, [tB (bI x0 x1)])] := by
 exact oC x0 x1 _ (by
  unfold fY
  try rw [if_pos h]
  rw [(E0 x0 x1 h).2])
inductive ro where
 | ret (v6 : Bool)
 | x0 
def dE (v0 : List Int) (v1 v2 v7 : Int) : US := stL 41 [(0, .one (.s .far () 1 (v0.map etI))), (1, .one (tI v1)), (2, .one (tI v2)), (7, .one (tI v7))]
def ii (zv6 : Bool) : US := stL 41 [(6, .one (tB zv6))]
def lk (v0 : List Int) : US := stL 41 [(0, .one (.s .far () 1 (v0.map etI)))]
abbrev iG : US → Exit → US → Prop := Round E 45 (aB Tryz.f45 0)
def Bq (v0 : List Int) (v1 v2 v7 : Int) : ro → Prop
 | .ret zv6 => Loops E 45 (aB Tryz.f45 0) (dE v0 v1 v2 v7) .ret (ii zv6)
 | .x0 => Loops E 45 (aB Tryz.f45 0) (dE v0 v1 v2 v7) (.exit 0) (lk v0)
theorem wY (v0 : List Int) (v1 v2 v7 g0 g1 : Int) (h0 : (decide (v7 < (v0.length : Int))) = true) (h1 : am v0 v7 = some g0) (h2 : (aD g0 v1 v2) = true) (h3 : (decide (v7 > (0 : Int))) = true) (h4 : am v0 (IntKind.wrap .i64 (v7 - (1 : Int))) = some g1) (h5 : (decide (g1 ≥ g0)) = true) : iG (dE v0 v1 v2 v7) .ret (ii false) :=
 IV [.val (.int .i64 (v0.length : Int)), .b true, .row (etI g0), rT, .b true, .row (etI g1), .row (etI g0), .b true] _ (fun k => by kernel_rfl) (AC (p := ((v0.map etI).length : Int) = (v0.length : Int)) ag <| AC h0 <| AC (p := 0 ≤ v7 ∧ (v0.map etI)[v7.toNat]? = some (etI g0)) (az h1) <| AD (I8 (bf g0 v1 v2) h2) <| AC h3 <| AC (p := 0 ≤ (IntKind.wrap .i64 (v7 - (1 : Int))) ∧ (v0.map etI)[(IntKind.wrap .i64 (v7 - (1 : Int))).toNat]? = some (etI g1)) (az h4) <| AC (p := 0 ≤ v7 ∧ (v0.map etI)[v7.toNat]? = some (etI g0)) (az h1) <| AC h5 <| AN)
theorem wZ (v0 : List Int) (v1 v2 v7 g0 g1 : Int) (h0 : (decide (v7 < (v0.length : Int))) = true) (h1 : am v0 v7 = some g0) (h2 : (aD g0 v1 v2) = true) (h3 : (decide (v7 > (0 : Int))) = true) (h4 : am v0 (IntKind.wrap .i64 (v7 - (1 : Int))) = some g1) (h5 : (decide (g1 ≥ g0)) = false) : iG (dE v0 v1 v2 v7) .normal (dE v0 v1 v2 (inc v7)) :=
 IV [.val (.int .i64 (v0.length : Int)), .b true, .row (etI g0), rT, .b true, .row (etI g1), .row (etI g0), .b false] _ (fun k => by kernel_rfl) (AC (p := ((v0.map etI).length : Int) = (v0.length : Int)) ag <| AC h0 <| AC (p := 0 ≤ v7 ∧ (v0.map etI)[v7.toNat]? = some (etI g0)) (az h1) <| AD (I8 (bf g0 v1 v2) h2) <| AC h3 <| AC (p := 0 ≤ (IntKind.wrap .i64 (v7 - (1 : Int))) ∧ (v0.map etI)[(IntKind.wrap .i64 (v7 - (1 : Int))).toNat]? = some (etI g1)) (az h4) <| AC (p := 0 ≤ v7 ∧ (v0.map etI)[v7.toNat]? = some (etI g0)) (az h1) <| AC h5 <| AN)
theorem w6 (v0 : List Int) (v1 v2 v7 g0 : Int) (h0 : (decide (v7 < (v0.length : Int))) = true) (h1 : am v0 v7 = some g0) (h2 : (aD g0 v1 v2) = true) (h3 : (decide (v7 > (0 : Int))) = false) : iG (dE v0 v1 v2 v7) .normal (dE v0 v1 v2 (inc v7)) :=
 IV [.val (.int .i64 (v0.length : Int)), .b true, .row (etI g0), rT, .b false] _ (fun k => by kernel_rfl) (AC (p := ((v0.map etI).length : Int) = (v0.length : Int)) ag <| AC h0 <| AC (p := 0 ≤ v7 ∧ (v0.map etI)[v7.toNat]? = some (etI g0)) (az h1) <| AD (I8 (bf g0 v1 v2) h2) <| AC h3 <| AN)
theorem w7 (v0 : List Int) (v1 v2 v7 g0 : Int) (h0 : (decide (v7 < (v0.length : Int))) = true) (h1 : am v0 v7 = some g0) (h2 : (aD g0 v1 v2) = false) : iG (dE v0 v1 v2 v7) .ret (ii false) :=
 IV [.val (.int .i64 (v0.length : Int)), .b true, .row (etI g0), rF] _ (fun k => by kernel_rfl) (AC (p := ((v0.map etI).length : Int) = (v0.length : Int)) ag <| AC h0 <| AC (p := 0 ≤ v7 ∧ (v0.map etI)[v7.toNat]? = some (etI g0)) (az h1) <| AD (I8 (bf g0 v1 v2) h2) <| AN)
theorem w8 (v0 : List Int) (v1 v2 v7 : Int) (h0 : (decide (v7 < (v0.length : Int))) = false) : iG (dE v0 v1 v2 v7) (.exit 0) (lk v0) :=
 IV [.val (.int .i64 (v0.length : Int)), .b false] _ (fun k => by kernel_rfl) (AC (p := ((v0.map etI).length : Int) = (v0.length : Int)) ag <| AC h0 <| AN)
noncomputable def d6 (v0 : List Int) (v1 v2 : Int) : List Int → Nat → Option ro
 | [], i => some (.x0)
 | hd :: rest, i => cond (aD hd v1 v2)
  (cond (decide ((i : Int) > (0 : Int)))
   ((am v0 (IntKind.wrap .i64 ((i : Int) - (1 : Int)))).bind fun g1 => cond (decide (g1 ≥ hd))
    (some (.ret false))
    (d6 v0 v1 v2 rest (i + 1)))
   (d6 v0 v1 v2 rest (i + 1)))
  (some (.ret false))
theorem Bp (v0 : List Int) (v1 v2 : Int) (rest : List Int) : ∀ (i : Nat) , (v0).drop i = rest → v0.length ≤ 9223372036854775807 → Ans (d6 v0 v1 v2 rest i) (Bq v0 v1 v2 (i : Int)) := by
 induction rest with
 | nil =>
  intro i hE hl
  have hb := bH hE
  unfold d6
  exact IX (IZ (w8 v0 v1 v2 (i : Int) hb) (by intro h; cases h))
 | cons hd rest ih =>
  intro i hE hl
  have hb := bh hE
  have hw := bi hE hl
  have hE2 := aK hE
  have hg := bq hE
  unfold d6
  refine I3 (fun h2 => ?_) (fun h2 => ?_)
  ·refine I3 (fun h3 => ?_) (fun h3 => ?_)
   ·refine I4 (fun g1 h4 => ?_)
    refine I3 (fun h5 => ?_) (fun h5 => ?_)
    ·exact IX (IZ (wY v0 v1 v2 (i : Int) hd g1 hb hg h2 h3 h4 h5) (by intro h; cases h))
    ·exact (ih (i + 1) hE2 hl).mono fun y hy => by have r := wZ v0 v1 v2 (i : Int) hd g1 hb hg h2 h3 h4 h5; rw [hw] at r; cases y <;> exact IY r hy
   ·exact (ih (i + 1) hE2 hl).mono fun y hy => by have r := w6 v0 v1 v2 (i : Int) hd hb hg h2 h3; rw [hw] at r; cases y <;> exact IY r hy
  ·exact IX (IZ (w7 v0 v1 v2 (i : Int) hd hb hg h2) (by intro h; cases h))
noncomputable def nS (x0 : List Int) (x1 x2 : Int) : Option (Bool) :=
  if x0.length ≤ 9223372036854775807 then (d6 x0 x1 x2 x0 0).bind fun y => match y with
   | .ret w0_6 => (some (w0_6))
   | .x0 => (some (decide ((x0.length : Int) > (0 : Int)))) else none
theorem CB (x0 : List Int) (x1 x2 : Int) : Ans (nS x0 x1 x2) (fun r => Does E 45 [.one (.s .far () 1 (x0.map etI)), .one (tI x1), .one (tI x2)] [(false, [tB r])]) := by
 unfold nS
 refine I5 (fun hl1 => ?_)
 refine I4 (fun y hy => ?_)
 replace hy := Bp x0 x1 x2 x0 0 rfl hl1 y hy
 cases y with
 | ret w0_6 =>
  have h0 := hy
  exact IX (IW (fn := Tryz.f45) [.lp .ret (ii w0_6)] _ rfl (fun _ => rfl) (fun k => by kernel_rfl) (AL h0 <| AN))
 | x0 =>
  have h0 := hy
  exact IX (IW (fn := Tryz.f45) [.lp (.exit 0) (lk x0), .val (.int .i64 (x0.length : Int))] _ rfl (fun _ => rfl) (fun k => by kernel_rfl) (AL h0 <| AC (p := ((x0.map etI).length : Int) = (x0.length : Int)) ag <| AN))
def gJ (a b : Int) : List Int → Option Int → Bool
 | [], _ => true
 | x :: l, p => aD x a b && (match p with | some y => decide (y < x) | none => true) && gJ a b l (some x)
def aO (l : List Int) (a b : Int) : Bool := gJ a b l none && decide ((l.length : Int) > 0)
theorem CV {aL rest : List Int} {x : Int} {i : Nat} (h : aL.drop i = x :: rest) : i = 0 ∨ ∃ y, aL[i - 1]? = some y := by
 cases i with
 | zero => exact .inl rfl
 | succ i =>
  right
  have : i < aL.length := by
   rcases Nat.lt_or_ge i aL.length with g | g
   ·exact g
   ·rw [List.drop_eq_nil_of_le (by omega)] at h; cases h
  exact ⟨aL[i], by simp [this]⟩
def fw (aL : List Int) (i : Nat) : Option Int := if i = 0 then none else aL[i - 1]?
theorem xN {aL rest : List Int} {x : Int} {i : Nat} (h : aL.drop i = x :: rest) : fw aL (i + 1) = some x := by
 unfold fw
 rw [if_neg (by omega)]
 show aL[i]? = some x
 rw [← List.head?_drop, h]; rfl
theorem E9 (aL : List Int) (a b : Int) (hl : aL.length ≤ 1050000) : ∀ (rest : List Int) (i : Nat), aL.drop i = rest → d6 aL a b rest i = some (if gJ a b rest (fw aL i) = true then .x0 else .ret false)
 | [], i, _ => rfl
 | x :: rest, i, h => by
  have ih := E9 aL a b hl rest (i + 1) (aK h)
  rw [xN h] at ih
  have hi : i < aL.length := by
   rcases Nat.lt_or_ge i aL.length with g | g
   ·exact g
   ·rw [List.drop_eq_nil_of_le g] at h; cases h
  unfold d6 gJ
  rw [ih]
  cases aD x a b with
  | false => rfl
  | true =>
   rw [cond_true, Bool.true_and]
   rcases CV h with rfl | ⟨y, hy⟩
   ·simp [fw]
   ·by_cases z : i = 0
    ·subst z; simp [fw]
    ·have hp : fw aL i = some y := by unfold fw; rw [if_neg z, hy]
     have hg : am aL (IntKind.wrap .i64 ((i : Int) - 1)) = some y := by
      rw [cU _ (by omega) (by omega)]
      have e : ((i : Int) - 1) = ((i - 1 : Nat) : Int) := by omega
      rw [e, fD, hy]
     rw [hp, hg, decide_eq_true (by omega : (i : Int) > 0), cond_true, Option.bind_some]
     simp only
     by_cases c : y ≥ x
     ·have yx : ¬ y < x := by omega
      rw [decide_eq_true c, cond_true]; simp [yx]
     ·have yx : y < x := by omega
      rw [decide_eq_false c, cond_false]; simp [yx]
theorem bQ (x0 : List Int) (x1 : Int) (x2 : Int) (h : x0.length ≤ 1050000) : Does E 45 [.one (.s .far () 1 (x0.map etI)), .one (tI x1), .one (tI x2)] [(false, [tB (aO x0 x1 x2)])] := by
 exact CB x0 x1 x2 _ (by
  unfold nS
  rw [if_pos (by omega), E9 x0 x1 x2 h x0 0 rfl]
  unfold aO fw
  rw [if_pos rfl]
  cases gJ x1 x2 x0 none <;> rfl)
noncomputable def pn (x0 : GCron) : Option (Bool) :=
  if x0.f0.length ≤ 1050000 then cond (aO x0.f0 (0 : Int) (59 : Int))
   (if x0.f1.length ≤ 1050000 then cond (aO x0.f1 (0 : Int) (23 : Int))
    (if x0.f2.length ≤ 1050000 then cond (aO x0.f2 (1 : Int) (31 : Int))
     (if x0.f3.length ≤ 1050000 then cond (aO x0.f3 (1 : Int) (12 : Int))
      (if x0.f4.length ≤ 1050000 then some (aO x0.f4 (0 : Int) (6 : Int)) else none)
      (some (false)) else none)
     (some (false)) else none)
    (some (false)) else none)
   (some (false)) else none
theorem Ee (x0 : GCron) : Ans (pn x0) (fun r => Does E 27 [.agg (GCron.t .far x0)] [(false, [tB r])]) := by
 unfold pn
 refine I5 (fun h0 => ?_)
 refine I3 (fun h1 => ?_) (fun h1 => ?_)
 ·refine I5 (fun h2 => ?_)
  refine I3 (fun h3 => ?_) (fun h3 => ?_)
  ·refine I5 (fun h4 => ?_)
   refine I3 (fun h5 => ?_) (fun h5 => ?_)
   ·refine I5 (fun h6 => ?_)
    refine I3 (fun h7 => ?_) (fun h7 => ?_)
    ·refine I5 (fun h8 => ?_)
     exact IX (IW (fn := Tryz.f27) [rT, rT, rT, rT, .ret [(false, [tB (aO x0.f4 (0 : Int) (6 : Int))])]] _ rfl (fun _ => rfl) (fun k => by kernel_rfl) (AD (I8 (bQ x0.f0 (0 : Int) (59 : Int) h0) h1) <| AD (I8 (bQ x0.f1 (0 : Int) (23 : Int) h2) h3) <| AD (I8 (bQ x0.f2 (1 : Int) (31 : Int) h4) h5) <| AD (I8 (bQ x0.f3 (1 : Int) (12 : Int) h6) h7) <| AD (bQ x0.f4 (0 : Int) (6 : Int) h8) <| AN))
    ·exact IX (IW (fn := Tryz.f27) [rT, rT, rT, rF] _ rfl (fun _ => rfl) (fun k => by kernel_rfl) (AD (I8 (bQ x0.f0 (0 : Int) (59 : Int) h0) h1) <| AD (I8 (bQ x0.f1 (0 : Int) (23 : Int) h2) h3) <| AD (I8 (bQ x0.f2 (1 : Int) (31 : Int) h4) h5) <| AD (I8 (bQ x0.f3 (1 : Int) (12 : Int) h6) h7) <| AN))
   ·exact IX (IW (fn := Tryz.f27) [rT, rT, rF] _ rfl (fun _ => rfl) (fun k => by kernel_rfl) (AD (I8 (bQ x0.f0 (0 : Int) (59 : Int) h0) h1) <| AD (I8 (bQ x0.f1 (0 : Int) (23 : Int) h2) h3) <| AD (I8 (bQ x0.f2 (1 : Int) (31 : Int) h4) h5) <| AN))
  ·exact IX (IW (fn := Tryz.f27) [rT, rF] _ rfl (fun _ => rfl) (fun k => by kernel_rfl) (AD (I8 (bQ x0.f0 (0 : Int) (59 : Int) h0) h1) <| AD (I8 (bQ x0.f1 (0 : Int) (23 : Int) h2) h3) <| AN))
 ·exact IX (IW (fn := Tryz.f27) [rF] _ rfl (fun _ => rfl) (fun k => by kernel_rfl) (AD (I8 (bQ x0.f0 (0 : Int) (59 : Int) h0) h1) <| AN))
def fj (c : GCron) : Bool := aO c.f0 0 59 && (aO c.f1 0 23 && (aO c.f2 1 31 && (aO c.f3 1 12 && aO c.f4 0 6)))
theorem t8 (x0 : GCron) (h : aq.sm x0) : Does E 27 [.agg (GCron.t .far x0)] [(false, [tB (fj x0)])] := by
 exact Ee x0 _ (by
  have h0 := h.1.1
  have h1 := h.2.1.1
  have h2 := h.2.2.1.1
  have h3 := h.2.2.2.1.1
  have h4 := h.2.2.2.2.1
  unfold pn fj
  simp only [h0, h1, h2, h3, h4, if_true]
  cases aO x0.f0 0 59 <;> cases aO x0.f1 0 23 <;> cases aO x0.f2 1 31 <;> cases aO x0.f3 1 12 <;> rfl)
inductive sk where
 | ret (v2 : Bool)
 | x2 
def dP (v1_0 v1_1 v1_2 v1_3 v1_4 : List Int) (v5 v6 : Int) (v7 : List Int) (v11 : Int) (v23 : List Int) (v24 v25 : Int) : US := stL 53 [(1, .box () [.s .far () 1 (v1_0.map etI), .s .far () 1 (v1_1.map etI), .s .far () 1 (v1_2.map etI), .s .far () 1 (v1_3.map etI), .s .far () 1 (v1_4.map etI)]), (5, .one (tI v5)), (6, .one (tI v6)), (7, .one (.s .far () 1 (v7.map etI))), (10, .clo (.arr [0, 1, 2, 3, 4]) [1, 1, 1, 1, 1]), (11, .one (tI v11)), (23, .one (.s .far () 1 (v23.map etI))), (24, .one (tI v24)), (25, .one (tI v25))]
def dj (zv2 : Bool) : US := stL 53 [(2, .one (tB zv2))]
def b9 (v1_0 v1_1 v1_2 v1_3 v1_4 v7 : List Int) (v11 : Int) : US := stL 53 [(1, .box () [.s .far () 1 (v1_0.map etI), .s .far () 1 (v1_1.map etI), .s .far () 1 (v1_2.map etI), .s .far () 1 (v1_3.map etI), .s .far () 1 (v1_4.map etI)]), (7, .one (.s .far () 1 (v7.map etI))), (10, .clo (.arr [0, 1, 2, 3, 4]) [1, 1, 1, 1, 1]), (11, .one (tI v11))]
abbrev jr : US → Exit → US → Prop := Round E 51 (aB Tryz.f51 1)
def bK (v1_0 v1_1 v1_2 v1_3 v1_4 : List Int) (v5 v6 : Int) (v7 : List Int) (v11 : Int) (v23 : List Int) (v24 v25 : Int) : sk → Prop
 | .ret zv2 => Loops E 51 (aB Tryz.f51 1) (dP v1_0 v1_1 v1_2 v1_3 v1_4 v5 v6 v7 v11 v23 v24 v25) .ret (dj zv2)
 | .x2 => Loops E 51 (aB Tryz.f51 1) (dP v1_0 v1_1 v1_2 v1_3 v1_4 v5 v6 v7 v11 v23 v24 v25) (.exit 2) (b9 v1_0 v1_1 v1_2 v1_3 v1_4 v7 v11)
theorem yi (v1_0 v1_1 v1_2 v1_3 v1_4 : List Int) (v5 v6 : Int) (v7 : List Int) (v11 : Int) (v23 : List Int) (v24 v25 g0 g1 : Int) (h0 : (decide (v25 < v24)) = true) (h1 : am v23 v25 = some g0) (h2 : (aD g0 v5 v6) = true) (h3 : (decide (v25 > (0 : Int))) = true) (h4 : am v7 (IntKind.wrap .i64 (v25 - (1 : Int))) = some g1) (h5 : (decide (g0 ≤ g1)) = true) : jr (dP v1_0 v1_1 v1_2 v1_3 v1_4 v5 v6 v7 v11 v23 v24 v25) .ret (dj false) :=
 IV [.b true, .row (etI g0), rT, .b true, .row (etI g1), .b true] _ (fun k => by kernel_rfl) (AC h0 <| AC (p := 0 ≤ v25 ∧ (v23.map etI)[v25.toNat]? = some (etI g0)) (az h1) <| AD (I8 (cC g0 v5 v6) h2) <| AC h3 <| AC (p := 0 ≤ (IntKind.wrap .i64 (v25 - (1 : Int))) ∧ (v7.map etI)[(IntKind.wrap .i64 (v25 - (1 : Int))).toNat]? = some (etI g1)) (az h4) <| AC h5 <| AN)
theorem yj (v1_0 v1_1 v1_2 v1_3 v1_4 : List Int) (v5 v6 : Int) (v7 : List Int) (v11 : Int) (v23 : List Int) (v24 v25 g0 g1 : Int) (h0 : (decide (v25 < v24)) = true) (h1 : am v23 v25 = some g0) (h2 : (aD g0 v5 v6) = true) (h3 : (decide (v25 > (0 : Int))) = true) (h4 : am v7 (IntKind.wrap .i64 (v25 - (1 : Int))) = some g1) (h5 : (decide (g0 ≤ g1)) = false) : jr (dP v1_0 v1_1 v1_2 v1_3 v1_4 v5 v6 v7 v11 v23 v24 v25) .normal (dP v1_0 v1_1 v1_2 v1_3 v1_4 v5 v6 v7 v11 v23 v24 (inc v25)) :=
 IV [.b true, .row (etI g0), rT, .b true, .row (etI g1), .b false] _ (fun k => by kernel_rfl) (AC h0 <| AC (p := 0 ≤ v25 ∧ (v23.map etI)[v25.toNat]? = some (etI g0)) (az h1) <| AD (I8 (cC g0 v5 v6) h2) <| AC h3 <| AC (p := 0 ≤ (IntKind.wrap .i64 (v25 - (1 : Int))) ∧ (v7.map etI)[(IntKind.wrap .i64 (v25 - (1 : Int))).toNat]? = some (etI g1)) (az h4) <| AC h5 <| AN)
theorem yk (v1_0 v1_1 v1_2 v1_3 v1_4 : List Int) (v5 v6 : Int) (v7 : List Int) (v11 : Int) (v23 : List Int) (v24 v25 g0 : Int) (h0 : (decide (v25 < v24)) = true) (h1 : am v23 v25 = some g0) (h2 : (aD g0 v5 v6) = true) (h3 : (decide (v25 > (0 : Int))) = false) : jr (dP v1_0 v1_1 v1_2 v1_3 v1_4 v5 v6 v7 v11 v23 v24 v25) .normal (dP v1_0 v1_1 v1_2 v1_3 v1_4 v5 v6 v7 v11 v23 v24 (inc v25)) :=
 IV [.b true, .row (etI g0), rT, .b false] _ (fun k => by kernel_rfl) (AC h0 <| AC (p := 0 ≤ v25 ∧ (v23.map etI)[v25.toNat]? = some (etI g0)) (az h1) <| AD (I8 (cC g0 v5 v6) h2) <| AC h3 <| AN)
theorem yl (v1_0 v1_1 v1_2 v1_3 v1_4 : List Int) (v5 v6 : Int) (v7 : List Int) (v11 : Int) (v23 : List Int) (v24 v25 g0 : Int) (h0 : (decide (v25 < v24)) = true) (h1 : am v23 v25 = some g0) (h2 : (aD g0 v5 v6) = false) : jr (dP v1_0 v1_1 v1_2 v1_3 v1_4 v5 v6 v7 v11 v23 v24 v25) .ret (dj false) :=
 IV [.b true, .row (etI g0), rF] _ (fun k => by kernel_rfl) (AC h0 <| AC (p := 0 ≤ v25 ∧ (v23.map etI)[v25.toNat]? = some (etI g0)) (az h1) <| AD (I8 (cC g0 v5 v6) h2) <| AN)
theorem ym (v1_0 v1_1 v1_2 v1_3 v1_4 : List Int) (v5 v6 : Int) (v7 : List Int) (v11 : Int) (v23 : List Int) (v24 v25 : Int) (h0 : (decide (v25 < v24)) = false) : jr (dP v1_0 v1_1 v1_2 v1_3 v1_4 v5 v6 v7 v11 v23 v24 v25) (.exit 2) (b9 v1_0 v1_1 v1_2 v1_3 v1_4 v7 v11) :=
 IV [.b false] _ (fun k => by kernel_rfl) (AC h0 <| AN)
noncomputable def cm (v5 v6 : Int) (v7 : List Int) : List Int → Nat → Option sk
 | [], i => some (.x2)
 | hd :: rest, i => cond (aD hd v5 v6)
  (cond (decide ((i : Int) > (0 : Int)))
   ((am v7 (IntKind.wrap .i64 ((i : Int) - (1 : Int)))).bind fun g1 => cond (decide (hd ≤ g1))
    (some (.ret false))
    (cm v5 v6 v7 rest (i + 1)))
   (cm v5 v6 v7 rest (i + 1)))
  (some (.ret false))
theorem js (v1_0 v1_1 v1_2 v1_3 v1_4 : List Int) (v5 v6 : Int) (v7 : List Int) (v11 : Int) (v23 : List Int) (rest : List Int) : ∀ (i : Nat) , (v23).drop i = rest → v23.length ≤ 9223372036854775807 → Ans (cm v5 v6 v7 rest i) (bK v1_0 v1_1 v1_2 v1_3 v1_4 v5 v6 v7 v11 v23 (v23.length : Int) (i : Int)) := by
 induction rest with
 | nil =>
  intro i hE hl
  have hb := bH hE
  unfold cm
  exact IX (IZ (ym v1_0 v1_1 v1_2 v1_3 v1_4 v5 v6 v7 v11 v23 (v23.length : Int) (i : Int) hb) (by intro h; cases h))
 | cons hd rest ih =>
  intro i hE hl
  have hb := bh hE
  have hw := bi hE hl
  have hE2 := aK hE
  have hg := bq hE
  unfold cm
  refine I3 (fun h2 => ?_) (fun h2 => ?_)
  ·refine I3 (fun h3 => ?_) (fun h3 => ?_)
   ·refine I4 (fun g1 h4 => ?_)
    refine I3 (fun h5 => ?_) (fun h5 => ?_)
    ·exact IX (IZ (yi v1_0 v1_1 v1_2 v1_3 v1_4 v5 v6 v7 v11 v23 (v23.length : Int) (i : Int) hd g1 hb hg h2 h3 h4 h5) (by intro h; cases h))
    ·exact (ih (i + 1) hE2 hl).mono fun y hy => by have r := yj v1_0 v1_1 v1_2 v1_3 v1_4 v5 v6 v7 v11 v23 (v23.length : Int) (i : Int) hd g1 hb hg h2 h3 h4 h5; rw [hw] at r; cases y <;> exact IY r hy
   ·exact (ih (i + 1) hE2 hl).mono fun y hy => by have r := yk v1_0 v1_1 v1_2 v1_3 v1_4 v5 v6 v7 v11 v23 (v23.length : Int) (i : Int) hd hb hg h2 h3; rw [hw] at r; cases y <;> exact IY r hy
  ·exact IX (IZ (yl v1_0 v1_1 v1_2 v1_3 v1_4 v5 v6 v7 v11 v23 (v23.length : Int) (i : Int) hd hb hg h2) (by intro h; cases h))
inductive nI where
 | ret (v2 : Bool)
 | x0 
def aY (v1_0 v1_1 v1_2 v1_3 v1_4 : List Int) (v11 : Int) : US := stL 53 [(1, .box () [.s .far () 1 (v1_0.map etI), .s .far () 1 (v1_1.map etI), .s .far () 1 (v1_2.map etI), .s .far () 1 (v1_3.map etI), .s .far () 1 (v1_4.map etI)]), (10, .clo (.arr [0, 1, 2, 3, 4]) [1, 1, 1, 1, 1]), (11, .one (tI v11))]
def bN (zv2 : Bool) : US := stL 53 [(2, .one (tB zv2))]
def lS  : US := stL 53 []
abbrev bJ : US → Exit → US → Prop := Round E 51 (aB Tryz.f51 0)
def Cd (v1_0 v1_1 v1_2 v1_3 v1_4 : List Int) (v11 : Int) : nI → Prop
 | .ret zv2 => Loops E 51 (aB Tryz.f51 0) (aY v1_0 v1_1 v1_2 v1_3 v1_4 v11) .ret (bN zv2)
 | .x0 => Loops E 51 (aB Tryz.f51 0) (aY v1_0 v1_1 v1_2 v1_3 v1_4 v11) (.exit 0) (lS)
theorem x8 (v1_0 v1_1 v1_2 v1_3 v1_4 : List Int) (v11 : Int) (w0_2 : Bool) (h0 : (decide (v11 < (5 : Int))) = true) (h1 : (v11 == (0 : Int)) = true) (h2 : bK v1_0 v1_1 v1_2 v1_3 v1_4 ((ak v11).1) ((ak v11).2) v1_0 v11 v1_0 (v1_0.length : Int) (0 : Int) (.ret w0_2)) : bJ (aY v1_0 v1_1 v1_2 v1_3 v1_4 v11) .ret (bN w0_2) :=
 IV [.b true, .val (.int .i64 0), .ret [(false, [tI ((ak v11).1)]), (false, [tI ((ak v11).2)])], .val (.int .i64 (v1_0.length : Int)), .lp .ret (dj w0_2)] _ (fun k => by kernel_rfl) (AC h0 <| AC (p := v11 = (0 : Int)) (eq_of_beq h1) <| AD (bF v11) <| AC (p := ((v1_0.map etI).length : Int) = (v1_0.length : Int)) ag <| AL h2 <| AN)
theorem x9 (v1_0 v1_1 v1_2 v1_3 v1_4 : List Int) (v11 : Int) (h0 : (decide (v11 < (5 : Int))) = true) (h1 : (v11 == (0 : Int)) = true) (h2 : bK v1_0 v1_1 v1_2 v1_3 v1_4 ((ak v11).1) ((ak v11).2) v1_0 v11 v1_0 (v1_0.length : Int) (0 : Int) (.x2)) (h3 : ((v1_0.length : Int) == (0 : Int)) = true) : bJ (aY v1_0 v1_1 v1_2 v1_3 v1_4 v11) .ret (bN false) :=
 IV [.b true, .val (.int .i64 0), .ret [(false, [tI ((ak v11).1)]), (false, [tI ((ak v11).2)])], .val (.int .i64 (v1_0.length : Int)), .lp (.exit 2) (b9 v1_0 v1_1 v1_2 v1_3 v1_4 v1_0 v11), .val (.int .i64 (v1_0.length : Int)), .b true] _ (fun k => by kernel_rfl) (AC h0 <| AC (p := v11 = (0 : Int)) (eq_of_beq h1) <| AD (bF v11) <| AC (p := ((v1_0.map etI).length : Int) = (v1_0.length : Int)) ag <| AL h2 <| AC (p := ((v1_0.map etI).length : Int) = (v1_0.length : Int)) ag <| AC h3 <| AN)
theorem ya (v1_0 v1_1 v1_2 v1_3 v1_4 : List Int) (v11 : Int) (h0 : (decide (v11 < (5 : Int))) = true) (h1 : (v11 == (0 : Int)) = true) (h2 : bK v1_0 v1_1 v1_2 v1_3 v1_4 ((ak v11).1) ((ak v11).2) v1_0 v11 v1_0 (v1_0.length : Int) (0 : Int) (.x2)) (h3 : ((v1_0.length : Int) == (0 : Int)) = false) : bJ (aY v1_0 v1_1 v1_2 v1_3 v1_4 v11) .normal (aY v1_0 v1_1 v1_2 v1_3 v1_4 (inc v11)) :=
 IV [.b true, .val (.int .i64 0), .ret [(false, [tI ((ak v11).1)]), (false, [tI ((ak v11).2)])], .val (.int .i64 (v1_0.length : Int)), .lp (.exit 2) (b9 v1_0 v1_1 v1_2 v1_3 v1_4 v1_0 v11), .val (.int .i64 (v1_0.length : Int)), .b false] _ (fun k => by kernel_rfl) (AC h0 <| AC (p := v11 = (0 : Int)) (eq_of_beq h1) <| AD (bF v11) <| AC (p := ((v1_0.map etI).length : Int) = (v1_0.length : Int)) ag <| AL h2 <| AC (p := ((v1_0.map etI).length : Int) = (v1_0.length : Int)) ag <| AC h3 <| AN)
theorem yb (v1_0 v1_1 v1_2 v1_3 v1_4 : List Int) (v11 : Int) (w0_2 : Bool) (h0 : (decide (v11 < (5 : Int))) = true) (h1 : (v11 == (0 : Int)) = false) (h2 : (v11 == (1 : Int)) = true) (h3 : bK v1_0 v1_1 v1_2 v1_3 v1_4 ((ak v11).1) ((ak v11).2) v1_1 v11 v1_1 (v1_1.length : Int) (0 : Int) (.ret w0_2)) : bJ (aY v1_0 v1_1 v1_2 v1_3 v1_4 v11) .ret (bN w0_2) :=
 IV [.b true, .val (.int .i64 1), .ret [(false, [tI ((ak v11).1)]), (false, [tI ((ak v11).2)])], .val (.int .i64 (v1_1.length : Int)), .lp .ret (dj w0_2)] _ (fun k => by kernel_rfl) (AC h0 <| AC (p := v11 = (1 : Int)) (eq_of_beq h2) <| AD (bF v11) <| AC (p := ((v1_1.map etI).length : Int) = (v1_1.length : Int)) ag <| AL h3 <| AN)
theorem yc (v1_0 v1_1 v1_2 v1_3 v1_4 : List Int) (v11 : Int) (h0 : (decide (v11 < (5 : Int))) = true) (h1 : (v11 == (0 : Int)) = false) (h2 : (v11 == (1 : Int)) = true) (h3 : bK v1_0 v1_1 v1_2 v1_3 v1_4 ((ak v11).1) ((ak v11).2) v1_1 v11 v1_1 (v1_1.length : Int) (0 : Int) (.x2)) (h4 : ((v1_1.length : Int) == (0 : Int)) = true) : bJ (aY v1_0 v1_1 v1_2 v1_3 v1_4 v11) .ret (bN false) :=
 IV [.b true, .val (.int .i64 1), .ret [(false, [tI ((ak v11).1)]), (false, [tI ((ak v11).2)])], .val (.int .i64 (v1_1.length : Int)), .lp (.exit 2) (b9 v1_0 v1_1 v1_2 v1_3 v1_4 v1_1 v11), .val (.int .i64 (v1_1.length : Int)), .b true] _ (fun k => by kernel_rfl) (AC h0 <| AC (p := v11 = (1 : Int)) (eq_of_beq h2) <| AD (bF v11) <| AC (p := ((v1_1.map etI).length : Int) = (v1_1.length : Int)) ag <| AL h3 <| AC (p := ((v1_1.map etI).length : Int) = (v1_1.length : Int)) ag <| AC h4 <| AN)
theorem yd (v1_0 v1_1 v1_2 v1_3 v1_4 : List Int) (v11 : Int) (h0 : (decide (v11 < (5 : Int))) = true) (h1 : (v11 == (0 : Int)) = false) (h2 : (v11 == (1 : Int)) = true) (h3 : bK v1_0 v1_1 v1_2 v1_3 v1_4 ((ak v11).1) ((ak v11).2) v1_1 v11 v1_1 (v1_1.length : Int) (0 : Int) (.x2)) (h4 : ((v1_1.length : Int) == (0 : Int)) = false) : bJ (aY v1_0 v1_1 v1_2 v1_3 v1_4 v11) .normal (aY v1_0 v1_1 v1_2 v1_3 v1_4 (inc v11)) :=
 IV [.b true, .val (.int .i64 1), .ret [(false, [tI ((ak v11).1)]), (false, [tI ((ak v11).2)])], .val (.int .i64 (v1_1.length : Int)), .lp (.exit 2) (b9 v1_0 v1_1 v1_2 v1_3 v1_4 v1_1 v11), .val (.int .i64 (v1_1.length : Int)), .b false] _ (fun k => by kernel_rfl) (AC h0 <| AC (p := v11 = (1 : Int)) (eq_of_beq h2) <| AD (bF v11) <| AC (p := ((v1_1.map etI).length : Int) = (v1_1.length : Int)) ag <| AL h3 <| AC (p := ((v1_1.map etI).length : Int) = (v1_1.length : Int)) ag <| AC h4 <| AN)
theorem ye (v1_0 v1_1 v1_2 v1_3 v1_4 : List Int) (v11 : Int) (w0_2 : Bool) (h0 : (decide (v11 < (5 : Int))) = true) (h1 : (v11 == (0 : Int)) = false) (h2 : (v11 == (1 : Int)) = false) (h3 : (v11 == (2 : Int)) = true) (h4 : bK v1_0 v1_1 v1_2 v1_3 v1_4 ((ak v11).1) ((ak v11).2) v1_2 v11 v1_2 (v1_2.length : Int) (0 : Int) (.ret w0_2)) : bJ (aY v1_0 v1_1 v1_2 v1_3 v1_4 v11) .ret (bN w0_2) :=
 IV [.b true, .val (.int .i64 2), .ret [(false, [tI ((ak v11).1)]), (false, [tI ((ak v11).2)])], .val (.int .i64 (v1_2.length : Int)), .lp .ret (dj w0_2)] _ (fun k => by kernel_rfl) (AC h0 <| AC (p := v11 = (2 : Int)) (eq_of_beq h3) <| AD (bF v11) <| AC (p := ((v1_2.map etI).length : Int) = (v1_2.length : Int)) ag <| AL h4 <| AN)
theorem yf (v1_0 v1_1 v1_2 v1_3 v1_4 : List Int) (v11 : Int) (h0 : (decide (v11 < (5 : Int))) = true) (h1 : (v11 == (0 : Int)) = false) (h2 : (v11 == (1 : Int)) = false) (h3 : (v11 == (2 : Int)) = true) (h4 : bK v1_0 v1_1 v1_2 v1_3 v1_4 ((ak v11).1) ((ak v11).2) v1_2 v11 v1_2 (v1_2.length : Int) (0 : Int) (.x2)) (h5 : ((v1_2.length : Int) == (0 : Int)) = true) : bJ (aY v1_0 v1_1 v1_2 v1_3 v1_4 v11) .ret (bN false) :=
 IV [.b true, .val (.int .i64 2), .ret [(false, [tI ((ak v11).1)]), (false, [tI ((ak v11).2)])], .val (.int .i64 (v1_2.length : Int)), .lp (.exit 2) (b9 v1_0 v1_1 v1_2 v1_3 v1_4 v1_2 v11), .val (.int .i64 (v1_2.length : Int)), .b true] _ (fun k => by kernel_rfl) (AC h0 <| AC (p := v11 = (2 : Int)) (eq_of_beq h3) <| AD (bF v11) <| AC (p := ((v1_2.map etI).length : Int) = (v1_2.length : Int)) ag <| AL h4 <| AC (p := ((v1_2.map etI).length : Int) = (v1_2.length : Int)) ag <| AC h5 <| AN)
theorem yg (v1_0 v1_1 v1_2 v1_3 v1_4 : List Int) (v11 : Int) (h0 : (decide (v11 < (5 : Int))) = true) (h1 : (v11 == (0 : Int)) = false) (h2 : (v11 == (1 : Int)) = false) (h3 : (v11 == (2 : Int)) = true) (h4 : bK v1_0 v1_1 v1_2 v1_3 v1_4 ((ak v11).1) ((ak v11).2) v1_2 v11 v1_2 (v1_2.length : Int) (0 : Int) (.x2)) (h5 : ((v1_2.length : Int) == (0 : Int)) = false) : bJ (aY v1_0 v1_1 v1_2 v1_3 v1_4 v11) .normal (aY v1_0 v1_1 v1_2 v1_3 v1_4 (inc v11)) :=
 IV [.b true, .val (.int .i64 2), .ret [(false, [tI ((ak v11).1)]), (false, [tI ((ak v11).2)])], .val (.int .i64 (v1_2.length : Int)), .lp (.exit 2) (b9 v1_0 v1_1 v1_2 v1_3 v1_4 v1_2 v11), .val (.int .i64 (v1_2.length : Int)), .b false] _ (fun k => by kernel_rfl) (AC h0 <| AC (p := v11 = (2 : Int)) (eq_of_beq h3) <| AD (bF v11) <| AC (p := ((v1_2.map etI).length : Int) = (v1_2.length : Int)) ag <| AL h4 <| AC (p := ((v1_2.map etI).length : Int) = (v1_2.length : Int)) ag <| AC h5 <| AN)
theorem yh (v1_0 v1_1 v1_2 v1_3 v1_4 : List Int) (v11 : Int) (w0_2 : Bool) (h0 : (decide (v11 < (5 : Int))) = true) (h1 : (v11 == (0 : Int)) = false) (h2 : (v11 == (1 : Int)) = false) (h3 : (v11 == (2 : Int)) = false) (h4 : (v11 == (3 : Int)) = true) (h5 : bK v1_0 v1_1 v1_2 v1_3 v1_4 ((ak v11).1) ((ak v11).2) v1_3 v11 v1_3 (v1_3.length : Int) (0 : Int) (.ret w0_2)) : bJ (aY v1_0 v1_1 v1_2 v1_3 v1_4 v11) .ret (bN w0_2) :=
 IV [.b true, .val (.int .i64 3), .ret [(false, [tI ((ak v11).1)]), (false, [tI ((ak v11).2)])], .val (.int .i64 (v1_3.length : Int)), .lp .ret (dj w0_2)] _ (fun k => by kernel_rfl) (AC h0 <| AC (p := v11 = (3 : Int)) (eq_of_beq h4) <| AD (bF v11) <| AC (p := ((v1_3.map etI).length : Int) = (v1_3.length : Int)) ag <| AL h5 <| AN)
theorem vT (v1_0 v1_1 v1_2 v1_3 v1_4 : List Int) (v11 : Int) (h0 : (decide (v11 < (5 : Int))) = true) (h1 : (v11 == (0 : Int)) = false) (h2 : (v11 == (1 : Int)) = false) (h3 : (v11 == (2 : Int)) = false) (h4 : (v11 == (3 : Int)) = true) (h5 : bK v1_0 v1_1 v1_2 v1_3 v1_4 ((ak v11).1) ((ak v11).2) v1_3 v11 v1_3 (v1_3.length : Int) (0 : Int) (.x2)) (h6 : ((v1_3.length : Int) == (0 : Int)) = true) : bJ (aY v1_0 v1_1 v1_2 v1_3 v1_4 v11) .ret (bN false) :=
 IV [.b true, .val (.int .i64 3), .ret [(false, [tI ((ak v11).1)]), (false, [tI ((ak v11).2)])], .val (.int .i64 (v1_3.length : Int)), .lp (.exit 2) (b9 v1_0 v1_1 v1_2 v1_3 v1_4 v1_3 v11), .val (.int .i64 (v1_3.length : Int)), .b true] _ (fun k => by kernel_rfl) (AC h0 <| AC (p := v11 = (3 : Int)) (eq_of_beq h4) <| AD (bF v11) <| AC (p := ((v1_3.map etI).length : Int) = (v1_3.length : Int)) ag <| AL h5 <| AC (p := ((v1_3.map etI).length : Int) = (v1_3.length : Int)) ag <| AC h6 <| AN)
theorem vU (v1_0 v1_1 v1_2 v1_3 v1_4 : List Int) (v11 : Int) (h0 : (decide (v11 < (5 : Int))) = true) (h1 : (v11 == (0 : Int)) = false) (h2 : (v11 == (1 : Int)) = false) (h3 : (v11 == (2 : Int)) = false) (h4 : (v11 == (3 : Int)) = true) (h5 : bK v1_0 v1_1 v1_2 v1_3 v1_4 ((ak v11).1) ((ak v11).2) v1_3 v11 v1_3 (v1_3.length : Int) (0 : Int) (.x2)) (h6 : ((v1_3.length : Int) == (0 : Int)) = false) : bJ (aY v1_0 v1_1 v1_2 v1_3 v1_4 v11) .normal (aY v1_0 v1_1 v1_2 v1_3 v1_4 (inc v11)) :=
 IV [.b true, .val (.int .i64 3), .ret [(false, [tI ((ak v11).1)]), (false, [tI ((ak v11).2)])], .val (.int .i64 (v1_3.length : Int)), .lp (.exit 2) (b9 v1_0 v1_1 v1_2 v1_3 v1_4 v1_3 v11), .val (.int .i64 (v1_3.length : Int)), .b false] _ (fun k => by kernel_rfl) (AC h0 <| AC (p := v11 = (3 : Int)) (eq_of_beq h4) <| AD (bF v11) <| AC (p := ((v1_3.map etI).length : Int) = (v1_3.length : Int)) ag <| AL h5 <| AC (p := ((v1_3.map etI).length : Int) = (v1_3.length : Int)) ag <| AC h6 <| AN)
theorem vV (v1_0 v1_1 v1_2 v1_3 v1_4 : List Int) (v11 : Int) (w0_2 : Bool) (h0 : (decide (v11 < (5 : Int))) = true) (h1 : (v11 == (0 : Int)) = false) (h2 : (v11 == (1 : Int)) = false) (h3 : (v11 == (2 : Int)) = false) (h4 : (v11 == (3 : Int)) = false) (h5 : v11 = (4 : Int)) (h6 : bK v1_0 v1_1 v1_2 v1_3 v1_4 ((ak v11).1) ((ak v11).2) v1_4 v11 v1_4 (v1_4.length : Int) (0 : Int) (.ret w0_2)) : bJ (aY v1_0 v1_1 v1_2 v1_3 v1_4 v11) .ret (bN w0_2) :=
 IV [.b true, .val (.int .i64 4), .ret [(false, [tI ((ak v11).1)]), (false, [tI ((ak v11).2)])], .val (.int .i64 (v1_4.length : Int)), .lp .ret (dj w0_2)] _ (fun k => by kernel_rfl) (AC h0 <| AC h5 <| AD (bF v11) <| AC (p := ((v1_4.map etI).length : Int) = (v1_4.length : Int)) ag <| AL h6 <| AN)
theorem vW (v1_0 v1_1 v1_2 v1_3 v1_4 : List Int) (v11 : Int) (h0 : (decide (v11 < (5 : Int))) = true) (h1 : (v11 == (0 : Int)) = false) (h2 : (v11 == (1 : Int)) = false) (h3 : (v11 == (2 : Int)) = false) (h4 : (v11 == (3 : Int)) = false) (h5 : v11 = (4 : Int)) (h6 : bK v1_0 v1_1 v1_2 v1_3 v1_4 ((ak v11).1) ((ak v11).2) v1_4 v11 v1_4 (v1_4.length : Int) (0 : Int) (.x2)) (h7 : ((v1_4.length : Int) == (0 : Int)) = true) : bJ (aY v1_0 v1_1 v1_2 v1_3 v1_4 v11) .ret (bN false) :=
 IV [.b true, .val (.int .i64 4), .ret [(false, [tI ((ak v11).1)]), (false, [tI ((ak v11).2)])], .val (.int .i64 (v1_4.length : Int)), .lp (.exit 2) (b9 v1_0 v1_1 v1_2 v1_3 v1_4 v1_4 v11), .val (.int .i64 (v1_4.length : Int)), .b true] _ (fun k => by kernel_rfl) (AC h0 <| AC h5 <| AD (bF v11) <| AC (p := ((v1_4.map etI).length : Int) = (v1_4.length : Int)) ag <| AL h6 <| AC (p := ((v1_4.map etI).length : Int) = (v1_4.length : Int)) ag <| AC h7 <| AN)
theorem vX (v1_0 v1_1 v1_2 v1_3 v1_4 : List Int) (v11 : Int) (h0 : (decide (v11 < (5 : Int))) = true) (h1 : (v11 == (0 : Int)) = false) (h2 : (v11 == (1 : Int)) = false) (h3 : (v11 == (2 : Int)) = false) (h4 : (v11 == (3 : Int)) = false) (h5 : v11 = (4 : Int)) (h6 : bK v1_0 v1_1 v1_2 v1_3 v1_4 ((ak v11).1) ((ak v11).2) v1_4 v11 v1_4 (v1_4.length : Int) (0 : Int) (.x2)) (h7 : ((v1_4.length : Int) == (0 : Int)) = false) : bJ (aY v1_0 v1_1 v1_2 v1_3 v1_4 v11) .normal (aY v1_0 v1_1 v1_2 v1_3 v1_4 (inc v11)) :=
 IV [.b true, .val (.int .i64 4), .ret [(false, [tI ((ak v11).1)]), (false, [tI ((ak v11).2)])], .val (.int .i64 (v1_4.length : Int)), .lp (.exit 2) (b9 v1_0 v1_1 v1_2 v1_3 v1_4 v1_4 v11), .val (.int .i64 (v1_4.length : Int)), .b false] _ (fun k => by kernel_rfl) (AC h0 <| AC h5 <| AD (bF v11) <| AC (p := ((v1_4.map etI).length : Int) = (v1_4.length : Int)) ag <| AL h6 <| AC (p := ((v1_4.map etI).length : Int) = (v1_4.length : Int)) ag <| AC h7 <| AN)
theorem vY (v1_0 v1_1 v1_2 v1_3 v1_4 : List Int) (v11 : Int) (h0 : (decide (v11 < (5 : Int))) = false) : bJ (aY v1_0 v1_1 v1_2 v1_3 v1_4 v11) (.exit 0) (lS) :=
 IV [.b false] _ (fun k => by kernel_rfl) (AC h0 <| AN)
noncomputable def bc (v1_0 v1_1 v1_2 v1_3 v1_4 : List Int) : Nat → Int → Option nI
 | 0, _ => none
 | n + 1, v11 => cond (decide (v11 < (5 : Int)))
  (cond (v11 == (0 : Int))
   (if v1_0.length ≤ 9223372036854775807 then (cm ((ak v11).1) ((ak v11).2) v1_0 v1_0 0).bind fun y => match y with
    | .ret w0_2 => (some (.ret w0_2))
    | .x2 => (cond ((v1_0.length : Int) == (0 : Int))
     (some (.ret false))
     (bc v1_0 v1_1 v1_2 v1_3 v1_4 n (inc v11))) else none)
   (cond (v11 == (1 : Int))
    (if v1_1.length ≤ 9223372036854775807 then (cm ((ak v11).1) ((ak v11).2) v1_1 v1_1 0).bind fun y => match y with
     | .ret w0_2 => (some (.ret w0_2))
     | .x2 => (cond ((v1_1.length : Int) == (0 : Int))
      (some (.ret false))
      (bc v1_0 v1_1 v1_2 v1_3 v1_4 n (inc v11))) else none)
    (cond (v11 == (2 : Int))
     (if v1_2.length ≤ 9223372036854775807 then (cm ((ak v11).1) ((ak v11).2) v1_2 v1_2 0).bind fun y => match y with
      | .ret w0_2 => (some (.ret w0_2))
      | .x2 => (cond ((v1_2.length : Int) == (0 : Int))
       (some (.ret false))
       (bc v1_0 v1_1 v1_2 v1_3 v1_4 n (inc v11))) else none)
     (cond (v11 == (3 : Int))
      (if v1_3.length ≤ 9223372036854775807 then (cm ((ak v11).1) ((ak v11).2) v1_3 v1_3 0).bind fun y => match y with
       | .ret w0_2 => (some (.ret w0_2))
       | .x2 => (cond ((v1_3.length : Int) == (0 : Int))
        (some (.ret false))
        (bc v1_0 v1_1 v1_2 v1_3 v1_4 n (inc v11))) else none)
      (if v11 = (4 : Int) then if v1_4.length ≤ 9223372036854775807 then (cm ((ak v11).1) ((ak v11).2) v1_4 v1_4 0).bind fun y => match y with
       | .ret w0_2 => (some (.ret w0_2))
       | .x2 => (cond ((v1_4.length : Int) == (0 : Int))
        (some (.ret false))
        (bc v1_0 v1_1 v1_2 v1_3 v1_4 n (inc v11))) else none else none)))))
  (some (.x0))
theorem Cc (v1_0 v1_1 v1_2 v1_3 v1_4 : List Int) (n : Nat) : ∀ (v11 : Int), Ans (bc v1_0 v1_1 v1_2 v1_3 v1_4 n v11) (Cd v1_0 v1_1 v1_2 v1_3 v1_4 v11) := by
 induction n with
 | zero => intros; exact Ans.none
 | succ n ih =>
  intro v11
  unfold bc
  refine I3 (fun h0 => ?_) (fun h0 => ?_)
  ·refine I3 (fun h1 => ?_) (fun h1 => ?_)
   ·refine I5 (fun hl4 => ?_)
    refine I4 (fun y hy => ?_)
    replace hy := js v1_0 v1_1 v1_2 v1_3 v1_4 ((ak v11).1) ((ak v11).2) v1_0 v11 v1_0 v1_0 0 rfl hl4 y hy
    cases y with
    | ret w0_2 =>
     have h2 := hy
     exact IX (IZ (x8 v1_0 v1_1 v1_2 v1_3 v1_4 v11 w0_2 h0 h1 h2) (by intro h; cases h))
    | x2 =>
     have h2 := hy
     refine I3 (fun h3 => ?_) (fun h3 => ?_)
     ·exact IX (IZ (x9 v1_0 v1_1 v1_2 v1_3 v1_4 v11 h0 h1 h2 h3) (by intro h; cases h))
     ·exact (ih (inc v11)).mono fun y hy => by cases y <;> exact IY (ya v1_0 v1_1 v1_2 v1_3 v1_4 v11 h0 h1 h2 h3) hy
   ·refine I3 (fun h2 => ?_) (fun h2 => ?_)
    ·refine I5 (fun hl5 => ?_)
     refine I4 (fun y hy => ?_)
     replace hy := js v1_0 v1_1 v1_2 v1_3 v1_4 ((ak v11).1) ((ak v11).2) v1_1 v11 v1_1 v1_1 0 rfl hl5 y hy
     cases y with
     | ret w0_2 =>
      have h3 := hy
      exact IX (IZ (yb v1_0 v1_1 v1_2 v1_3 v1_4 v11 w0_2 h0 h1 h2 h3) (by intro h; cases h))
     | x2 =>
      have h3 := hy
      refine I3 (fun h4 => ?_) (fun h4 => ?_)
      ·exact IX (IZ (yc v1_0 v1_1 v1_2 v1_3 v1_4 v11 h0 h1 h2 h3 h4) (by intro h; cases h))
      ·exact (ih (inc v11)).mono fun y hy => by cases y <;> exact IY (yd v1_0 v1_1 v1_2 v1_3 v1_4 v11 h0 h1 h2 h3 h4) hy
    ·refine I3 (fun h3 => ?_) (fun h3 => ?_)
     ·refine I5 (fun hl6 => ?_)
      refine I4 (fun y hy => ?_)
      replace hy := js v1_0 v1_1 v1_2 v1_3 v1_4 ((ak v11).1) ((ak v11).2) v1_2 v11 v1_2 v1_2 0 rfl hl6 y hy
      cases y with
      | ret w0_2 =>
       have h4 := hy
       exact IX (IZ (ye v1_0 v1_1 v1_2 v1_3 v1_4 v11 w0_2 h0 h1 h2 h3 h4) (by intro h; cases h))
      | x2 =>
       have h4 := hy
       refine I3 (fun h5 => ?_) (fun h5 => ?_)
       ·exact IX (IZ (yf v1_0 v1_1 v1_2 v1_3 v1_4 v11 h0 h1 h2 h3 h4 h5) (by intro h; cases h))
       ·exact (ih (inc v11)).mono fun y hy => by cases y <;> exact IY (yg v1_0 v1_1 v1_2 v1_3 v1_4 v11 h0 h1 h2 h3 h4 h5) hy
     ·refine I3 (fun h4 => ?_) (fun h4 => ?_)
      ·refine I5 (fun hl7 => ?_)
       refine I4 (fun y hy => ?_)
       replace hy := js v1_0 v1_1 v1_2 v1_3 v1_4 ((ak v11).1) ((ak v11).2) v1_3 v11 v1_3 v1_3 0 rfl hl7 y hy
       cases y with
       | ret w0_2 =>
        have h5 := hy
        exact IX (IZ (yh v1_0 v1_1 v1_2 v1_3 v1_4 v11 w0_2 h0 h1 h2 h3 h4 h5) (by intro h; cases h))
       | x2 =>
        have h5 := hy
        refine I3 (fun h6 => ?_) (fun h6 => ?_)
        ·exact IX (IZ (vT v1_0 v1_1 v1_2 v1_3 v1_4 v11 h0 h1 h2 h3 h4 h5 h6) (by intro h; cases h))
        ·exact (ih (inc v11)).mono fun y hy => by cases y <;> exact IY (vU v1_0 v1_1 v1_2 v1_3 v1_4 v11 h0 h1 h2 h3 h4 h5 h6) hy
      ·refine I5 (fun h5 => ?_)
       refine I5 (fun hl7 => ?_)
       refine I4 (fun y hy => ?_)
       replace hy := js v1_0 v1_1 v1_2 v1_3 v1_4 ((ak v11).1) ((ak v11).2) v1_4 v11 v1_4 v1_4 0 rfl hl7 y hy
       cases y with
       | ret w0_2 =>
        have h6 := hy
        exact IX (IZ (vV v1_0 v1_1 v1_2 v1_3 v1_4 v11 w0_2 h0 h1 h2 h3 h4 h5 h6) (by intro h; cases h))
       | x2 =>
        have h6 := hy
        refine I3 (fun h7 => ?_) (fun h7 => ?_)
        ·exact IX (IZ (vW v1_0 v1_1 v1_2 v1_3 v1_4 v11 h0 h1 h2 h3 h4 h5 h6 h7) (by intro h; cases h))
        ·exact (ih (inc v11)).mono fun y hy => by cases y <;> exact IY (vX v1_0 v1_1 v1_2 v1_3 v1_4 v11 h0 h1 h2 h3 h4 h5 h6 h7) hy
  ·exact IX (IZ (vY v1_0 v1_1 v1_2 v1_3 v1_4 v11 h0) (by intro h; cases h))
noncomputable def mh (x0 : GCron) : Option (Bool) :=
  (bc x0.f0 x0.f1 x0.f2 x0.f3 x0.f4 9223372036854775808 (0 : Int)).bind fun y => match y with
   | .ret w0_2 => (some (w0_2))
   | .x0 => (some (true))
theorem DK (x0 : GCron) : Ans (mh x0) (fun r => Does E 51 [.agg (GCron.t .far x0)] [(false, [tB r])]) := by
 unfold mh
 refine I4 (fun y hy => ?_)
 replace hy := Cc x0.f0 x0.f1 x0.f2 x0.f3 x0.f4 9223372036854775808 (0 : Int) y hy
 cases y with
 | ret w0_2 =>
  have h0 := hy
  exact IX (IW (fn := Tryz.f51) [.lp .ret (bN w0_2)] _ rfl (fun _ => rfl) (fun k => by kernel_rfl) (AL h0 <| AN))
 | x0 =>
  have h0 := hy
  exact IX (IW (fn := Tryz.f51) [.lp (.exit 0) (lS)] _ rfl (fun _ => rfl) (fun k => by kernel_rfl) (AL h0 <| AN))
theorem Ez (aL : List Int) (a b : Int) (hl : aL.length ≤ 1050000) : ∀ (rest : List Int) (i : Nat), aL.drop i = rest → cm a b aL rest i = some (if gJ a b rest (fw aL i) = true then .x2 else .ret false)
 | [], i, _ => rfl
 | x :: rest, i, h => by
  have ih := Ez aL a b hl rest (i + 1) (aK h)
  rw [xN h] at ih
  have hi : i < aL.length := by
   rcases Nat.lt_or_ge i aL.length with g | g
   ·exact g
   ·rw [List.drop_eq_nil_of_le g] at h; cases h
  unfold cm gJ
  rw [ih]
  cases aD x a b with
  | false => rfl
  | true =>
   rw [cond_true, Bool.true_and]
   rcases CV h with rfl | ⟨y, hy⟩
   ·simp [fw]
   ·by_cases z : i = 0
    ·subst z; simp [fw]
    ·have hp : fw aL i = some y := by unfold fw; rw [if_neg z, hy]
     have hg : am aL (IntKind.wrap .i64 ((i : Int) - 1)) = some y := by
      rw [cU _ (by omega) (by omega)]
      have e : ((i : Int) - 1) = ((i - 1 : Nat) : Int) := by omega
      rw [e, fD, hy]
     rw [hp, hg, decide_eq_true (by omega : (i : Int) > 0), cond_true, Option.bind_some]
     simp only
     by_cases c : y ≥ x
     ·have yx : ¬ y < x := by omega
      rw [decide_eq_true (show x ≤ y from c), cond_true]; simp [yx]
     ·have yx : y < x := by omega
      rw [decide_eq_false (show ¬ x ≤ y from c), cond_false]; simp [yx]
theorem kn (l : List Int) (a b : Int) (hl : l.length ≤ 1050000) (K : Option nI) :
  ((cm a b l l 0).bind fun y => match y with
    | .ret w => some (.ret w)
    | .x2 => cond ((l.length : Int) == (0 : Int)) (some (.ret false)) K) = (cond (aO l a b) K (some (.ret false))) := by
 rw [Ez l a b hl l 0 rfl]
 unfold aO fw
 rw [if_pos rfl]
 cases gJ a b l none with
 | false => rfl
 | true =>
  simp only [if_true, Option.bind_some, Bool.true_and]
  cases l with
  | nil => rfl
  | cons x l =>
   rw [show (((x :: l).length : Int) == (0 : Int)) = false from beq_eq_false_iff_ne.2 (by simp <;> omega), decide_eq_true (by simp <;> omega)]
   rfl
theorem FT (c : GCron) (h : aq.sm c) : mh c = some (fj c) := by
 have h0 := h.1.1
 have h1 := h.2.1.1
 have h2 := h.2.2.1.1
 have h3 := h.2.2.2.1.1
 have h4 := h.2.2.2.2.1
 unfold mh
 have e0 : ∀ n, bc c.f0 c.f1 c.f2 c.f3 c.f4 (n + 6) 0 = some (if fj c = true then .x0 else .ret false) := by
  intro n
  have s5 : bc c.f0 c.f1 c.f2 c.f3 c.f4 (n + 1) (inc (inc (inc (inc (inc 0))))) = some .x0 := rfl
  have s4 : bc c.f0 c.f1 c.f2 c.f3 c.f4 (n + 2) (inc (inc (inc (inc 0)))) = cond (aO c.f4 0 6) (some .x0) (some (.ret false)) := by
   rw [← kn c.f4 0 6 h4, ← s5]
   conv => lhs; unfold bc
   show (if inc (inc (inc (inc 0))) = 4 then (if c.f4.length ≤ 9223372036854775807 then _ else none) else none) = _
   rw [if_pos (by rfl), if_pos (by omega)]
   rfl
  have s3 : bc c.f0 c.f1 c.f2 c.f3 c.f4 (n + 3) (inc (inc (inc 0))) = cond (aO c.f3 1 12) (cond (aO c.f4 0 6) (some .x0) (some (.ret false))) (some (.ret false)) := by
   rw [← kn c.f3 1 12 h3, ← s4]
   conv => lhs; unfold bc
   show (if c.f3.length ≤ 9223372036854775807 then _ else none) = _
   rw [if_pos (by omega)]
   rfl
  have s2 : bc c.f0 c.f1 c.f2 c.f3 c.f4 (n + 4) (inc (inc 0)) = cond (aO c.f2 1 31) (cond (aO c.f3 1 12) (cond (aO c.f4 0 6) (some .x0) (some (.ret false))) (some (.ret false))) (some (.ret false)) := by
   rw [← kn c.f2 1 31 h2, ← s3]
   conv => lhs; unfold bc
   show (if c.f2.length ≤ 9223372036854775807 then _ else none) = _
   rw [if_pos (by omega)]
   rfl
  have s1 : bc c.f0 c.f1 c.f2 c.f3 c.f4 (n + 5) (inc 0) = cond (aO c.f1 0 23) (cond (aO c.f2 1 31) (cond (aO c.f3 1 12) (cond (aO c.f4 0 6) (some .x0) (some (.ret false))) (some (.ret false))) (some (.ret false))) (some (.ret false)) := by
   rw [← kn c.f1 0 23 h1, ← s2]
   conv => lhs; unfold bc
   show (if c.f1.length ≤ 9223372036854775807 then _ else none) = _
   rw [if_pos (by omega)]
   rfl
  have s0 : bc c.f0 c.f1 c.f2 c.f3 c.f4 (n + 6) 0 = cond (aO c.f0 0 59) (cond (aO c.f1 0 23) (cond (aO c.f2 1 31) (cond (aO c.f3 1 12) (cond (aO c.f4 0 6) (some .x0) (some (.ret false))) (some (.ret false))) (some (.ret false))) (some (.ret false))) (some (.ret false)) := by
   rw [← kn c.f0 0 59 h0, ← s1]
   conv => lhs; unfold bc
   show (if c.f0.length ≤ 9223372036854775807 then _ else none) = _
   rw [if_pos (by omega)]
   rfl
  rw [s0]
  unfold fj
  cases aO c.f0 0 59 <;> cases aO c.f1 0 23 <;> cases aO c.f2 1 31 <;> cases aO c.f3 1 12 <;> cases aO c.f4 0 6 <;> rfl
 rw [e0 9223372036854775802]
 cases fj c <;> rfl
theorem tZ (x0 : GCron) (h : aq.sm x0) : Does E 51 [.agg (GCron.t .far x0)] [(false, [tB (fj x0)])] := by
 exact DK x0 _ (FT x0 h)
noncomputable def qK (x0 : List Int) (x1 : Int) : Option (Bool) :=
  some ((x0.length : Int) == (inc (IntKind.wrap .i64 (((ak x1).2) - ((ak x1).1)))))
theorem EZ (x0 : List Int) (x1 : Int) : Ans (qK x0 x1) (fun r => Does E 52 [.one (.s .far () 1 (x0.map etI)), .one (tI x1)] [(false, [tB r])]) := by
 unfold qK
 exact IX (IW (fn := Tryz.f52) [.ret [(false, [tI ((ak x1).1)]), (false, [tI ((ak x1).2)])], .val (.int .i64 (x0.length : Int))] _ rfl (fun _ => rfl) (fun k => by kernel_rfl) (AD (bF x1) <| AC (p := ((x0.map etI).length : Int) = (x0.length : Int)) ag <| AN))
noncomputable def dR (l : List Int) (i : Int) : Bool := (qK l i).getD false
theorem eA (x0 : List Int) (x1 : Int) : Does E 52 [.one (.s .far () 1 (x0.map etI)), .one (tI x1)] [(false, [tB (dR x0 x1)])] := by
 exact EZ x0 x1 _ rfl
end Go.Proofs.YtfbhcpmlihdmcaaGreatDoor.Am
namespace Go.Proofs.YtfbhcpmlihdmcaaGreatDoor.Am
open Go Go.Proofs Classical
set_option maxRecDepth 100000
set_option linter.unusedVariables false
set_option linter.unusedSimpArgs false
inductive rp where
 | x0 (v5 : ByteArray)
def fT (v0 : List Int) (v5 : ByteArray) (v6 : Int) : US := stL 29 [(0, .one (.s .far () 1 (v0.map etI))), (5, .one (tS v5)), (6, .one (tI v6))]
def ll (zv5 : ByteArray) : US := stL 29 [(5, .one (tS zv5))]
abbrev mZ : US → Exit → US → Prop := Round E 28 (aB Tryz.f28 0)
def Bt (v0 : List Int) (v5 : ByteArray) (v6 : Int) : rp → Prop
 | .x0 zv5 => Loops E 28 (aB Tryz.f28 0) (fT v0 v5 v6) (.exit 0) (ll zv5)
theorem w9 (v0 : List Int) (v5 : ByteArray) (v6 g0 : Int) (h0 : (decide (v6 < (v0.length : Int))) = true) (h1 : (decide (v6 > (0 : Int))) = true) (h2 : v5.size + (⟨#[44]⟩ : ByteArray).size ≤ bL) (h3 : am v0 v6 = some g0) (h4 : -9223372036854775808 ≤ g0 ∧ g0 ≤ 9223372036854775807) (h5 : (v5 ++ (⟨#[44]⟩ : ByteArray)).size + (aI g0).size ≤ bL) : mZ (fT v0 v5 v6) .normal (fT v0 ((v5 ++ (⟨#[44]⟩ : ByteArray)) ++ (aI g0)) (inc v6)) :=
 IV [.val (.int .i64 (v0.length : Int)), .b true, .b true, .val (.string (v5 ++ (⟨#[44]⟩ : ByteArray))), .row (etI g0), .ret [(false, [tS (aI g0)])], .val (.string ((v5 ++ (⟨#[44]⟩ : ByteArray)) ++ (aI g0)))] _ (fun k => by kernel_rfl) (AC (p := ((v0.map etI).length : Int) = (v0.length : Int)) ag <| AC h0 <| AC h1 <| AC (p := e7 E.tab .add 9 (.string v5) (.string (⟨#[44]⟩ : ByteArray)) = some (.string (v5 ++ (⟨#[44]⟩ : ByteArray)))) (fz h2) <| AC (p := 0 ≤ v6 ∧ (v0.map etI)[v6.toNat]? = some (etI g0)) (az h3) <| AD (lu g0 h4) <| AC (p := e7 E.tab .add 9 (.string (v5 ++ (⟨#[44]⟩ : ByteArray))) (.string (aI g0)) = some (.string ((v5 ++ (⟨#[44]⟩ : ByteArray)) ++ (aI g0)))) (fz h5) <| AN)
theorem xa (v0 : List Int) (v5 : ByteArray) (v6 g0 : Int) (h0 : (decide (v6 < (v0.length : Int))) = true) (h1 : (decide (v6 > (0 : Int))) = false) (h2 : am v0 v6 = some g0) (h3 : -9223372036854775808 ≤ g0 ∧ g0 ≤ 9223372036854775807) (h4 : v5.size + (aI g0).size ≤ bL) : mZ (fT v0 v5 v6) .normal (fT v0 (v5 ++ (aI g0)) (inc v6)) :=
 IV [.val (.int .i64 (v0.length : Int)), .b true, .b false, .row (etI g0), .ret [(false, [tS (aI g0)])], .val (.string (v5 ++ (aI g0)))] _ (fun k => by kernel_rfl) (AC (p := ((v0.map etI).length : Int) = (v0.length : Int)) ag <| AC h0 <| AC h1 <| AC (p := 0 ≤ v6 ∧ (v0.map etI)[v6.toNat]? = some (etI g0)) (az h2) <| AD (lu g0 h3) <| AC (p := e7 E.tab .add 9 (.string v5) (.string (aI g0)) = some (.string (v5 ++ (aI g0)))) (fz h4) <| AN)
theorem xb (v0 : List Int) (v5 : ByteArray) (v6 : Int) (h0 : (decide (v6 < (v0.length : Int))) = false) : mZ (fT v0 v5 v6) (.exit 0) (ll v5) :=
 IV [.val (.int .i64 (v0.length : Int)), .b false] _ (fun k => by kernel_rfl) (AC (p := ((v0.map etI).length : Int) = (v0.length : Int)) ag <| AC h0 <| AN)
noncomputable def cZ  : List Int → Nat → ByteArray → Option rp
 | [], i, v5 => some (.x0 v5)
 | hd :: rest, i, v5 => cond (decide ((i : Int) > (0 : Int)))
  (if v5.size + (⟨#[44]⟩ : ByteArray).size ≤ bL then if -9223372036854775808 ≤ hd ∧ hd ≤ 9223372036854775807 then if (v5 ++ (⟨#[44]⟩ : ByteArray)).size + (aI hd).size ≤ bL then cZ rest (i + 1) ((v5 ++ (⟨#[44]⟩ : ByteArray)) ++ (aI hd)) else none else none else none)
  (if -9223372036854775808 ≤ hd ∧ hd ≤ 9223372036854775807 then if v5.size + (aI hd).size ≤ bL then cZ rest (i + 1) (v5 ++ (aI hd)) else none else none)
theorem Bs (v0 : List Int) (rest : List Int) : ∀ (i : Nat) (v5 : ByteArray), (v0).drop i = rest → v0.length ≤ 9223372036854775807 → Ans (cZ rest i v5) (Bt v0 v5 (i : Int)) := by
 induction rest with
 | nil =>
  intro i v5 hE hl
  have hb := bH hE
  unfold cZ
  exact IX (IZ (xb v0 v5 (i : Int) hb) (by intro h; cases h))
 | cons hd rest ih =>
  intro i v5 hE hl
  have hb := bh hE
  have hw := bi hE hl
  have hE2 := aK hE
  have hg := bq hE
  unfold cZ
  refine I3 (fun h1 => ?_) (fun h1 => ?_)
  ·refine I5 (fun h2 => ?_)
   refine I5 (fun h4 => ?_)
   refine I5 (fun h5 => ?_)
   exact (ih (i + 1) ((v5 ++ (⟨#[44]⟩ : ByteArray)) ++ (aI hd)) hE2 hl).mono fun y hy => by have r := w9 v0 v5 (i : Int) hd hb h1 h2 hg h4 h5; rw [hw] at r; cases y <;> exact IY r hy
  ·refine I5 (fun h3 => ?_)
   refine I5 (fun h4 => ?_)
   exact (ih (i + 1) (v5 ++ (aI hd)) hE2 hl).mono fun y hy => by have r := xa v0 v5 (i : Int) hd hb h1 hg h3 h4; rw [hw] at r; cases y <;> exact IY r hy
noncomputable def lG (x0 : List Int) (x1 : Int) : Option (ByteArray) :=
  cond ((x0.length : Int) == x1)
   (some ((⟨#[42]⟩ : ByteArray)))
   (if x0.length ≤ 9223372036854775807 then (cZ x0 0 ByteArray.empty).bind fun y => match y with
    | .x0 w0_5 => (some (w0_5)) else none)
theorem CC (x0 : List Int) (x1 : Int) : Ans (lG x0 x1) (fun r => Does E 28 [.one (.s .far () 1 (x0.map etI)), .one (tI x1)] [(false, [tS r])]) := by
 unfold lG
 refine I3 (fun h0 => ?_) (fun h0 => ?_)
 ·exact IX (IW (fn := Tryz.f28) [.val (.int .i64 (x0.length : Int)), .b true] _ rfl (fun _ => rfl) (fun k => by kernel_rfl) (AC (p := ((x0.map etI).length : Int) = (x0.length : Int)) ag <| AC h0 <| AN))
 ·refine I5 (fun hl2 => ?_)
  refine I4 (fun y hy => ?_)
  replace hy := Bs x0 x0 0 ByteArray.empty rfl hl2 y hy
  cases y with
  | x0 w0_5 =>
   have h1 := hy
   exact IX (IW (fn := Tryz.f28) [.val (.int .i64 (x0.length : Int)), .b false, .lp (.exit 0) (ll w0_5)] _ rfl (fun _ => rfl) (fun k => by kernel_rfl) (AC (p := ((x0.map etI).length : Int) = (x0.length : Int)) ag <| AC h0 <| AL h1 <| AN))
def eJ (c : UInt8) : List (List UInt8) → List UInt8
 | [] => []
 | x :: xs => x ++ (xs.map fun y => c :: y).flatten
theorem qS (c : UInt8) : ∀ xs : List (List UInt8), Lib.join xs [c] = eJ c xs
 | [] => rfl
 | [x] => by simp [Lib.join, List.intercalate, eJ]
 | x :: y :: xs => by
  have ih := qS c (y :: xs)
  unfold Lib.join List.intercalate at ih ⊢
  rw [List.intersperse_cons_cons, List.flatten_cons, List.flatten_cons, ih]
  simp [eJ]
theorem pG (xs : List (List UInt8)) (c : UInt8) : ao (xs.map ofTx) ⟨#[c]⟩ = ofTx (eJ c xs) := by
 unfold ao
 have : (xs.map ofTx).map (fun s : ByteArray => s.data.toList) = xs := by
  rw [List.map_map]
  conv => rhs; rw [← List.map_id xs]
  rfl
 rw [this]
 show ofTx (Lib.join xs [c]) = _
 rw [qS]
theorem rZ (c : UInt8) (k : Nat) : ∀ xs : List (List UInt8), (∀ x ∈ xs, x.length ≤ k) → (eJ c xs).length ≤ xs.length * (k + 1)
 | [], _ => by simp [eJ]
 | x :: xs, h => by
  have hx := h x (by simp)
  have : ∀ ys : List (List UInt8), (∀ y ∈ ys, y.length ≤ k) → ((ys.map fun y => c :: y).flatten).length ≤ ys.length * (k + 1) := by
   intro ys
   induction ys with
   | nil => intro _; simp
   | cons y ys ih =>
    intro h
    have := ih fun z hz => h z (by simp [hz])
    have := h y (by simp)
    simp [Nat.add_mul] at *
    omega
  have := this xs fun y hy => h y (by simp [hy])
  simp only [eJ, List.length_append, List.length_cons, Nat.add_mul]
  omega
theorem tp {x : Int} (h : 0 ≤ x ∧ x ≤ 59) : (tx (aI x)).length ≤ 2 := by
 show (Lib.itoa x).length ≤ 2
 unfold Lib.itoa
 rw [if_neg (by omega)]
 exact oU 1 _ (by omega)
noncomputable def aj (l : List Int) (size : Int) : ByteArray := cond ((l.length : Int) == size) ⟨#[42]⟩ (ofTx (eJ 44 (l.map fun x => tx (aI x))))
theorem d8 {l : List Int} (hl : l.length ≤ 60) (h : ∀ z ∈ l, 0 ≤ z ∧ z ≤ 59) (n : Int) : (aj l n).size ≤ 200 := by
 unfold aj
 cases (l.length : Int) == n with
 | true => exact (by decide : (⟨#[42]⟩ : ByteArray).size ≤ 200)
 | false =>
  rw [cond_false, lP]
  have := rZ 44 2 (l.map fun x => tx (aI x)) (fun y hy => by
   obtain ⟨x, hx, rfl⟩ := List.mem_map.1 hy
   exact tp (h x hx))
  rw [List.length_map] at this
  omega
theorem Fy : ∀ (l : List Int) (i : Nat) (v : List UInt8), (∀ z ∈ l, 0 ≤ z ∧ z ≤ 59) → 0 < i → v.length + l.length * 3 ≤ 1000 → cZ l i (ofTx v) = some (.x0 (ofTx (v ++ ((l.map fun x => 44 :: tx (aI x)).flatten))))
 | [], i, v, _, _, _ => by unfold cZ; simp
 | x :: l, i, v, h, hi, hl => by
  have hx := h x (by simp)
  have hz := tp hx
  have e44 : (⟨#[44]⟩ : ByteArray) = ofTx [44] := rfl
  simp only [List.length_cons] at hl
  unfold cZ
  rw [decide_eq_true (by omega), cond_true, e44, lc, ← ow (aI x), lc]
  simp only [lP, oJ]
  rw [if_pos (by simp [bL]; omega), if_pos (by omega), if_pos (by simp [bL]; omega), Fy l (i + 1) _ (fun z hz => h z (by simp [hz])) (by omega) (by simp; omega)]
  simp
theorem G8 (l : List Int) (n : Int) (hl : l.length ≤ 60) (h : ∀ z ∈ l, 0 ≤ z ∧ z ≤ 59) : lG l n = some (aj l n) := by
 unfold lG aj
 cases (l.length : Int) == n with
 | true => rfl
 | false =>
  rw [cond_false, cond_false, if_pos (by omega)]
  cases l with
  | nil => rfl
  | cons x l =>
   have hx := h x (by simp)
   have hz := tp hx
   simp only [List.length_cons] at hl
   unfold cZ
   have e : ByteArray.empty ++ aI x = ofTx (tx (aI x)) := by
    show ofTx [] ++ ofTx (tx (aI x)) = _
    rw [lc]; rfl
   have hz' : (aI x).size ≤ 2 := by rw [co]; exact hz
   have e0 : ByteArray.empty.size = 0 := rfl
   rw [decide_eq_false (by omega), cond_false, if_pos (by omega), if_pos (by rw [e0]; unfold bL; omega), e, Fy l _ _ (fun z hz => h z (by simp [hz])) (by omega) (by omega), Option.bind_some]
   simp only [List.map_cons, eJ, List.map_map]
   rfl
theorem jo (x0 : List Int) (x1 : Int) (h1 : x0.length ≤ 60) (h2 : ∀ z ∈ x0, 0 ≤ z ∧ z ≤ 59) : Does E 28 [.one (.s .far () 1 (x0.map etI)), .one (tI x1)] [(false, [tS (aj x0 x1)])] := by
 exact CC x0 x1 _ (G8 x0 x1 h1 h2)
noncomputable def kK (x0 : GCron) : Option (ByteArray × Bool) :=
  if aq.sm x0 then cond (fj x0)
   (if x0.f0.length ≤ 60 then if ∀ z ∈ x0.f0, 0 ≤ z ∧ z ≤ 59 then if (aj x0.f0 (60 : Int)).size + (⟨#[32]⟩ : ByteArray).size ≤ bL then if x0.f1.length ≤ 60 then if ∀ z ∈ x0.f1, 0 ≤ z ∧ z ≤ 59 then if ((aj x0.f0 (60 : Int)) ++ (⟨#[32]⟩ : ByteArray)).size + (aj x0.f1 (24 : Int)).size ≤ bL then if (((aj x0.f0 (60 : Int)) ++ (⟨#[32]⟩ : ByteArray)) ++ (aj x0.f1 (24 : Int))).size + (⟨#[32]⟩ : ByteArray).size ≤ bL then if x0.f2.length ≤ 60 then if ∀ z ∈ x0.f2, 0 ≤ z ∧ z ≤ 59 then if ((((aj x0.f0 (60 : Int)) ++ (⟨#[32]⟩ : ByteArray)) ++ (aj x0.f1 (24 : Int))) ++ (⟨#[32]⟩ : ByteArray)).size + (aj x0.f2 (31 : Int)).size ≤ bL then if (((((aj x0.f0 (60 : Int)) ++ (⟨#[32]⟩ : ByteArray)) ++ (aj x0.f1 (24 : Int))) ++ (⟨#[32]⟩ : ByteArray)) ++ (aj x0.f2 (31 : Int))).size + (⟨#[32]⟩ : ByteArray).size ≤ bL then if x0.f3.length ≤ 60 then if ∀ z ∈ x0.f3, 0 ≤ z ∧ z ≤ 59 then if ((((((aj x0.f0 (60 : Int)) ++ (⟨#[32]⟩ : ByteArray)) ++ (aj x0.f1 (24 : Int))) ++ (⟨#[32]⟩ : ByteArray)) ++ (aj x0.f2 (31 : Int))) ++ (⟨#[32]⟩ : ByteArray)).size + (aj x0.f3 (12 : Int)).size ≤ bL then if (((((((aj x0.f0 (60 : Int)) ++ (⟨#[32]⟩ : ByteArray)) ++ (aj x0.f1 (24 : Int))) ++ (⟨#[32]⟩ : ByteArray)) ++ (aj x0.f2 (31 : Int))) ++ (⟨#[32]⟩ : ByteArray)) ++ (aj x0.f3 (12 : Int))).size + (⟨#[32]⟩ : ByteArray).size ≤ bL then if x0.f4.length ≤ 60 then if ∀ z ∈ x0.f4, 0 ≤ z ∧ z ≤ 59 then if ((((((((aj x0.f0 (60 : Int)) ++ (⟨#[32]⟩ : ByteArray)) ++ (aj x0.f1 (24 : Int))) ++ (⟨#[32]⟩ : ByteArray)) ++ (aj x0.f2 (31 : Int))) ++ (⟨#[32]⟩ : ByteArray)) ++ (aj x0.f3 (12 : Int))) ++ (⟨#[32]⟩ : ByteArray)).size + (aj x0.f4 (7 : Int)).size ≤ bL then some (((((((((aj x0.f0 (60 : Int)) ++ (⟨#[32]⟩ : ByteArray)) ++ (aj x0.f1 (24 : Int))) ++ (⟨#[32]⟩ : ByteArray)) ++ (aj x0.f2 (31 : Int))) ++ (⟨#[32]⟩ : ByteArray)) ++ (aj x0.f3 (12 : Int))) ++ (⟨#[32]⟩ : ByteArray)) ++ (aj x0.f4 (7 : Int)), true) else none else none else none else none else none else none else none else none else none else none else none else none else none else none else none else none else none else none)
   (some (ByteArray.empty, false)) else none
theorem Bc (x0 : GCron) : Ans (kK x0) (fun r => Does E 11 [.agg (GCron.t .far x0)] [(false, [tS r.1]), (false, [tB r.2])]) := by
 unfold kK
 refine I5 (fun h0 => ?_)
 refine I3 (fun h1 => ?_) (fun h1 => ?_)
 ·refine I5 (fun h2 => ?_)
  refine I5 (fun h3 => ?_)
  refine I5 (fun h4 => ?_)
  refine I5 (fun h5 => ?_)
  refine I5 (fun h6 => ?_)
  refine I5 (fun h7 => ?_)
  refine I5 (fun h8 => ?_)
  refine I5 (fun h9 => ?_)
  refine I5 (fun h10 => ?_)
  refine I5 (fun h11 => ?_)
  refine I5 (fun h12 => ?_)
  refine I5 (fun h13 => ?_)
  refine I5 (fun h14 => ?_)
  refine I5 (fun h15 => ?_)
  refine I5 (fun h16 => ?_)
  refine I5 (fun h17 => ?_)
  refine I5 (fun h18 => ?_)
  refine I5 (fun h19 => ?_)
  exact IX (IW (fn := Tryz.f11) [rT, .ret [(false, [tS (aj x0.f0 (60 : Int))])], .val (.string ((aj x0.f0 (60 : Int)) ++ (⟨#[32]⟩ : ByteArray))), .ret [(false, [tS (aj x0.f1 (24 : Int))])], .val (.string (((aj x0.f0 (60 : Int)) ++ (⟨#[32]⟩ : ByteArray)) ++ (aj x0.f1 (24 : Int)))), .val (.string ((((aj x0.f0 (60 : Int)) ++ (⟨#[32]⟩ : ByteArray)) ++ (aj x0.f1 (24 : Int))) ++ (⟨#[32]⟩ : ByteArray))), .ret [(false, [tS (aj x0.f2 (31 : Int))])], .val (.string (((((aj x0.f0 (60 : Int)) ++ (⟨#[32]⟩ : ByteArray)) ++ (aj x0.f1 (24 : Int))) ++ (⟨#[32]⟩ : ByteArray)) ++ (aj x0.f2 (31 : Int)))), .val (.string ((((((aj x0.f0 (60 : Int)) ++ (⟨#[32]⟩ : ByteArray)) ++ (aj x0.f1 (24 : Int))) ++ (⟨#[32]⟩ : ByteArray)) ++ (aj x0.f2 (31 : Int))) ++ (⟨#[32]⟩ : ByteArray))), .ret [(false, [tS (aj x0.f3 (12 : Int))])], .val (.string (((((((aj x0.f0 (60 : Int)) ++ (⟨#[32]⟩ : ByteArray)) ++ (aj x0.f1 (24 : Int))) ++ (⟨#[32]⟩ : ByteArray)) ++ (aj x0.f2 (31 : Int))) ++ (⟨#[32]⟩ : ByteArray)) ++ (aj x0.f3 (12 : Int)))), .val (.string ((((((((aj x0.f0 (60 : Int)) ++ (⟨#[32]⟩ : ByteArray)) ++ (aj x0.f1 (24 : Int))) ++ (⟨#[32]⟩ : ByteArray)) ++ (aj x0.f2 (31 : Int))) ++ (⟨#[32]⟩ : ByteArray)) ++ (aj x0.f3 (12 : Int))) ++ (⟨#[32]⟩ : ByteArray))), .ret [(false, [tS (aj x0.f4 (7 : Int))])], .val (.string (((((((((aj x0.f0 (60 : Int)) ++ (⟨#[32]⟩ : ByteArray)) ++ (aj x0.f1 (24 : Int))) ++ (⟨#[32]⟩ : ByteArray)) ++ (aj x0.f2 (31 : Int))) ++ (⟨#[32]⟩ : ByteArray)) ++ (aj x0.f3 (12 : Int))) ++ (⟨#[32]⟩ : ByteArray)) ++ (aj x0.f4 (7 : Int))))] _ rfl (fun _ => rfl) (fun k => by kernel_rfl) (AD (I8 (t8 x0 h0) h1) <| AD (jo x0.f0 (60 : Int) h2 h3) <| AC (p := e7 E.tab .add 9 (.string (aj x0.f0 (60 : Int))) (.string (⟨#[32]⟩ : ByteArray)) = some (.string ((aj x0.f0 (60 : Int)) ++ (⟨#[32]⟩ : ByteArray)))) (fz h4) <| AD (jo x0.f1 (24 : Int) h5 h6) <| AC (p := e7 E.tab .add 9 (.string ((aj x0.f0 (60 : Int)) ++ (⟨#[32]⟩ : ByteArray))) (.string (aj x0.f1 (24 : Int))) = some (.string (((aj x0.f0 (60 : Int)) ++ (⟨#[32]⟩ : ByteArray)) ++ (aj x0.f1 (24 : Int))))) (fz h7) <| AC (p := e7 E.tab .add 9 (.string (((aj x0.f0 (60 : Int)) ++ (⟨#[32]⟩ : ByteArray)) ++ (aj x0.f1 (24 : Int)))) (.string (⟨#[32]⟩ : ByteArray)) = some (.string ((((aj x0.f0 (60 : Int)) ++ (⟨#[32]⟩ : ByteArray)) ++ (aj x0.f1 (24 : Int))) ++ (⟨#[32]⟩ : ByteArray)))) (fz h8) <| AD (jo x0.f2 (31 : Int) h9 h10) <| AC (p := e7 E.tab .add 9 (.string ((((aj x0.f0 (60 : Int)) ++ (⟨#[32]⟩ : ByteArray)) ++ (aj x0.f1 (24 : Int))) ++ (⟨#[32]⟩ : ByteArray))) (.string (aj x0.f2 (31 : Int))) = some (.string (((((aj x0.f0 (60 : Int)) ++ (⟨#[32]⟩ : ByteArray)) ++ (aj x0.f1 (24 : Int))) ++ (⟨#[32]⟩ : ByteArray)) ++ (aj x0.f2 (31 : Int))))) (fz h11) <| AC (p := e7 E.tab .add 9 (.string (((((aj x0.f0 (60 : Int)) ++ (⟨#[32]⟩ : ByteArray)) ++ (aj x0.f1 (24 : Int))) ++ (⟨#[32]⟩ : ByteArray)) ++ (aj x0.f2 (31 : Int)))) (.string (⟨#[32]⟩ : ByteArray)) = some (.string ((((((aj x0.f0 (60 : Int)) ++ (⟨#[32]⟩ : ByteArray)) ++ (aj x0.f1 (24 : Int))) ++ (⟨#[32]⟩ : ByteArray)) ++ (aj x0.f2 (31 : Int))) ++ (⟨#[32]⟩ : ByteArray)))) (fz h12) <| AD (jo x0.f3 (12 : Int) h13 h14) <| AC (p := e7 E.tab .add 9 (.string ((((((aj x0.f0 (60 : Int)) ++ (⟨#[32]⟩ : ByteArray)) ++ (aj x0.f1 (24 : Int))) ++ (⟨#[32]⟩ : ByteArray)) ++ (aj x0.f2 (31 : Int))) ++ (⟨#[32]⟩ : ByteArray))) (.string (aj x0.f3 (12 : Int))) = some (.string (((((((aj x0.f0 (60 : Int)) ++ (⟨#[32]⟩ : ByteArray)) ++ (aj x0.f1 (24 : Int))) ++ (⟨#[32]⟩ : ByteArray)) ++ (aj x0.f2 (31 : Int))) ++ (⟨#[32]⟩ : ByteArray)) ++ (aj x0.f3 (12 : Int))))) (fz h15) <| AC (p := e7 E.tab .add 9 (.string (((((((aj x0.f0 (60 : Int)) ++ (⟨#[32]⟩ : ByteArray)) ++ (aj x0.f1 (24 : Int))) ++ (⟨#[32]⟩ : ByteArray)) ++ (aj x0.f2 (31 : Int))) ++ (⟨#[32]⟩ : ByteArray)) ++ (aj x0.f3 (12 : Int)))) (.string (⟨#[32]⟩ : ByteArray)) = some (.string ((((((((aj x0.f0 (60 : Int)) ++ (⟨#[32]⟩ : ByteArray)) ++ (aj x0.f1 (24 : Int))) ++ (⟨#[32]⟩ : ByteArray)) ++ (aj x0.f2 (31 : Int))) ++ (⟨#[32]⟩ : ByteArray)) ++ (aj x0.f3 (12 : Int))) ++ (⟨#[32]⟩ : ByteArray)))) (fz h16) <| AD (jo x0.f4 (7 : Int) h17 h18) <| AC (p := e7 E.tab .add 9 (.string ((((((((aj x0.f0 (60 : Int)) ++ (⟨#[32]⟩ : ByteArray)) ++ (aj x0.f1 (24 : Int))) ++ (⟨#[32]⟩ : ByteArray)) ++ (aj x0.f2 (31 : Int))) ++ (⟨#[32]⟩ : ByteArray)) ++ (aj x0.f3 (12 : Int))) ++ (⟨#[32]⟩ : ByteArray))) (.string (aj x0.f4 (7 : Int))) = some (.string (((((((((aj x0.f0 (60 : Int)) ++ (⟨#[32]⟩ : ByteArray)) ++ (aj x0.f1 (24 : Int))) ++ (⟨#[32]⟩ : ByteArray)) ++ (aj x0.f2 (31 : Int))) ++ (⟨#[32]⟩ : ByteArray)) ++ (aj x0.f3 (12 : Int))) ++ (⟨#[32]⟩ : ByteArray)) ++ (aj x0.f4 (7 : Int))))) (fz h19) <| AN))
 ·exact IX (IW (fn := Tryz.f11) [rF] _ rfl (fun _ => rfl) (fun k => by kernel_rfl) (AD (I8 (t8 x0 h0) h1) <| AN))
inductive pF where
 | x2 (v7 : List ByteArray)
def jy (v1_0 v1_1 v1_2 v1_3 v1_4 : List Int) (v4 v7 : List ByteArray) (v14 : Int) (v28 : List Int) (v29 v30 : Int) : US := stL 48 [(1, .box () [.s .far () 1 (v1_0.map etI), .s .far () 1 (v1_1.map etI), .s .far () 1 (v1_2.map etI), .s .far () 1 (v1_3.map etI), .s .far () 1 (v1_4.map etI)]), (4, .one (.s .own () 1 (v4.map etS))), (7, .one (.s .own () 1 (v7.map etS))), (13, .clo (.arr [0, 1, 2, 3, 4]) [1, 1, 1, 1, 1]), (14, .one (tI v14)), (28, .one (.s .far () 1 (v28.map etI))), (29, .one (tI v29)), (30, .one (tI v30))]
def dx (v1_0 v1_1 v1_2 v1_3 v1_4 : List Int) (v4 : List ByteArray) (v14 : Int) (zv7 : List ByteArray) : US := stL 48 [(1, .box () [.s .far () 1 (v1_0.map etI), .s .far () 1 (v1_1.map etI), .s .far () 1 (v1_2.map etI), .s .far () 1 (v1_3.map etI), .s .far () 1 (v1_4.map etI)]), (4, .one (.s .own () 1 (v4.map etS))), (7, .one (.s .own () 1 (zv7.map etS))), (13, .clo (.arr [0, 1, 2, 3, 4]) [1, 1, 1, 1, 1]), (14, .one (tI v14))]
abbrev pE : US → Exit → US → Prop := Round E 34 (aB Tryz.f34 1)
def fb (v1_0 v1_1 v1_2 v1_3 v1_4 : List Int) (v4 v7 : List ByteArray) (v14 : Int) (v28 : List Int) (v29 v30 : Int) : pF → Prop
 | .x2 zv7 => Loops E 34 (aB Tryz.f34 1) (jy v1_0 v1_1 v1_2 v1_3 v1_4 v4 v7 v14 v28 v29 v30) (.exit 2) (dx v1_0 v1_1 v1_2 v1_3 v1_4 v4 v14 zv7)
theorem uD (v1_0 v1_1 v1_2 v1_3 v1_4 : List Int) (v4 v7 : List ByteArray) (v14 : Int) (v28 : List Int) (v29 v30 g0 : Int) (h0 : (decide (v30 < v29)) = true) (h1 : am v28 v30 = some g0) (h2 : -9223372036854775808 ≤ g0 ∧ g0 ≤ 9223372036854775807) (h3 : (v7.length + ([aI g0]).length) * 16 ≤ 140737488355328 ∧ v7.length + ([aI g0]).length ≤ 4611686018427387904) : pE (jy v1_0 v1_1 v1_2 v1_3 v1_4 v4 v7 v14 v28 v29 v30) .normal (jy v1_0 v1_1 v1_2 v1_3 v1_4 v4 (v7 ++ ([aI g0])) v14 v28 v29 (inc v30)) :=
 IV [.b true, .row (etI g0), .ret [(false, [tS (aI g0)])], .rows ((v7 ++ ([aI g0])).map etS)] _ (fun k => by kernel_rfl) (AC h0 <| AC (p := 0 ≤ v30 ∧ (v28.map etI)[v30.toNat]? = some (etI g0)) (az h1) <| AD (nC g0 h2) <| AC (p := (((([aI g0]).map etS).drop 0).take (([aI g0]).map etS).length).all (fun r => r.all T.flat) = true ∧ ((v7.map etS).length + (((([aI g0]).map etS).drop 0).take (([aI g0]).map etS).length).length) * 16 ≤ 140737488355328 ∧ (v7.map etS).length + (((([aI g0]).map etS).drop 0).take (([aI g0]).map etS).length).length ≤ 4611686018427387904) (by simp only [List.take_length, List.drop_zero]; exact ee (fun x => rfl) h3) <| AC (p := (v7.map etS) ++ (((([aI g0]).map etS).drop 0).take (([aI g0]).map etS).length) = (v7 ++ ([aI g0])).map etS) (by simp only [List.take_length, List.drop_zero]; exact di) <| AN)
theorem uE (v1_0 v1_1 v1_2 v1_3 v1_4 : List Int) (v4 v7 : List ByteArray) (v14 : Int) (v28 : List Int) (v29 v30 : Int) (h0 : (decide (v30 < v29)) = false) : pE (jy v1_0 v1_1 v1_2 v1_3 v1_4 v4 v7 v14 v28 v29 v30) (.exit 2) (dx v1_0 v1_1 v1_2 v1_3 v1_4 v4 v14 v7) :=
 IV [.b false] _ (fun k => by kernel_rfl) (AC h0 <| AN)
noncomputable def bO  : List Int → Nat → (List ByteArray) → Option pF
 | [], i, v7 => some (.x2 v7)
 | hd :: rest, i, v7 => if -9223372036854775808 ≤ hd ∧ hd ≤ 9223372036854775807 then if (v7.length + ([aI hd]).length) * 16 ≤ 140737488355328 ∧ v7.length + ([aI hd]).length ≤ 4611686018427387904 then bO rest (i + 1) (v7 ++ ([aI hd])) else none else none
theorem gG (v1_0 v1_1 v1_2 v1_3 v1_4 : List Int) (v4 : List ByteArray) (v14 : Int) (v28 : List Int) (rest : List Int) : ∀ (i : Nat) (v7 : List ByteArray), (v28).drop i = rest → v28.length ≤ 9223372036854775807 → Ans (bO rest i v7) (fb v1_0 v1_1 v1_2 v1_3 v1_4 v4 v7 v14 v28 (v28.length : Int) (i : Int)) := by
 induction rest with
 | nil =>
  intro i v7 hE hl
  have hb := bH hE
  unfold bO
  exact IX (IZ (uE v1_0 v1_1 v1_2 v1_3 v1_4 v4 v7 v14 v28 (v28.length : Int) (i : Int) hb) (by intro h; cases h))
 | cons hd rest ih =>
  intro i v7 hE hl
  have hb := bh hE
  have hw := bi hE hl
  have hE2 := aK hE
  have hg := bq hE
  unfold bO
  refine I5 (fun h2 => ?_)
  refine I5 (fun h3 => ?_)
  exact (ih (i + 1) (v7 ++ ([aI hd])) hE2 hl).mono fun y hy => by have r := uD v1_0 v1_1 v1_2 v1_3 v1_4 v4 v7 v14 v28 (v28.length : Int) (i : Int) hd hb hg h2 h3; rw [hw] at r; cases y <;> exact IY r hy
inductive lT where
 | x0 (v4 : List ByteArray)
def aQ (v1_0 v1_1 v1_2 v1_3 v1_4 : List Int) (v4 : List ByteArray) (v14 : Int) : US := stL 48 [(1, .box () [.s .far () 1 (v1_0.map etI), .s .far () 1 (v1_1.map etI), .s .far () 1 (v1_2.map etI), .s .far () 1 (v1_3.map etI), .s .far () 1 (v1_4.map etI)]), (4, .one (.s .own () 1 (v4.map etS))), (13, .clo (.arr [0, 1, 2, 3, 4]) [1, 1, 1, 1, 1]), (14, .one (tI v14))]
def kq (zv4 : List ByteArray) : US := stL 48 [(4, .one (.s .own () 1 (zv4.map etS)))]
abbrev cg : US → Exit → US → Prop := Round E 34 (aB Tryz.f34 0)
def yq (v1_0 v1_1 v1_2 v1_3 v1_4 : List Int) (v4 : List ByteArray) (v14 : Int) : lT → Prop
 | .x0 zv4 => Loops E 34 (aB Tryz.f34 0) (aQ v1_0 v1_1 v1_2 v1_3 v1_4 v4 v14) (.exit 0) (kq zv4)
theorem ut (v1_0 v1_1 v1_2 v1_3 v1_4 : List Int) (v4 : List ByteArray) (v14 : Int) (h0 : (decide (v14 < (5 : Int))) = true) (h1 : (v14 == (0 : Int)) = true) (h2 : (dR v1_0 v14) = true) (h3 : (v4.length + ([(⟨#[42]⟩ : ByteArray)]).length) * 16 ≤ 140737488355328 ∧ v4.length + ([(⟨#[42]⟩ : ByteArray)]).length ≤ 4611686018427387904) : cg (aQ v1_0 v1_1 v1_2 v1_3 v1_4 v4 v14) .normal (aQ v1_0 v1_1 v1_2 v1_3 v1_4 (v4 ++ ([(⟨#[42]⟩ : ByteArray)])) (inc v14)) :=
 IV [.b true, .val (.int .i64 0), rT, .rows ((v4 ++ ([(⟨#[42]⟩ : ByteArray)])).map etS)] _ (fun k => by kernel_rfl) (AC h0 <| AC (p := v14 = (0 : Int)) (eq_of_beq h1) <| AD (I8 (eA v1_0 v14) h2) <| AC (p := (((([(⟨#[42]⟩ : ByteArray)]).map etS).drop 0).take (([(⟨#[42]⟩ : ByteArray)]).map etS).length).all (fun r => r.all T.flat) = true ∧ ((v4.map etS).length + (((([(⟨#[42]⟩ : ByteArray)]).map etS).drop 0).take (([(⟨#[42]⟩ : ByteArray)]).map etS).length).length) * 16 ≤ 140737488355328 ∧ (v4.map etS).length + (((([(⟨#[42]⟩ : ByteArray)]).map etS).drop 0).take (([(⟨#[42]⟩ : ByteArray)]).map etS).length).length ≤ 4611686018427387904) (by simp only [List.take_length, List.drop_zero]; exact ee (fun x => rfl) h3) <| AC (p := (v4.map etS) ++ (((([(⟨#[42]⟩ : ByteArray)]).map etS).drop 0).take (([(⟨#[42]⟩ : ByteArray)]).map etS).length) = (v4 ++ ([(⟨#[42]⟩ : ByteArray)])).map etS) (by simp only [List.take_length, List.drop_zero]; exact di) <| AN)
theorem uu (v1_0 v1_1 v1_2 v1_3 v1_4 : List Int) (v4 : List ByteArray) (v14 : Int) (w0_7 : List ByteArray) (h0 : (decide (v14 < (5 : Int))) = true) (h1 : (v14 == (0 : Int)) = true) (h2 : (dR v1_0 v14) = false) (h3 : fb v1_0 v1_1 v1_2 v1_3 v1_4 v4 ([]) v14 v1_0 (v1_0.length : Int) (0 : Int) (.x2 w0_7)) (h4 : w0_7.length ≤ 140737488355328 ∧ (ao w0_7 (⟨#[44]⟩ : ByteArray)).size ≤ 140737488355328) (h5 : (v4.length + ([ao w0_7 (⟨#[44]⟩ : ByteArray)]).length) * 16 ≤ 140737488355328 ∧ v4.length + ([ao w0_7 (⟨#[44]⟩ : ByteArray)]).length ≤ 4611686018427387904) : cg (aQ v1_0 v1_1 v1_2 v1_3 v1_4 v4 v14) .normal (aQ v1_0 v1_1 v1_2 v1_3 v1_4 (v4 ++ ([ao w0_7 (⟨#[44]⟩ : ByteArray)])) (inc v14)) :=
 IV [.b true, .val (.int .i64 0), rF, .val (.int .i64 (v1_0.length : Int)), .lp (.exit 2) (dx v1_0 v1_1 v1_2 v1_3 v1_4 v4 v14 w0_7), .ret [(false, [tS (ao w0_7 (⟨#[44]⟩ : ByteArray))])], .rows ((v4 ++ ([ao w0_7 (⟨#[44]⟩ : ByteArray)])).map etS)] _ (fun k => by kernel_rfl) (AC h0 <| AC (p := v14 = (0 : Int)) (eq_of_beq h1) <| AD (I8 (eA v1_0 v14) h2) <| AC (p := ((v1_0.map etI).length : Int) = (v1_0.length : Int)) ag <| AL h3 <| AV (ψ := fun k => E.C k 54 [.one (.s .far () 1 (((w0_7.map etS).drop 0).take (w0_7.map etS).length)), .one (tS (⟨#[44]⟩ : ByteArray))] = some [(false, [tS (ao w0_7 (⟨#[44]⟩ : ByteArray))])]) (I7 (by simp only [List.take_length, List.drop_zero]) (eH w0_7 (⟨#[44]⟩ : ByteArray) h4)) <| AC (p := (((([ao w0_7 (⟨#[44]⟩ : ByteArray)]).map etS).drop 0).take (([ao w0_7 (⟨#[44]⟩ : ByteArray)]).map etS).length).all (fun r => r.all T.flat) = true ∧ ((v4.map etS).length + (((([ao w0_7 (⟨#[44]⟩ : ByteArray)]).map etS).drop 0).take (([ao w0_7 (⟨#[44]⟩ : ByteArray)]).map etS).length).length) * 16 ≤ 140737488355328 ∧ (v4.map etS).length + (((([ao w0_7 (⟨#[44]⟩ : ByteArray)]).map etS).drop 0).take (([ao w0_7 (⟨#[44]⟩ : ByteArray)]).map etS).length).length ≤ 4611686018427387904) (by simp only [List.take_length, List.drop_zero]; exact ee (fun x => rfl) h5) <| AC (p := (v4.map etS) ++ (((([ao w0_7 (⟨#[44]⟩ : ByteArray)]).map etS).drop 0).take (([ao w0_7 (⟨#[44]⟩ : ByteArray)]).map etS).length) = (v4 ++ ([ao w0_7 (⟨#[44]⟩ : ByteArray)])).map etS) (by simp only [List.take_length, List.drop_zero]; exact di) <| AN)
theorem uv (v1_0 v1_1 v1_2 v1_3 v1_4 : List Int) (v4 : List ByteArray) (v14 : Int) (h0 : (decide (v14 < (5 : Int))) = true) (h1 : (v14 == (0 : Int)) = false) (h2 : (v14 == (1 : Int)) = true) (h3 : (dR v1_1 v14) = true) (h4 : (v4.length + ([(⟨#[42]⟩ : ByteArray)]).length) * 16 ≤ 140737488355328 ∧ v4.length + ([(⟨#[42]⟩ : ByteArray)]).length ≤ 4611686018427387904) : cg (aQ v1_0 v1_1 v1_2 v1_3 v1_4 v4 v14) .normal (aQ v1_0 v1_1 v1_2 v1_3 v1_4 (v4 ++ ([(⟨#[42]⟩ : ByteArray)])) (inc v14)) :=
 IV [.b true, .val (.int .i64 1), rT, .rows ((v4 ++ ([(⟨#[42]⟩ : ByteArray)])).map etS)] _ (fun k => by kernel_rfl) (AC h0 <| AC (p := v14 = (1 : Int)) (eq_of_beq h2) <| AD (I8 (eA v1_1 v14) h3) <| AC (p := (((([(⟨#[42]⟩ : ByteArray)]).map etS).drop 0).take (([(⟨#[42]⟩ : ByteArray)]).map etS).length).all (fun r => r.all T.flat) = true ∧ ((v4.map etS).length + (((([(⟨#[42]⟩ : ByteArray)]).map etS).drop 0).take (([(⟨#[42]⟩ : ByteArray)]).map etS).length).length) * 16 ≤ 140737488355328 ∧ (v4.map etS).length + (((([(⟨#[42]⟩ : ByteArray)]).map etS).drop 0).take (([(⟨#[42]⟩ : ByteArray)]).map etS).length).length ≤ 4611686018427387904) (by simp only [List.take_length, List.drop_zero]; exact ee (fun x => rfl) h4) <| AC (p := (v4.map etS) ++ (((([(⟨#[42]⟩ : ByteArray)]).map etS).drop 0).take (([(⟨#[42]⟩ : ByteArray)]).map etS).length) = (v4 ++ ([(⟨#[42]⟩ : ByteArray)])).map etS) (by simp only [List.take_length, List.drop_zero]; exact di) <| AN)
theorem uw (v1_0 v1_1 v1_2 v1_3 v1_4 : List Int) (v4 : List ByteArray) (v14 : Int) (w0_7 : List ByteArray) (h0 : (decide (v14 < (5 : Int))) = true) (h1 : (v14 == (0 : Int)) = false) (h2 : (v14 == (1 : Int)) = true) (h3 : (dR v1_1 v14) = false) (h4 : fb v1_0 v1_1 v1_2 v1_3 v1_4 v4 ([]) v14 v1_1 (v1_1.length : Int) (0 : Int) (.x2 w0_7)) (h5 : w0_7.length ≤ 140737488355328 ∧ (ao w0_7 (⟨#[44]⟩ : ByteArray)).size ≤ 140737488355328) (h6 : (v4.length + ([ao w0_7 (⟨#[44]⟩ : ByteArray)]).length) * 16 ≤ 140737488355328 ∧ v4.length + ([ao w0_7 (⟨#[44]⟩ : ByteArray)]).length ≤ 4611686018427387904) : cg (aQ v1_0 v1_1 v1_2 v1_3 v1_4 v4 v14) .normal (aQ v1_0 v1_1 v1_2 v1_3 v1_4 (v4 ++ ([ao w0_7 (⟨#[44]⟩ : ByteArray)])) (inc v14)) :=
 IV [.b true, .val (.int .i64 1), rF, .val (.int .i64 (v1_1.length : Int)), .lp (.exit 2) (dx v1_0 v1_1 v1_2 v1_3 v1_4 v4 v14 w0_7), .ret [(false, [tS (ao w0_7 (⟨#[44]⟩ : ByteArray))])], .rows ((v4 ++ ([ao w0_7 (⟨#[44]⟩ : ByteArray)])).map etS)] _ (fun k => by kernel_rfl) (AC h0 <| AC (p := v14 = (1 : Int)) (eq_of_beq h2) <| AD (I8 (eA v1_1 v14) h3) <| AC (p := ((v1_1.map etI).length : Int) = (v1_1.length : Int)) ag <| AL h4 <| AV (ψ := fun k => E.C k 54 [.one (.s .far () 1 (((w0_7.map etS).drop 0).take (w0_7.map etS).length)), .one (tS (⟨#[44]⟩ : ByteArray))] = some [(false, [tS (ao w0_7 (⟨#[44]⟩ : ByteArray))])]) (I7 (by simp only [List.take_length, List.drop_zero]) (eH w0_7 (⟨#[44]⟩ : ByteArray) h5)) <| AC (p := (((([ao w0_7 (⟨#[44]⟩ : ByteArray)]).map etS).drop 0).take (([ao w0_7 (⟨#[44]⟩ : ByteArray)]).map etS).length).all (fun r => r.all T.flat) = true ∧ ((v4.map etS).length + (((([ao w0_7 (⟨#[44]⟩ : ByteArray)]).map etS).drop 0).take (([ao w0_7 (⟨#[44]⟩ : ByteArray)]).map etS).length).length) * 16 ≤ 140737488355328 ∧ (v4.map etS).length + (((([ao w0_7 (⟨#[44]⟩ : ByteArray)]).map etS).drop 0).take (([ao w0_7 (⟨#[44]⟩ : ByteArray)]).map etS).length).length ≤ 4611686018427387904) (by simp only [List.take_length, List.drop_zero]; exact ee (fun x => rfl) h6) <| AC (p := (v4.map etS) ++ (((([ao w0_7 (⟨#[44]⟩ : ByteArray)]).map etS).drop 0).take (([ao w0_7 (⟨#[44]⟩ : ByteArray)]).map etS).length) = (v4 ++ ([ao w0_7 (⟨#[44]⟩ : ByteArray)])).map etS) (by simp only [List.take_length, List.drop_zero]; exact di) <| AN)
theorem ux (v1_0 v1_1 v1_2 v1_3 v1_4 : List Int) (v4 : List ByteArray) (v14 : Int) (h0 : (decide (v14 < (5 : Int))) = true) (h1 : (v14 == (0 : Int)) = false) (h2 : (v14 == (1 : Int)) = false) (h3 : (v14 == (2 : Int)) = true) (h4 : (dR v1_2 v14) = true) (h5 : (v4.length + ([(⟨#[42]⟩ : ByteArray)]).length) * 16 ≤ 140737488355328 ∧ v4.length + ([(⟨#[42]⟩ : ByteArray)]).length ≤ 4611686018427387904) : cg (aQ v1_0 v1_1 v1_2 v1_3 v1_4 v4 v14) .normal (aQ v1_0 v1_1 v1_2 v1_3 v1_4 (v4 ++ ([(⟨#[42]⟩ : ByteArray)])) (inc v14)) :=
 IV [.b true, .val (.int .i64 2), rT, .rows ((v4 ++ ([(⟨#[42]⟩ : ByteArray)])).map etS)] _ (fun k => by kernel_rfl) (AC h0 <| AC (p := v14 = (2 : Int)) (eq_of_beq h3) <| AD (I8 (eA v1_2 v14) h4) <| AC (p := (((([(⟨#[42]⟩ : ByteArray)]).map etS).drop 0).take (([(⟨#[42]⟩ : ByteArray)]).map etS).length).all (fun r => r.all T.flat) = true ∧ ((v4.map etS).length + (((([(⟨#[42]⟩ : ByteArray)]).map etS).drop 0).take (([(⟨#[42]⟩ : ByteArray)]).map etS).length).length) * 16 ≤ 140737488355328 ∧ (v4.map etS).length + (((([(⟨#[42]⟩ : ByteArray)]).map etS).drop 0).take (([(⟨#[42]⟩ : ByteArray)]).map etS).length).length ≤ 4611686018427387904) (by simp only [List.take_length, List.drop_zero]; exact ee (fun x => rfl) h5) <| AC (p := (v4.map etS) ++ (((([(⟨#[42]⟩ : ByteArray)]).map etS).drop 0).take (([(⟨#[42]⟩ : ByteArray)]).map etS).length) = (v4 ++ ([(⟨#[42]⟩ : ByteArray)])).map etS) (by simp only [List.take_length, List.drop_zero]; exact di) <| AN)
theorem uy (v1_0 v1_1 v1_2 v1_3 v1_4 : List Int) (v4 : List ByteArray) (v14 : Int) (w0_7 : List ByteArray) (h0 : (decide (v14 < (5 : Int))) = true) (h1 : (v14 == (0 : Int)) = false) (h2 : (v14 == (1 : Int)) = false) (h3 : (v14 == (2 : Int)) = true) (h4 : (dR v1_2 v14) = false) (h5 : fb v1_0 v1_1 v1_2 v1_3 v1_4 v4 ([]) v14 v1_2 (v1_2.length : Int) (0 : Int) (.x2 w0_7)) (h6 : w0_7.length ≤ 140737488355328 ∧ (ao w0_7 (⟨#[44]⟩ : ByteArray)).size ≤ 140737488355328) (h7 : (v4.length + ([ao w0_7 (⟨#[44]⟩ : ByteArray)]).length) * 16 ≤ 140737488355328 ∧ v4.length + ([ao w0_7 (⟨#[44]⟩ : ByteArray)]).length ≤ 4611686018427387904) : cg (aQ v1_0 v1_1 v1_2 v1_3 v1_4 v4 v14) .normal (aQ v1_0 v1_1 v1_2 v1_3 v1_4 (v4 ++ ([ao w0_7 (⟨#[44]⟩ : ByteArray)])) (inc v14)) :=
 IV [.b true, .val (.int .i64 2), rF, .val (.int .i64 (v1_2.length : Int)), .lp (.exit 2) (dx v1_0 v1_1 v1_2 v1_3 v1_4 v4 v14 w0_7), .ret [(false, [tS (ao w0_7 (⟨#[44]⟩ : ByteArray))])], .rows ((v4 ++ ([ao w0_7 (⟨#[44]⟩ : ByteArray)])).map etS)] _ (fun k => by kernel_rfl) (AC h0 <| AC (p := v14 = (2 : Int)) (eq_of_beq h3) <| AD (I8 (eA v1_2 v14) h4) <| AC (p := ((v1_2.map etI).length : Int) = (v1_2.length : Int)) ag <| AL h5 <| AV (ψ := fun k => E.C k 54 [.one (.s .far () 1 (((w0_7.map etS).drop 0).take (w0_7.map etS).length)), .one (tS (⟨#[44]⟩ : ByteArray))] = some [(false, [tS (ao w0_7 (⟨#[44]⟩ : ByteArray))])]) (I7 (by simp only [List.take_length, List.drop_zero]) (eH w0_7 (⟨#[44]⟩ : ByteArray) h6)) <| AC (p := (((([ao w0_7 (⟨#[44]⟩ : ByteArray)]).map etS).drop 0).take (([ao w0_7 (⟨#[44]⟩ : ByteArray)]).map etS).length).all (fun r => r.all T.flat) = true ∧ ((v4.map etS).length + (((([ao w0_7 (⟨#[44]⟩ : ByteArray)]).map etS).drop 0).take (([ao w0_7 (⟨#[44]⟩ : ByteArray)]).map etS).length).length) * 16 ≤ 140737488355328 ∧ (v4.map etS).length + (((([ao w0_7 (⟨#[44]⟩ : ByteArray)]).map etS).drop 0).take (([ao w0_7 (⟨#[44]⟩ : ByteArray)]).map etS).length).length ≤ 4611686018427387904) (by simp only [List.take_length, List.drop_zero]; exact ee (fun x => rfl) h7) <| AC (p := (v4.map etS) ++ (((([ao w0_7 (⟨#[44]⟩ : ByteArray)]).map etS).drop 0).take (([ao w0_7 (⟨#[44]⟩ : ByteArray)]).map etS).length) = (v4 ++ ([ao w0_7 (⟨#[44]⟩ : ByteArray)])).map etS) (by simp only [List.take_length, List.drop_zero]; exact di) <| AN)
theorem uz (v1_0 v1_1 v1_2 v1_3 v1_4 : List Int) (v4 : List ByteArray) (v14 : Int) (h0 : (decide (v14 < (5 : Int))) = true) (h1 : (v14 == (0 : Int)) = false) (h2 : (v14 == (1 : Int)) = false) (h3 : (v14 == (2 : Int)) = false) (h4 : (v14 == (3 : Int)) = true) (h5 : (dR v1_3 v14) = true) (h6 : (v4.length + ([(⟨#[42]⟩ : ByteArray)]).length) * 16 ≤ 140737488355328 ∧ v4.length + ([(⟨#[42]⟩ : ByteArray)]).length ≤ 4611686018427387904) : cg (aQ v1_0 v1_1 v1_2 v1_3 v1_4 v4 v14) .normal (aQ v1_0 v1_1 v1_2 v1_3 v1_4 (v4 ++ ([(⟨#[42]⟩ : ByteArray)])) (inc v14)) :=
 IV [.b true, .val (.int .i64 3), rT, .rows ((v4 ++ ([(⟨#[42]⟩ : ByteArray)])).map etS)] _ (fun k => by kernel_rfl) (AC h0 <| AC (p := v14 = (3 : Int)) (eq_of_beq h4) <| AD (I8 (eA v1_3 v14) h5) <| AC (p := (((([(⟨#[42]⟩ : ByteArray)]).map etS).drop 0).take (([(⟨#[42]⟩ : ByteArray)]).map etS).length).all (fun r => r.all T.flat) = true ∧ ((v4.map etS).length + (((([(⟨#[42]⟩ : ByteArray)]).map etS).drop 0).take (([(⟨#[42]⟩ : ByteArray)]).map etS).length).length) * 16 ≤ 140737488355328 ∧ (v4.map etS).length + (((([(⟨#[42]⟩ : ByteArray)]).map etS).drop 0).take (([(⟨#[42]⟩ : ByteArray)]).map etS).length).length ≤ 4611686018427387904) (by simp only [List.take_length, List.drop_zero]; exact ee (fun x => rfl) h6) <| AC (p := (v4.map etS) ++ (((([(⟨#[42]⟩ : ByteArray)]).map etS).drop 0).take (([(⟨#[42]⟩ : ByteArray)]).map etS).length) = (v4 ++ ([(⟨#[42]⟩ : ByteArray)])).map etS) (by simp only [List.take_length, List.drop_zero]; exact di) <| AN)
theorem uA (v1_0 v1_1 v1_2 v1_3 v1_4 : List Int) (v4 : List ByteArray) (v14 : Int) (w0_7 : List ByteArray) (h0 : (decide (v14 < (5 : Int))) = true) (h1 : (v14 == (0 : Int)) = false) (h2 : (v14 == (1 : Int)) = false) (h3 : (v14 == (2 : Int)) = false) (h4 : (v14 == (3 : Int)) = true) (h5 : (dR v1_3 v14) = false) (h6 : fb v1_0 v1_1 v1_2 v1_3 v1_4 v4 ([]) v14 v1_3 (v1_3.length : Int) (0 : Int) (.x2 w0_7)) (h7 : w0_7.length ≤ 140737488355328 ∧ (ao w0_7 (⟨#[44]⟩ : ByteArray)).size ≤ 140737488355328) (h8 : (v4.length + ([ao w0_7 (⟨#[44]⟩ : ByteArray)]).length) * 16 ≤ 140737488355328 ∧ v4.length + ([ao w0_7 (⟨#[44]⟩ : ByteArray)]).length ≤ 4611686018427387904) : cg (aQ v1_0 v1_1 v1_2 v1_3 v1_4 v4 v14) .normal (aQ v1_0 v1_1 v1_2 v1_3 v1_4 (v4 ++ ([ao w0_7 (⟨#[44]⟩ : ByteArray)])) (inc v14)) :=
 IV [.b true, .val (.int .i64 3), rF, .val (.int .i64 (v1_3.length : Int)), .lp (.exit 2) (dx v1_0 v1_1 v1_2 v1_3 v1_4 v4 v14 w0_7), .ret [(false, [tS (ao w0_7 (⟨#[44]⟩ : ByteArray))])], .rows ((v4 ++ ([ao w0_7 (⟨#[44]⟩ : ByteArray)])).map etS)] _ (fun k => by kernel_rfl) (AC h0 <| AC (p := v14 = (3 : Int)) (eq_of_beq h4) <| AD (I8 (eA v1_3 v14) h5) <| AC (p := ((v1_3.map etI).length : Int) = (v1_3.length : Int)) ag <| AL h6 <| AV (ψ := fun k => E.C k 54 [.one (.s .far () 1 (((w0_7.map etS).drop 0).take (w0_7.map etS).length)), .one (tS (⟨#[44]⟩ : ByteArray))] = some [(false, [tS (ao w0_7 (⟨#[44]⟩ : ByteArray))])]) (I7 (by simp only [List.take_length, List.drop_zero]) (eH w0_7 (⟨#[44]⟩ : ByteArray) h7)) <| AC (p := (((([ao w0_7 (⟨#[44]⟩ : ByteArray)]).map etS).drop 0).take (([ao w0_7 (⟨#[44]⟩ : ByteArray)]).map etS).length).all (fun r => r.all T.flat) = true ∧ ((v4.map etS).length + (((([ao w0_7 (⟨#[44]⟩ : ByteArray)]).map etS).drop 0).take (([ao w0_7 (⟨#[44]⟩ : ByteArray)]).map etS).length).length) * 16 ≤ 140737488355328 ∧ (v4.map etS).length + (((([ao w0_7 (⟨#[44]⟩ : ByteArray)]).map etS).drop 0).take (([ao w0_7 (⟨#[44]⟩ : ByteArray)]).map etS).length).length ≤ 4611686018427387904) (by simp only [List.take_length, List.drop_zero]; exact ee (fun x => rfl) h8) <| AC (p := (v4.map etS) ++ (((([ao w0_7 (⟨#[44]⟩ : ByteArray)]).map etS).drop 0).take (([ao w0_7 (⟨#[44]⟩ : ByteArray)]).map etS).length) = (v4 ++ ([ao w0_7 (⟨#[44]⟩ : ByteArray)])).map etS) (by simp only [List.take_length, List.drop_zero]; exact di) <| AN)
theorem uB (v1_0 v1_1 v1_2 v1_3 v1_4 : List Int) (v4 : List ByteArray) (v14 : Int) (h0 : (decide (v14 < (5 : Int))) = true) (h1 : (v14 == (0 : Int)) = false) (h2 : (v14 == (1 : Int)) = false) (h3 : (v14 == (2 : Int)) = false) (h4 : (v14 == (3 : Int)) = false) (h5 : v14 = (4 : Int)) (h6 : (dR v1_4 v14) = true) (h7 : (v4.length + ([(⟨#[42]⟩ : ByteArray)]).length) * 16 ≤ 140737488355328 ∧ v4.length + ([(⟨#[42]⟩ : ByteArray)]).length ≤ 4611686018427387904) : cg (aQ v1_0 v1_1 v1_2 v1_3 v1_4 v4 v14) .normal (aQ v1_0 v1_1 v1_2 v1_3 v1_4 (v4 ++ ([(⟨#[42]⟩ : ByteArray)])) (inc v14)) :=
 IV [.b true, .val (.int .i64 4), rT, .rows ((v4 ++ ([(⟨#[42]⟩ : ByteArray)])).map etS)] _ (fun k => by kernel_rfl) (AC h0 <| AC h5 <| AD (I8 (eA v1_4 v14) h6) <| AC (p := (((([(⟨#[42]⟩ : ByteArray)]).map etS).drop 0).take (([(⟨#[42]⟩ : ByteArray)]).map etS).length).all (fun r => r.all T.flat) = true ∧ ((v4.map etS).length + (((([(⟨#[42]⟩ : ByteArray)]).map etS).drop 0).take (([(⟨#[42]⟩ : ByteArray)]).map etS).length).length) * 16 ≤ 140737488355328 ∧ (v4.map etS).length + (((([(⟨#[42]⟩ : ByteArray)]).map etS).drop 0).take (([(⟨#[42]⟩ : ByteArray)]).map etS).length).length ≤ 4611686018427387904) (by simp only [List.take_length, List.drop_zero]; exact ee (fun x => rfl) h7) <| AC (p := (v4.map etS) ++ (((([(⟨#[42]⟩ : ByteArray)]).map etS).drop 0).take (([(⟨#[42]⟩ : ByteArray)]).map etS).length) = (v4 ++ ([(⟨#[42]⟩ : ByteArray)])).map etS) (by simp only [List.take_length, List.drop_zero]; exact di) <| AN)
theorem uC (v1_0 v1_1 v1_2 v1_3 v1_4 : List Int) (v4 : List ByteArray) (v14 : Int) (w0_7 : List ByteArray) (h0 : (decide (v14 < (5 : Int))) = true) (h1 : (v14 == (0 : Int)) = false) (h2 : (v14 == (1 : Int)) = false) (h3 : (v14 == (2 : Int)) = false) (h4 : (v14 == (3 : Int)) = false) (h5 : v14 = (4 : Int)) (h6 : (dR v1_4 v14) = false) (h7 : fb v1_0 v1_1 v1_2 v1_3 v1_4 v4 ([]) v14 v1_4 (v1_4.length : Int) (0 : Int) (.x2 w0_7)) (h8 : w0_7.length ≤ 140737488355328 ∧ (ao w0_7 (⟨#[44]⟩ : ByteArray)).size ≤ 140737488355328) (h9 : (v4.length + ([ao w0_7 (⟨#[44]⟩ : ByteArray)]).length) * 16 ≤ 140737488355328 ∧ v4.length + ([ao w0_7 (⟨#[44]⟩ : ByteArray)]).length ≤ 4611686018427387904) : cg (aQ v1_0 v1_1 v1_2 v1_3 v1_4 v4 v14) .normal (aQ v1_0 v1_1 v1_2 v1_3 v1_4 (v4 ++ ([ao w0_7 (⟨#[44]⟩ : ByteArray)])) (inc v14)) :=
 IV [.b true, .val (.int .i64 4), rF, .val (.int .i64 (v1_4.length : Int)), .lp (.exit 2) (dx v1_0 v1_1 v1_2 v1_3 v1_4 v4 v14 w0_7), .ret [(false, [tS (ao w0_7 (⟨#[44]⟩ : ByteArray))])], .rows ((v4 ++ ([ao w0_7 (⟨#[44]⟩ : ByteArray)])).map etS)] _ (fun k => by kernel_rfl) (AC h0 <| AC h5 <| AD (I8 (eA v1_4 v14) h6) <| AC (p := ((v1_4.map etI).length : Int) = (v1_4.length : Int)) ag <| AL h7 <| AV (ψ := fun k => E.C k 54 [.one (.s .far () 1 (((w0_7.map etS).drop 0).take (w0_7.map etS).length)), .one (tS (⟨#[44]⟩ : ByteArray))] = some [(false, [tS (ao w0_7 (⟨#[44]⟩ : ByteArray))])]) (I7 (by simp only [List.take_length, List.drop_zero]) (eH w0_7 (⟨#[44]⟩ : ByteArray) h8)) <| AC (p := (((([ao w0_7 (⟨#[44]⟩ : ByteArray)]).map etS).drop 0).take (([ao w0_7 (⟨#[44]⟩ : ByteArray)]).map etS).length).all (fun r => r.all T.flat) = true ∧ ((v4.map etS).length + (((([ao w0_7 (⟨#[44]⟩ : ByteArray)]).map etS).drop 0).take (([ao w0_7 (⟨#[44]⟩ : ByteArray)]).map etS).length).length) * 16 ≤ 140737488355328 ∧ (v4.map etS).length + (((([ao w0_7 (⟨#[44]⟩ : ByteArray)]).map etS).drop 0).take (([ao w0_7 (⟨#[44]⟩ : ByteArray)]).map etS).length).length ≤ 4611686018427387904) (by simp only [List.take_length, List.drop_zero]; exact ee (fun x => rfl) h9) <| AC (p := (v4.map etS) ++ (((([ao w0_7 (⟨#[44]⟩ : ByteArray)]).map etS).drop 0).take (([ao w0_7 (⟨#[44]⟩ : ByteArray)]).map etS).length) = (v4 ++ ([ao w0_7 (⟨#[44]⟩ : ByteArray)])).map etS) (by simp only [List.take_length, List.drop_zero]; exact di) <| AN)
theorem sY (v1_0 v1_1 v1_2 v1_3 v1_4 : List Int) (v4 : List ByteArray) (v14 : Int) (h0 : (decide (v14 < (5 : Int))) = false) : cg (aQ v1_0 v1_1 v1_2 v1_3 v1_4 v4 v14) (.exit 0) (kq v4) :=
 IV [.b false] _ (fun k => by kernel_rfl) (AC h0 <| AN)
noncomputable def aE (v1_0 v1_1 v1_2 v1_3 v1_4 : List Int) : Nat → (List ByteArray) → Int → Option lT
 | 0, _, _ => none
 | n + 1, v4, v14 => cond (decide (v14 < (5 : Int)))
  (cond (v14 == (0 : Int))
   (cond (dR v1_0 v14)
    (if (v4.length + ([(⟨#[42]⟩ : ByteArray)]).length) * 16 ≤ 140737488355328 ∧ v4.length + ([(⟨#[42]⟩ : ByteArray)]).length ≤ 4611686018427387904 then aE v1_0 v1_1 v1_2 v1_3 v1_4 n (v4 ++ ([(⟨#[42]⟩ : ByteArray)])) (inc v14) else none)
    (if v1_0.length ≤ 9223372036854775807 then (bO v1_0 0 ([])).bind fun y => match y with
     | .x2 w0_7 => (if w0_7.length ≤ 140737488355328 ∧ (ao w0_7 (⟨#[44]⟩ : ByteArray)).size ≤ 140737488355328 then if (v4.length + ([ao w0_7 (⟨#[44]⟩ : ByteArray)]).length) * 16 ≤ 140737488355328 ∧ v4.length + ([ao w0_7 (⟨#[44]⟩ : ByteArray)]).length ≤ 4611686018427387904 then aE v1_0 v1_1 v1_2 v1_3 v1_4 n (v4 ++ ([ao w0_7 (⟨#[44]⟩ : ByteArray)])) (inc v14) else none else none) else none))
   (cond (v14 == (1 : Int))
    (cond (dR v1_1 v14)
     (if (v4.length + ([(⟨#[42]⟩ : ByteArray)]).length) * 16 ≤ 140737488355328 ∧ v4.length + ([(⟨#[42]⟩ : ByteArray)]).length ≤ 4611686018427387904 then aE v1_0 v1_1 v1_2 v1_3 v1_4 n (v4 ++ ([(⟨#[42]⟩ : ByteArray)])) (inc v14) else none)
     (if v1_1.length ≤ 9223372036854775807 then (bO v1_1 0 ([])).bind fun y => match y with
      | .x2 w0_7 => (if w0_7.length ≤ 140737488355328 ∧ (ao w0_7 (⟨#[44]⟩ : ByteArray)).size ≤ 140737488355328 then if (v4.length + ([ao w0_7 (⟨#[44]⟩ : ByteArray)]).length) * 16 ≤ 140737488355328 ∧ v4.length + ([ao w0_7 (⟨#[44]⟩ : ByteArray)]).length ≤ 4611686018427387904 then aE v1_0 v1_1 v1_2 v1_3 v1_4 n (v4 ++ ([ao w0_7 (⟨#[44]⟩ : ByteArray)])) (inc v14) else none else none) else none))
    (cond (v14 == (2 : Int))
     (cond (dR v1_2 v14)
      (if (v4.length + ([(⟨#[42]⟩ : ByteArray)]).length) * 16 ≤ 140737488355328 ∧ v4.length + ([(⟨#[42]⟩ : ByteArray)]).length ≤ 4611686018427387904 then aE v1_0 v1_1 v1_2 v1_3 v1_4 n (v4 ++ ([(⟨#[42]⟩ : ByteArray)])) (inc v14) else none)
      (if v1_2.length ≤ 9223372036854775807 then (bO v1_2 0 ([])).bind fun y => match y with
       | .x2 w0_7 => (if w0_7.length ≤ 140737488355328 ∧ (ao w0_7 (⟨#[44]⟩ : ByteArray)).size ≤ 140737488355328 then if (v4.length + ([ao w0_7 (⟨#[44]⟩ : ByteArray)]).length) * 16 ≤ 140737488355328 ∧ v4.length + ([ao w0_7 (⟨#[44]⟩ : ByteArray)]).length ≤ 4611686018427387904 then aE v1_0 v1_1 v1_2 v1_3 v1_4 n (v4 ++ ([ao w0_7 (⟨#[44]⟩ : ByteArray)])) (inc v14) else none else none) else none))
     (cond (v14 == (3 : Int))
      (cond (dR v1_3 v14)
       (if (v4.length + ([(⟨#[42]⟩ : ByteArray)]).length) * 16 ≤ 140737488355328 ∧ v4.length + ([(⟨#[42]⟩ : ByteArray)]).length ≤ 4611686018427387904 then aE v1_0 v1_1 v1_2 v1_3 v1_4 n (v4 ++ ([(⟨#[42]⟩ : ByteArray)])) (inc v14) else none)
       (if v1_3.length ≤ 9223372036854775807 then (bO v1_3 0 ([])).bind fun y => match y with
        | .x2 w0_7 => (if w0_7.length ≤ 140737488355328 ∧ (ao w0_7 (⟨#[44]⟩ : ByteArray)).size ≤ 140737488355328 then if (v4.length + ([ao w0_7 (⟨#[44]⟩ : ByteArray)]).length) * 16 ≤ 140737488355328 ∧ v4.length + ([ao w0_7 (⟨#[44]⟩ : ByteArray)]).length ≤ 4611686018427387904 then aE v1_0 v1_1 v1_2 v1_3 v1_4 n (v4 ++ ([ao w0_7 (⟨#[44]⟩ : ByteArray)])) (inc v14) else none else none) else none))
      (if v14 = (4 : Int) then cond (dR v1_4 v14)
       (if (v4.length + ([(⟨#[42]⟩ : ByteArray)]).length) * 16 ≤ 140737488355328 ∧ v4.length + ([(⟨#[42]⟩ : ByteArray)]).length ≤ 4611686018427387904 then aE v1_0 v1_1 v1_2 v1_3 v1_4 n (v4 ++ ([(⟨#[42]⟩ : ByteArray)])) (inc v14) else none)
       (if v1_4.length ≤ 9223372036854775807 then (bO v1_4 0 ([])).bind fun y => match y with
        | .x2 w0_7 => (if w0_7.length ≤ 140737488355328 ∧ (ao w0_7 (⟨#[44]⟩ : ByteArray)).size ≤ 140737488355328 then if (v4.length + ([ao w0_7 (⟨#[44]⟩ : ByteArray)]).length) * 16 ≤ 140737488355328 ∧ v4.length + ([ao w0_7 (⟨#[44]⟩ : ByteArray)]).length ≤ 4611686018427387904 then aE v1_0 v1_1 v1_2 v1_3 v1_4 n (v4 ++ ([ao w0_7 (⟨#[44]⟩ : ByteArray)])) (inc v14) else none else none) else none) else none)))))
  (some (.x0 v4))
theorem yn (v1_0 v1_1 v1_2 v1_3 v1_4 : List Int) (n : Nat) : ∀ (v4 : List ByteArray) (v14 : Int), Ans (aE v1_0 v1_1 v1_2 v1_3 v1_4 n v4 v14) (yq v1_0 v1_1 v1_2 v1_3 v1_4 v4 v14) := by
 induction n with
 | zero => intros; exact Ans.none
 | succ n ih =>
  intro v4 v14
  unfold aE
  refine I3 (fun h0 => ?_) (fun h0 => ?_)
  ·refine I3 (fun h1 => ?_) (fun h1 => ?_)
   ·refine I3 (fun h2 => ?_) (fun h2 => ?_)
    ·refine I5 (fun h3 => ?_)
     exact (ih (v4 ++ ([(⟨#[42]⟩ : ByteArray)])) (inc v14)).mono fun y hy => by cases y <;> exact IY (ut v1_0 v1_1 v1_2 v1_3 v1_4 v4 v14 h0 h1 h2 h3) hy
    ·refine I5 (fun hl5 => ?_)
     refine I4 (fun y hy => ?_)
     replace hy := gG v1_0 v1_1 v1_2 v1_3 v1_4 v4 v14 v1_0 v1_0 0 ([]) rfl hl5 y hy
     cases y with
     | x2 w0_7 =>
      have h3 := hy
      refine I5 (fun h4 => ?_)
      refine I5 (fun h5 => ?_)
      exact (ih (v4 ++ ([ao w0_7 (⟨#[44]⟩ : ByteArray)])) (inc v14)).mono fun y hy => by cases y <;> exact IY (uu v1_0 v1_1 v1_2 v1_3 v1_4 v4 v14 w0_7 h0 h1 h2 h3 h4 h5) hy
   ·refine I3 (fun h2 => ?_) (fun h2 => ?_)
    ·refine I3 (fun h3 => ?_) (fun h3 => ?_)
     ·refine I5 (fun h4 => ?_)
      exact (ih (v4 ++ ([(⟨#[42]⟩ : ByteArray)])) (inc v14)).mono fun y hy => by cases y <;> exact IY (uv v1_0 v1_1 v1_2 v1_3 v1_4 v4 v14 h0 h1 h2 h3 h4) hy
     ·refine I5 (fun hl6 => ?_)
      refine I4 (fun y hy => ?_)
      replace hy := gG v1_0 v1_1 v1_2 v1_3 v1_4 v4 v14 v1_1 v1_1 0 ([]) rfl hl6 y hy
      cases y with
      | x2 w0_7 =>
       have h4 := hy
       refine I5 (fun h5 => ?_)
       refine I5 (fun h6 => ?_)
       exact (ih (v4 ++ ([ao w0_7 (⟨#[44]⟩ : ByteArray)])) (inc v14)).mono fun y hy => by cases y <;> exact IY (uw v1_0 v1_1 v1_2 v1_3 v1_4 v4 v14 w0_7 h0 h1 h2 h3 h4 h5 h6) hy
    ·refine I3 (fun h3 => ?_) (fun h3 => ?_)
     ·refine I3 (fun h4 => ?_) (fun h4 => ?_)
      ·refine I5 (fun h5 => ?_)
       exact (ih (v4 ++ ([(⟨#[42]⟩ : ByteArray)])) (inc v14)).mono fun y hy => by cases y <;> exact IY (ux v1_0 v1_1 v1_2 v1_3 v1_4 v4 v14 h0 h1 h2 h3 h4 h5) hy
      ·refine I5 (fun hl7 => ?_)
       refine I4 (fun y hy => ?_)
       replace hy := gG v1_0 v1_1 v1_2 v1_3 v1_4 v4 v14 v1_2 v1_2 0 ([]) rfl hl7 y hy
       cases y with
       | x2 w0_7 =>
        have h5 := hy
        refine I5 (fun h6 => ?_)
        refine I5 (fun h7 => ?_)
        exact (ih (v4 ++ ([ao w0_7 (⟨#[44]⟩ : ByteArray)])) (inc v14)).mono fun y hy => by cases y <;> exact IY (uy v1_0 v1_1 v1_2 v1_3 v1_4 v4 v14 w0_7 h0 h1 h2 h3 h4 h5 h6 h7) hy
     ·refine I3 (fun h4 => ?_) (fun h4 => ?_)
      ·refine I3 (fun h5 => ?_) (fun h5 => ?_)
       ·refine I5 (fun h6 => ?_)
        exact (ih (v4 ++ ([(⟨#[42]⟩ : ByteArray)])) (inc v14)).mono fun y hy => by cases y <;> exact IY (uz v1_0 v1_1 v1_2 v1_3 v1_4 v4 v14 h0 h1 h2 h3 h4 h5 h6) hy
       ·refine I5 (fun hl8 => ?_)
        refine I4 (fun y hy => ?_)
        replace hy := gG v1_0 v1_1 v1_2 v1_3 v1_4 v4 v14 v1_3 v1_3 0 ([]) rfl hl8 y hy
        cases y with
        | x2 w0_7 =>
         have h6 := hy
         refine I5 (fun h7 => ?_)
         refine I5 (fun h8 => ?_)
         exact (ih (v4 ++ ([ao w0_7 (⟨#[44]⟩ : ByteArray)])) (inc v14)).mono fun y hy => by cases y <;> exact IY (uA v1_0 v1_1 v1_2 v1_3 v1_4 v4 v14 w0_7 h0 h1 h2 h3 h4 h5 h6 h7 h8) hy
      ·refine I5 (fun h5 => ?_)
       refine I3 (fun h6 => ?_) (fun h6 => ?_)
       ·refine I5 (fun h7 => ?_)
        exact (ih (v4 ++ ([(⟨#[42]⟩ : ByteArray)])) (inc v14)).mono fun y hy => by cases y <;> exact IY (uB v1_0 v1_1 v1_2 v1_3 v1_4 v4 v14 h0 h1 h2 h3 h4 h5 h6 h7) hy
       ·refine I5 (fun hl8 => ?_)
        refine I4 (fun y hy => ?_)
        replace hy := gG v1_0 v1_1 v1_2 v1_3 v1_4 v4 v14 v1_4 v1_4 0 ([]) rfl hl8 y hy
        cases y with
        | x2 w0_7 =>
         have h7 := hy
         refine I5 (fun h8 => ?_)
         refine I5 (fun h9 => ?_)
         exact (ih (v4 ++ ([ao w0_7 (⟨#[44]⟩ : ByteArray)])) (inc v14)).mono fun y hy => by cases y <;> exact IY (uC v1_0 v1_1 v1_2 v1_3 v1_4 v4 v14 w0_7 h0 h1 h2 h3 h4 h5 h6 h7 h8 h9) hy
  ·exact IX (IZ (sY v1_0 v1_1 v1_2 v1_3 v1_4 v4 v14 h0) (by intro h; cases h))
noncomputable def kr (x0 : GCron) : Option (ByteArray × Bool) :=
  if aq.sm x0 then cond (fj x0)
   ((aE x0.f0 x0.f1 x0.f2 x0.f3 x0.f4 9223372036854775808 ([]) (0 : Int)).bind fun y => match y with
    | .x0 w0_4 => (if w0_4.length ≤ 140737488355328 ∧ (ao w0_4 (⟨#[32]⟩ : ByteArray)).size ≤ 140737488355328 then some (ao w0_4 (⟨#[32]⟩ : ByteArray), true) else none))
   (some (ByteArray.empty, false)) else none
theorem Aj (x0 : GCron) : Ans (kr x0) (fun r => Does E 34 [.agg (GCron.t .far x0)] [(false, [tS r.1]), (false, [tB r.2])]) := by
 unfold kr
 refine I5 (fun h0 => ?_)
 refine I3 (fun h1 => ?_) (fun h1 => ?_)
 ·refine I4 (fun y hy => ?_)
  replace hy := yn x0.f0 x0.f1 x0.f2 x0.f3 x0.f4 9223372036854775808 ([]) (0 : Int) y hy
  cases y with
  | x0 w0_4 =>
   have h2 := hy
   refine I5 (fun h3 => ?_)
   exact IX (IW (fn := Tryz.f34) [rT, .lp (.exit 0) (kq w0_4), .ret [(false, [tS (ao w0_4 (⟨#[32]⟩ : ByteArray))])]] _ rfl (fun _ => rfl) (fun k => by kernel_rfl) (AD (I8 (tZ x0 h0) h1) <| AL h2 <| AV (ψ := fun k => E.C k 54 [.one (.s .far () 1 (((w0_4.map etS).drop 0).take (w0_4.map etS).length)), .one (tS (⟨#[32]⟩ : ByteArray))] = some [(false, [tS (ao w0_4 (⟨#[32]⟩ : ByteArray))])]) (I7 (by simp only [List.take_length, List.drop_zero]) (eH w0_4 (⟨#[32]⟩ : ByteArray) h3)) <| AN))
 ·exact IX (IW (fn := Tryz.f34) [rF] _ rfl (fun _ => rfl) (fun k => by kernel_rfl) (AD (I8 (tZ x0 h0) h1) <| AN))
theorem xP {a b : Int} : ∀ {l : List Int} {p : Option Int}, gJ a b l p = true → l.Pairwise (· < ·) ∧ ∀ y, p = some y → ∀ x ∈ l, y < x
 | [], p, _ => ⟨by simp, fun y _ x hx => by cases hx⟩
 | z :: l, p, h => by
  unfold gJ at h
  simp only [Bool.and_eq_true] at h
  obtain ⟨h1, h2⟩ := xP h.2
  have h3 := h2 z rfl
  refine ⟨List.pairwise_cons.2 ⟨h3, h1⟩, fun y e x hx => ?_⟩
  subst e
  have h4 : y < z := by simpa using h.1.2
  rcases List.mem_cons.1 hx with rfl | hx
  ·exact h4
  ·have := h3 x hx; omega
theorem A9 {a b : Int} : ∀ {l : List Int} {p : Option Int}, gJ a b l p = true → ∀ x ∈ l, a ≤ x ∧ x ≤ b
 | [], _, _, x, hx => by cases hx
 | y :: l, p, h, x, hx => by
  unfold gJ at h
  simp only [Bool.and_eq_true] at h
  rcases List.mem_cons.1 hx with rfl | hx
  ·have := h.1.1; unfold aD at this; simpa using this
  ·exact A9 h.2 x hx
theorem xH {l : List Int} {a b : Int} (h : aO l a b = true) : ∀ x ∈ l, a ≤ x ∧ x ≤ b := by
 unfold aO at h
 rw [Bool.and_eq_true] at h
 have h := h.1
 exact A9 h
theorem D5 {l : List Int} {a b : Int} (h : aO l a b = true) (hab : a ≤ b + 1) : (l.length : Int) ≤ b + 1 - a := by
 have hi := xH h
 unfold aO at h
 rw [Bool.and_eq_true] at h
 exact tG a b l a (xP h.1).1 hi hab
theorem ue {c : GCron} (h : fj c = true) : aO c.f0 0 59 = true ∧ aO c.f1 0 23 = true ∧ aO c.f2 1 31 = true ∧ aO c.f3 1 12 = true ∧ aO c.f4 0 6 = true := by
 unfold fj at h
 simp only [Bool.and_eq_true] at h
 exact h
theorem eE {l : List Int} {a b : Int} (h : aO l a b = true) (h0 : 0 ≤ a) (h1 : a ≤ b) (h2 : b ≤ 59) : l.length ≤ 60 ∧ ∀ z ∈ l, 0 ≤ z ∧ z ≤ 59 := by
 have := D5 h (by omega)
 exact ⟨by omega, fun z hz => by have := xH h z hz; omega⟩
noncomputable def oT (c : GCron) : ByteArray := ofTx (eJ 32 [tx (aj c.f0 60), tx (aj c.f1 24), tx (aj c.f2 31), tx (aj c.f3 12), tx (aj c.f4 7)])
noncomputable def aT (c : GCron) : ByteArray × Bool := cond (fj c) (oT c, true) (ByteArray.empty, false)
theorem HR (a b c d e : ByteArray) : ((((((((a ++ ⟨#[32]⟩) ++ b) ++ ⟨#[32]⟩) ++ c) ++ ⟨#[32]⟩) ++ d) ++ ⟨#[32]⟩) ++ e : ByteArray) = ofTx (eJ 32 [tx a, tx b, tx c, tx d, tx e]) := by
 apply BK
 have e32 : tx (⟨#[32]⟩ : ByteArray) = [32] := rfl
 simp [FH, e32, oJ, eJ]
theorem HE (c : GCron) (h : aq.sm c) : kK c = some (aT c) := by
 unfold kK aT
 rw [if_pos h]
 cases q : fj c with
 | false => rfl
 | true =>
  obtain ⟨k0, k1, k2, k3, k4⟩ := ue q
  have a0 := eE k0 (by decide) (by decide) (by decide)
  have a1 := eE k1 (by decide) (by decide) (by decide)
  have a2 := eE k2 (by decide) (by decide) (by decide)
  have a3 := eE k3 (by decide) (by decide) (by decide)
  have a4 := eE k4 (by decide) (by decide) (by decide)
  have z0 := d8 a0.1 a0.2 60
  have z1 := d8 a1.1 a1.2 24
  have z2 := d8 a2.1 a2.2 31
  have z3 := d8 a3.1 a3.2 12
  have z4 := d8 a4.1 a4.2 7
  have e32 : (⟨#[32]⟩ : ByteArray).size = 1 := rfl
  rw [cond_true, cond_true]
  simp only [if_pos a0.1, if_pos a0.2, if_pos a1.1, if_pos a1.2, if_pos a2.1, if_pos a2.2, if_pos a3.1, if_pos a3.2, if_pos a4.1, if_pos a4.2, ByteArray.size_append, e32, bL]
  repeat rw [if_pos (by omega)]
  rw [HR]
  rfl
theorem GE : ∀ (l : List Int) (i : Nat) (v : List ByteArray), (∀ z ∈ l, 0 ≤ z ∧ z ≤ 59) → v.length + l.length ≤ 1000 → bO l i v = some (.x2 (v ++ l.map aI))
 | [], i, v, _, _ => by unfold bO; simp
 | x :: l, i, v, h, hl => by
  have hx := h x (by simp)
  simp only [List.length_cons] at hl
  unfold bO
  rw [if_pos (by omega), if_pos (by simp; omega), GE l (i + 1) _ (fun z hz => h z (by simp [hz])) (by simp; omega)]
  simp
theorem lR (l : List Int) (hl : l.length ≤ 60) (hm : ∀ z ∈ l, 0 ≤ z ∧ z ≤ 59) (v : List ByteArray) (hv : v.length ≤ 10) (b : Bool) (n : Int) (hb : b = ((l.length : Int) == n)) (K : List ByteArray → Option lT) :
  cond b
    (if (v.length + ([(⟨#[42]⟩ : ByteArray)]).length) * 16 ≤ 140737488355328 ∧ v.length + ([(⟨#[42]⟩ : ByteArray)]).length ≤ 4611686018427387904 then K (v ++ ([(⟨#[42]⟩ : ByteArray)])) else none)
    (if l.length ≤ 9223372036854775807 then (bO l 0 ([])).bind fun y => match y with
     | .x2 w0_7 => (if w0_7.length ≤ 140737488355328 ∧ (ao w0_7 (⟨#[44]⟩ : ByteArray)).size ≤ 140737488355328 then if (v.length + ([ao w0_7 (⟨#[44]⟩ : ByteArray)]).length) * 16 ≤ 140737488355328 ∧ v.length + ([ao w0_7 (⟨#[44]⟩ : ByteArray)]).length ≤ 4611686018427387904 then K (v ++ ([ao w0_7 (⟨#[44]⟩ : ByteArray)])) else none else none) else none) = K (v ++ [aj l n]) := by
 subst hb
 have hj : ao (l.map aI) ⟨#[44]⟩ = ofTx (eJ 44 (l.map fun x => tx (aI x))) := by
  have e : l.map aI = (l.map fun x => tx (aI x)).map ofTx := by rw [List.map_map]; rfl
  rw [e, pG]
 unfold aj
 have hz := d8 hl hm n
 unfold aj at hz
 cases q : (l.length : Int) == n with
 | true => rw [cond_true, if_pos (by simp; omega), cond_true]
 | false =>
  rw [q, cond_false] at hz
  rw [cond_false, cond_false, if_pos (by omega), GE l 0 [] hm (by simp; omega), Option.bind_some]
  simp only [List.nil_append]
  rw [hj, if_pos (by rw [List.length_map]; omega), if_pos (by simp; omega)]
theorem HD (c : GCron) (h : aq.sm c) : kr c = some (aT c) := by
 unfold kr aT
 rw [if_pos h]
 cases q : fj c with
 | false => rfl
 | true =>
  obtain ⟨k0, k1, k2, k3, k4⟩ := ue q
  have a0 := eE k0 (by decide) (by decide) (by decide)
  have a1 := eE k1 (by decide) (by decide) (by decide)
  have a2 := eE k2 (by decide) (by decide) (by decide)
  have a3 := eE k3 (by decide) (by decide) (by decide)
  have a4 := eE k4 (by decide) (by decide) (by decide)
  have z0 := d8 a0.1 a0.2 60
  have z1 := d8 a1.1 a1.2 24
  have z2 := d8 a2.1 a2.2 31
  have z3 := d8 a3.1 a3.2 12
  have z4 := d8 a4.1 a4.2 7
  have s0 : ∀ n, aE c.f0 c.f1 c.f2 c.f3 c.f4 (n + 1) [] 0 = aE c.f0 c.f1 c.f2 c.f3 c.f4 n ([] ++ [aj c.f0 60]) 1 := fun n =>
   lR c.f0 a0.1 a0.2 [] (by simp) (dR c.f0 0) 60 rfl fun w => aE c.f0 c.f1 c.f2 c.f3 c.f4 n w 1
  have s1 : ∀ n v, v.length ≤ 10 → aE c.f0 c.f1 c.f2 c.f3 c.f4 (n + 1) v 1 = aE c.f0 c.f1 c.f2 c.f3 c.f4 n (v ++ [aj c.f1 24]) 2 := fun n v hv =>
   lR c.f1 a1.1 a1.2 v hv (dR c.f1 1) 24 rfl fun w => aE c.f0 c.f1 c.f2 c.f3 c.f4 n w 2
  have s2 : ∀ n v, v.length ≤ 10 → aE c.f0 c.f1 c.f2 c.f3 c.f4 (n + 1) v 2 = aE c.f0 c.f1 c.f2 c.f3 c.f4 n (v ++ [aj c.f2 31]) 3 := fun n v hv =>
   lR c.f2 a2.1 a2.2 v hv (dR c.f2 2) 31 rfl fun w => aE c.f0 c.f1 c.f2 c.f3 c.f4 n w 3
  have s3 : ∀ n v, v.length ≤ 10 → aE c.f0 c.f1 c.f2 c.f3 c.f4 (n + 1) v 3 = aE c.f0 c.f1 c.f2 c.f3 c.f4 n (v ++ [aj c.f3 12]) 4 := fun n v hv =>
   lR c.f3 a3.1 a3.2 v hv (dR c.f3 3) 12 rfl fun w => aE c.f0 c.f1 c.f2 c.f3 c.f4 n w 4
  have s4 : ∀ n v, v.length ≤ 10 → aE c.f0 c.f1 c.f2 c.f3 c.f4 (n + 1) v 4 = aE c.f0 c.f1 c.f2 c.f3 c.f4 n (v ++ [aj c.f4 7]) 5 := fun n v hv =>
   lR c.f4 a4.1 a4.2 v hv (dR c.f4 4) 7 rfl fun w => aE c.f0 c.f1 c.f2 c.f3 c.f4 n w 5
  have s5 : ∀ n v, aE c.f0 c.f1 c.f2 c.f3 c.f4 (n + 1) v 5 = some (.x0 v) := fun n v => rfl
  have st : aE c.f0 c.f1 c.f2 c.f3 c.f4 (9223372036854775802 + 6) [] 0 = _ := s0 _
  rw [s1 _ _ (by simp), s2 _ _ (by simp), s3 _ _ (by simp), s4 _ _ (by simp), s5] at st
  simp only [List.nil_append, List.cons_append] at st
  rw [cond_true, cond_true]
  refine (congrArg (Option.bind · _) st).trans ?_
  rw [Option.bind_some]
  have ej : ao [aj c.f0 60, aj c.f1 24, aj c.f2 31, aj c.f3 12, aj c.f4 7] ⟨#[32]⟩ = oT c := pG [tx (aj c.f0 60), tx (aj c.f1 24), tx (aj c.f2 31), tx (aj c.f3 12), tx (aj c.f4 7)] 32
  have el : (oT c).size ≤ 2000 := by
   unfold oT
   rw [lP]
   have := rZ 32 200 [tx (aj c.f0 60), tx (aj c.f1 24), tx (aj c.f2 31), tx (aj c.f3 12), tx (aj c.f4 7)] (fun x hx => by
    simp only [List.mem_cons, List.not_mem_nil, or_false] at hx
    rcases hx with rfl | rfl | rfl | rfl | rfl <;> rw [← co] <;> assumption)
   simp only [List.length_cons, List.length_nil] at this
   omega
  show (if _ then _ else none) = _
  rw [ej, if_pos ⟨by simp, by omega⟩]
theorem dv (x0 : GCron) (h : aq.sm x0) : Does E 11 [.agg (GCron.t .far x0)] [(false, [tS ((aT x0).1)]), (false, [tB ((aT x0).2)])] := by
 exact Bc x0 _ (HE x0 h)
theorem p9 (x0 : GCron) (h : aq.sm x0) : Does E 34 [.agg (GCron.t .far x0)] [(false, [tS ((aT x0).1)]), (false, [tB ((aT x0).2)])] := by
 exact Aj x0 _ (HD x0 h)
end Go.Proofs.YtfbhcpmlihdmcaaGreatDoor.Am
