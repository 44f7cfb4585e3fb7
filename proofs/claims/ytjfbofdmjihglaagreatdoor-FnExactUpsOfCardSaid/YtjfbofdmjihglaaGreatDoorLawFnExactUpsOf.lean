/- 'laws.FnExactUpsOf' returns true for every plan and place, and leaves the plan as it was. Conditions: none. -/
import Derived.Test.YtjfbofdmjihglaaGreatDoorUps
import Derived.Test.YtjfbofdmjihglaaGreatDoorMarks
import Derived.Test.YtjfbofdmjihglaaGreatDoorRows
import Derived.Test.YtjfbofdmjihglaaGreatDoorCards
import Derived.Test.YtjfbofdmjihglaaGreatDoorTie
import Derived.WalkKit
import Derived.ProofKit
import Derived.OpenShut
import Derived.ShutString
import Derived.ChangeOld
import Derived.Below
import Derived.SizedLaws
import Derived.Lay
import Derived.LaidMore
import Derived.SevenTiedAt
import Derived.Stop.Joined
import Derived.Stop.LaidErr
import Derived.Lib.LaidTab
import Derived.Shelf.Vars
import Derived.HandedShaped
namespace Go.Proofs.YtjfbofdmjihglaaGreatDoor.Am
open Go Go.Proofs Classical
set_option maxRecDepth 100000
set_option linter.unusedVariables false
set_option linter.unusedSimpArgs false
noncomputable def qx (x0 : GDag) (x1 : Int) : Option ((List Int)) :=
  if ao.sm x0 then cond (bA x0)
   (cond (aH x1 (0 : Int) (IntKind.wrap .i64 ((x0.f5.length : Int) - (1 : Int))))
    (if bA x0 = true then if 0 ≤ x1 ∧ x1 < (x0.f5.length : Int) then some (ups x0 x1) else none else none)
    (some (([] : List Int))))
   (some (([] : List Int))) else none
theorem Hz {q0 : Kd} (x0 : GDag) (x1 : Int) : Ans (qx x0 x1) (fun r => Does E 21 [.agg (GDag.t .far q0 x0), .one (tI x1)] [(false, [.s .own () 1 (r.map etI)])]) := by
 unfold qx
 refine La (fun h0 => ?_)
 refine K8 (fun h1 => ?_) (fun h1 => ?_)
 ·refine K8 (fun h2 => ?_) (fun h2 => ?_)
  ·refine La (fun h3 => ?_)
   refine La (fun h4 => ?_)
   exact K5 (K4 (fn := Tryz.f21) [rT, .val (.int .i64 (x0.f5.length : Int)), rT, .ret [(false, [.s .own () 1 ((ups x0 x1).map etI)])]] _ rfl (fun _ => rfl) (fun k => by kernel_rfl) (AV (ψ := fun k => E.C k 32 [.agg (GDag.t .far q0 x0)] = some [(false, [tB true])]) (Lb (eI x0 h0) (by rw [h1])) <| ALn x0.f5 (GTask.t q0) <| AD (Ld (bq x1 (0 : Int) (IntKind.wrap .i64 ((x0.f5.length : Int) - (1 : Int)))) h2) <| AV (ψ := fun k => E.C k 26 [.agg (GDag.t .far q0 x0), .one (tI x1)] = some [(false, [.s .own () 1 ((ups x0 x1).map etI)])]) (wS x0 x1 h0 h3 h4) <| AN))
  ·exact K5 (K4 (fn := Tryz.f21) [rT, .val (.int .i64 (x0.f5.length : Int)), rF] _ rfl (fun _ => rfl) (fun k => by kernel_rfl) (AV (ψ := fun k => E.C k 32 [.agg (GDag.t .far q0 x0)] = some [(false, [tB true])]) (Lb (eI x0 h0) (by rw [h1])) <| ALn x0.f5 (GTask.t q0) <| AD (Ld (bq x1 (0 : Int) (IntKind.wrap .i64 ((x0.f5.length : Int) - (1 : Int)))) h2) <| AN))
 ·exact K5 (K4 (fn := Tryz.f21) [rF] _ rfl (fun _ => rfl) (fun k => by kernel_rfl) (AV (ψ := fun k => E.C k 32 [.agg (GDag.t .far q0 x0)] = some [(false, [tB false])]) (Lb (eI x0 h0) (by rw [h1])) <| AN))
noncomputable def qn (x0 : GDag) (x1 : Int) : Option ((List Int)) :=
  cond (gL x0 x1)
   (if ao.sm x0 then cond (bA x0)
    (if bA x0 = true then if 0 ≤ x1 ∧ x1 < (x0.f5.length : Int) then some (ups x0 x1) else none else none)
    (some (([] : List Int))) else none)
   (some (([] : List Int)))
theorem GX {q0 : Kd} (x0 : GDag) (x1 : Int) : Ans (qn x0 x1) (fun r => Does E 22 [.agg (GDag.t .far q0 x0), .one (tI x1)] [(false, [.s .own () 1 (r.map etI)])]) := by
 unfold qn
 refine K8 (fun h0 => ?_) (fun h0 => ?_)
 ·refine La (fun h1 => ?_)
  refine K8 (fun h2 => ?_) (fun h2 => ?_)
  ·refine La (fun h3 => ?_)
   refine La (fun h4 => ?_)
   exact K5 (K4 (fn := Tryz.f22) [rT, rT, .ret [(false, [.s .own () 1 ((ups x0 x1).map etI)])]] _ rfl (fun _ => rfl) (fun k => by kernel_rfl) (AV (ψ := fun k => E.C k 40 [.agg (GDag.t .far q0 x0), .one (tI x1)] = some [(false, [tB true])]) (Lb (ko x0 x1) (by rw [h0])) <| AV (ψ := fun k => E.C k 28 [.agg (GDag.t .far q0 x0)] = some [(false, [tB true])]) (Lb (fK x0 h1) (by rw [h2])) <| AV (ψ := fun k => E.C k 30 [.agg (GDag.t .far q0 x0), .one (tI x1)] = some [(false, [.s .own () 1 ((ups x0 x1).map etI)])]) (Ew x0 x1 h1 h3 h4) <| AN))
  ·exact K5 (K4 (fn := Tryz.f22) [rT, rF] _ rfl (fun _ => rfl) (fun k => by kernel_rfl) (AV (ψ := fun k => E.C k 40 [.agg (GDag.t .far q0 x0), .one (tI x1)] = some [(false, [tB true])]) (Lb (ko x0 x1) (by rw [h0])) <| AV (ψ := fun k => E.C k 28 [.agg (GDag.t .far q0 x0)] = some [(false, [tB false])]) (Lb (fK x0 h1) (by rw [h2])) <| AN))
 ·exact K5 (K4 (fn := Tryz.f22) [rF] _ rfl (fun _ => rfl) (fun k => by kernel_rfl) (AV (ψ := fun k => E.C k 40 [.agg (GDag.t .far q0 x0), .one (tI x1)] = some [(false, [tB false])]) (Lb (ko x0 x1) (by rw [h0])) <| AN))
noncomputable def ap (d : GDag) (i : Int) : List Int := cond (bA d && gL d i) (ups d i) []
theorem C8 (d : GDag) (i : Int) (h : ao.sm d) : qx d i = some (ap d i) ∧ qn d i = some (ap d i) := by
 unfold qx qn ap
 have e : aH i 0 (IntKind.wrap .i64 ((d.f5.length : Int) - 1)) = gL d i := rfl
 rw [e]
 cases q : bA d with
 | false => refine ⟨?_, ?_⟩ <;> simp only [if_pos h] <;> cases gL d i <;> rfl
 | true =>
  cases q2 : gL d i with
  | false => refine ⟨?_, ?_⟩ <;> simp only [if_pos h] <;> rfl
  | true =>
   have hi := og q2 h
   refine ⟨?_, ?_⟩ <;> simp only [if_pos h, if_pos hi, cond_true, if_true, Bool.and_true] <;> rfl
theorem IA (d : GDag) (i : Int) (h : ao.sm d) : ao.sm (ap d i) := by
 unfold ap
 cases q : bA d with
 | false => exact mb (by simp)
 | true =>
  cases q2 : gL d i with
  | false => exact mb (by simp)
  | true =>
   have := (HN q (og q2 h)).2
   exact mb (by show (ups d i).length ≤ _; omega)
theorem lU {q0 : Kd} (x0 : GDag) (x1 : Int) (h : ao.sm x0) : Does E 21 [.agg (GDag.t .far q0 x0), .one (tI x1)] [(false, [.s .own () 1 ((ap x0 x1).map etI)])] := by
 exact Hz x0 x1 _ (C8 x0 x1 h).1
theorem jK {q0 : Kd} (x0 : GDag) (x1 : Int) (h : ao.sm x0) : Does E 22 [.agg (GDag.t .far q0 x0), .one (tI x1)] [(false, [.s .own () 1 ((ap x0 x1).map etI)])] := by
 exact GX x0 x1 _ (C8 x0 x1 h).2
end Go.Proofs.YtjfbofdmjihglaaGreatDoor.Am
namespace Go.Proofs.YtjfbofdmjihglaaGreatDoor.Am
open Go Go.Proofs Classical
set_option maxRecDepth 100000
set_option linter.unusedVariables false
set_option linter.unusedSimpArgs false
noncomputable def lJ (x0 : LDag) (x1 : Int) : Option (Bool) :=
  if Wf.wf x0 then cond (decide ((aC x0 (1048576 : Int)) < (0 : Int)))
   (some (true))
   (if ao.sm x0 then if ao.sm (aa x0) then if (ap (aa x0) x1) = (ap (aa x0) x1) then if ao.sm (ap (aa x0) x1) then cond (yes (ap (aa x0) x1) (ap (aa x0) x1))
    (if (aa x0) = (aa x0) then cond (yes (aa x0) (aa x0))
     (if ek (aa x0) (1 : Int) = some (aq (aa x0) (1 : Int)) then cond (decide (((aq (aa x0) (1 : Int)).2) < (0 : Int)))
      (some (false))
      (if dI (ap (aa x0) x1) (1 : Int) = some (ac (ap (aa x0) x1) (1 : Int)) then if dH ((ac (ap (aa x0) x1) (1 : Int)).1) (1 : Int) = some (aD ((ac (ap (aa x0) x1) (1 : Int)).1) (1 : Int)) then cond (decide ((aD ((ac (ap (aa x0) x1) (1 : Int)).1) (1 : Int)) < (0 : Int)))
       (some (false))
       (cond ((aD ((ac (ap (aa x0) x1) (1 : Int)).1) (1 : Int)) != ((ac (ap (aa x0) x1) (1 : Int)).2))
        (some (false))
        (some (true))) else none else none) else none)
     (some (false)) else none)
    (some (false)) else none else none else none else none) else none
theorem wt {q0 : Kd} (x0 : LDag) (x1 : Int) : Ans (lJ x0 x1) (fun r => Does E 6 [.agg (LDag.t .far q0 x0), .one (tI x1)] [(false, [tB r])]) := by
 unfold lJ
 refine La (fun h0 => ?_)
 refine K8 (fun h1 => ?_) (fun h1 => ?_)
 ·exact K5 (K4 (fn := Tryz.f6) [.ret [(false, [tI (aC x0 (1048576 : Int))])], .b true] _ rfl (fun _ => rfl) (fun k => by kernel_rfl) (AV (ψ := fun k => E.C k 8 [.agg (LDag.t .far q0 x0), .one (tI (1048576 : Int))] = some [(false, [tI (aC x0 (1048576 : Int))])]) (bz x0 (1048576 : Int) h0) <| AC h1 <| AN))
 ·refine La (fun h2 => ?_)
  refine La (fun h3 => ?_)
  refine La (fun h4 => ?_)
  refine La (fun h5 => ?_)
  refine K8 (fun h6 => ?_) (fun h6 => ?_)
  ·refine La (fun h7 => ?_)
   refine K8 (fun h8 => ?_) (fun h8 => ?_)
   ·refine La (fun h9 => ?_)
    refine K8 (fun h10 => ?_) (fun h10 => ?_)
    ·exact K5 (K4 (fn := Tryz.f6) [.ret [(false, [tI (aC x0 (1048576 : Int))])], .b false, .ret [(true, GDag.t .own .own (aa x0))], .ret [(false, [.s .own () 1 ((ap (aa x0) x1).map etI)])], .ret [(true, GDag.t .own .own (aa x0))], .ret [(false, [.s .own () 1 ((ap (aa x0) x1).map etI)])], rT, .ret [(true, GDag.t .own .own (aa x0))], rT, .ret [(true, GDag.t .own .own ((aq (aa x0) (1 : Int)).1)), (false, [tI ((aq (aa x0) (1 : Int)).2)])], .b true] _ rfl (fun _ => rfl) (fun k => by kernel_rfl) (AV (ψ := fun k => E.C k 8 [.agg (LDag.t .far q0 x0), .one (tI (1048576 : Int))] = some [(false, [tI (aC x0 (1048576 : Int))])]) (bz x0 (1048576 : Int) h0) <| AC h1 <| AV (ψ := fun k => E.C k 10 [.agg (LDag.t .far q0 x0)] = some [(true, GDag.t .own .own (aa x0))]) (aA x0 h2) <| AV (ψ := fun k => E.C k 21 [.agg (GDag.t .far .own (aa x0)), .one (tI x1)] = some [(false, [.s .own () 1 ((ap (aa x0) x1).map etI)])]) (lU (aa x0) x1 h3) <| AV (ψ := fun k => E.C k 10 [.agg (LDag.t .far q0 x0)] = some [(true, GDag.t .own .own (aa x0))]) (aA x0 h2) <| AV (ψ := fun k => E.C k 22 [.agg (GDag.t .far .own (aa x0)), .one (tI x1)] = some [(false, [.s .own () 1 ((ap (aa x0) x1).map etI)])]) (jK (aa x0) x1 h3) <| AV (ψ := fun k => E.C k 17 [.one (.s .far () 1 ((((ap (aa x0) x1).map etI).drop 0).take ((ap (aa x0) x1).map etI).length)), .one (.s .far () 1 ((((ap (aa x0) x1).map etI).drop 0).take ((ap (aa x0) x1).map etI).length))] = some [(false, [tB true])]) (Lc (by simp only [List.take_length, List.drop_zero]) (Lb (aV (ap (aa x0) x1) (ap (aa x0) x1) h4 h5) (by rw [h6]))) <| AV (ψ := fun k => E.C k 10 [.agg (LDag.t .far q0 x0)] = some [(true, GDag.t .own .own (aa x0))]) (aA x0 h2) <| AV (ψ := fun k => E.C k 12 [.agg (GDag.t .far .own (aa x0)), .agg (GDag.t .far .own (aa x0))] = some [(false, [tB true])]) (Lb (cw (aa x0) (aa x0) h7 h3) (by rw [h8])) <| AV (ψ := fun k => E.C k 18 [.agg (GDag.t .own .own (aa x0)), .one (tI (1 : Int))] = some [(true, GDag.t .own .own ((aq (aa x0) (1 : Int)).1)), (false, [tI ((aq (aa x0) (1 : Int)).2)])]) (db (aa x0) (1 : Int) h9) <| AC h10 <| AN))
    ·refine La (fun h11 => ?_)
     refine La (fun h12 => ?_)
     refine K8 (fun h13 => ?_) (fun h13 => ?_)
     ·exact K5 (K4 (fn := Tryz.f6) [.ret [(false, [tI (aC x0 (1048576 : Int))])], .b false, .ret [(true, GDag.t .own .own (aa x0))], .ret [(false, [.s .own () 1 ((ap (aa x0) x1).map etI)])], .ret [(true, GDag.t .own .own (aa x0))], .ret [(false, [.s .own () 1 ((ap (aa x0) x1).map etI)])], rT, .ret [(true, GDag.t .own .own (aa x0))], rT, .ret [(true, GDag.t .own .own ((aq (aa x0) (1 : Int)).1)), (false, [tI ((aq (aa x0) (1 : Int)).2)])], .b false, rT, .ret [(false, [.s .own () 1 (((ac (ap (aa x0) x1) (1 : Int)).1).map etI)]), (false, [tI ((ac (ap (aa x0) x1) (1 : Int)).2)])], .ret [(false, [tI (aD ((ac (ap (aa x0) x1) (1 : Int)).1) (1 : Int))])], .b true] _ rfl (fun _ => rfl) (fun k => by kernel_rfl) (AV (ψ := fun k => E.C k 8 [.agg (LDag.t .far q0 x0), .one (tI (1048576 : Int))] = some [(false, [tI (aC x0 (1048576 : Int))])]) (bz x0 (1048576 : Int) h0) <| AC h1 <| AV (ψ := fun k => E.C k 10 [.agg (LDag.t .far q0 x0)] = some [(true, GDag.t .own .own (aa x0))]) (aA x0 h2) <| AV (ψ := fun k => E.C k 21 [.agg (GDag.t .far .own (aa x0)), .one (tI x1)] = some [(false, [.s .own () 1 ((ap (aa x0) x1).map etI)])]) (lU (aa x0) x1 h3) <| AV (ψ := fun k => E.C k 10 [.agg (LDag.t .far q0 x0)] = some [(true, GDag.t .own .own (aa x0))]) (aA x0 h2) <| AV (ψ := fun k => E.C k 22 [.agg (GDag.t .far .own (aa x0)), .one (tI x1)] = some [(false, [.s .own () 1 ((ap (aa x0) x1).map etI)])]) (jK (aa x0) x1 h3) <| AV (ψ := fun k => E.C k 17 [.one (.s .far () 1 ((((ap (aa x0) x1).map etI).drop 0).take ((ap (aa x0) x1).map etI).length)), .one (.s .far () 1 ((((ap (aa x0) x1).map etI).drop 0).take ((ap (aa x0) x1).map etI).length))] = some [(false, [tB true])]) (Lc (by simp only [List.take_length, List.drop_zero]) (Lb (aV (ap (aa x0) x1) (ap (aa x0) x1) h4 h5) (by rw [h6]))) <| AV (ψ := fun k => E.C k 10 [.agg (LDag.t .far q0 x0)] = some [(true, GDag.t .own .own (aa x0))]) (aA x0 h2) <| AV (ψ := fun k => E.C k 12 [.agg (GDag.t .far .own (aa x0)), .agg (GDag.t .far .own (aa x0))] = some [(false, [tB true])]) (Lb (cw (aa x0) (aa x0) h7 h3) (by rw [h8])) <| AV (ψ := fun k => E.C k 18 [.agg (GDag.t .own .own (aa x0)), .one (tI (1 : Int))] = some [(true, GDag.t .own .own ((aq (aa x0) (1 : Int)).1)), (false, [tI ((aq (aa x0) (1 : Int)).2)])]) (db (aa x0) (1 : Int) h9) <| AC h10 <| AV (ψ := fun k => E.C k 17 [.one (.s .far () 1 ((((ap (aa x0) x1).map etI).drop 0).take ((ap (aa x0) x1).map etI).length)), .one (.s .far () 1 ((((ap (aa x0) x1).map etI).drop 0).take ((ap (aa x0) x1).map etI).length))] = some [(false, [tB true])]) (Lc (by simp only [List.take_length, List.drop_zero]) (Lb (aV (ap (aa x0) x1) (ap (aa x0) x1) h4 h5) (by rw [h6]))) <| AC (p := ((ap (aa x0) x1).map etI).length = ((ap (aa x0) x1).map etI).length) rfl <| AV (ψ := fun k => E.C k 19 [.one (.s .own () 1 ((ap (aa x0) x1).map etI)), .one (tI (1 : Int))] = some [(false, [.s .own () 1 (((ac (ap (aa x0) x1) (1 : Int)).1).map etI)]), (false, [tI ((ac (ap (aa x0) x1) (1 : Int)).2)])]) (eo (ap (aa x0) x1) (1 : Int) h11) <| AV (ψ := fun k => E.C k 20 [.one (.s .far () 1 (((((ac (ap (aa x0) x1) (1 : Int)).1).map etI).drop 0).take (((ac (ap (aa x0) x1) (1 : Int)).1).map etI).length)), .one (tI (1 : Int))] = some [(false, [tI (aD ((ac (ap (aa x0) x1) (1 : Int)).1) (1 : Int))])]) (Lc (by simp only [List.take_length, List.drop_zero]) (cC ((ac (ap (aa x0) x1) (1 : Int)).1) (1 : Int) h12)) <| AC h13 <| AN))
     ·refine K8 (fun h14 => ?_) (fun h14 => ?_)
      ·exact K5 (K4 (fn := Tryz.f6) [.ret [(false, [tI (aC x0 (1048576 : Int))])], .b false, .ret [(true, GDag.t .own .own (aa x0))], .ret [(false, [.s .own () 1 ((ap (aa x0) x1).map etI)])], .ret [(true, GDag.t .own .own (aa x0))], .ret [(false, [.s .own () 1 ((ap (aa x0) x1).map etI)])], rT, .ret [(true, GDag.t .own .own (aa x0))], rT, .ret [(true, GDag.t .own .own ((aq (aa x0) (1 : Int)).1)), (false, [tI ((aq (aa x0) (1 : Int)).2)])], .b false, rT, .ret [(false, [.s .own () 1 (((ac (ap (aa x0) x1) (1 : Int)).1).map etI)]), (false, [tI ((ac (ap (aa x0) x1) (1 : Int)).2)])], .ret [(false, [tI (aD ((ac (ap (aa x0) x1) (1 : Int)).1) (1 : Int))])], .b false, .b true] _ rfl (fun _ => rfl) (fun k => by kernel_rfl) (AV (ψ := fun k => E.C k 8 [.agg (LDag.t .far q0 x0), .one (tI (1048576 : Int))] = some [(false, [tI (aC x0 (1048576 : Int))])]) (bz x0 (1048576 : Int) h0) <| AC h1 <| AV (ψ := fun k => E.C k 10 [.agg (LDag.t .far q0 x0)] = some [(true, GDag.t .own .own (aa x0))]) (aA x0 h2) <| AV (ψ := fun k => E.C k 21 [.agg (GDag.t .far .own (aa x0)), .one (tI x1)] = some [(false, [.s .own () 1 ((ap (aa x0) x1).map etI)])]) (lU (aa x0) x1 h3) <| AV (ψ := fun k => E.C k 10 [.agg (LDag.t .far q0 x0)] = some [(true, GDag.t .own .own (aa x0))]) (aA x0 h2) <| AV (ψ := fun k => E.C k 22 [.agg (GDag.t .far .own (aa x0)), .one (tI x1)] = some [(false, [.s .own () 1 ((ap (aa x0) x1).map etI)])]) (jK (aa x0) x1 h3) <| AV (ψ := fun k => E.C k 17 [.one (.s .far () 1 ((((ap (aa x0) x1).map etI).drop 0).take ((ap (aa x0) x1).map etI).length)), .one (.s .far () 1 ((((ap (aa x0) x1).map etI).drop 0).take ((ap (aa x0) x1).map etI).length))] = some [(false, [tB true])]) (Lc (by simp only [List.take_length, List.drop_zero]) (Lb (aV (ap (aa x0) x1) (ap (aa x0) x1) h4 h5) (by rw [h6]))) <| AV (ψ := fun k => E.C k 10 [.agg (LDag.t .far q0 x0)] = some [(true, GDag.t .own .own (aa x0))]) (aA x0 h2) <| AV (ψ := fun k => E.C k 12 [.agg (GDag.t .far .own (aa x0)), .agg (GDag.t .far .own (aa x0))] = some [(false, [tB true])]) (Lb (cw (aa x0) (aa x0) h7 h3) (by rw [h8])) <| AV (ψ := fun k => E.C k 18 [.agg (GDag.t .own .own (aa x0)), .one (tI (1 : Int))] = some [(true, GDag.t .own .own ((aq (aa x0) (1 : Int)).1)), (false, [tI ((aq (aa x0) (1 : Int)).2)])]) (db (aa x0) (1 : Int) h9) <| AC h10 <| AV (ψ := fun k => E.C k 17 [.one (.s .far () 1 ((((ap (aa x0) x1).map etI).drop 0).take ((ap (aa x0) x1).map etI).length)), .one (.s .far () 1 ((((ap (aa x0) x1).map etI).drop 0).take ((ap (aa x0) x1).map etI).length))] = some [(false, [tB true])]) (Lc (by simp only [List.take_length, List.drop_zero]) (Lb (aV (ap (aa x0) x1) (ap (aa x0) x1) h4 h5) (by rw [h6]))) <| AC (p := ((ap (aa x0) x1).map etI).length = ((ap (aa x0) x1).map etI).length) rfl <| AV (ψ := fun k => E.C k 19 [.one (.s .own () 1 ((ap (aa x0) x1).map etI)), .one (tI (1 : Int))] = some [(false, [.s .own () 1 (((ac (ap (aa x0) x1) (1 : Int)).1).map etI)]), (false, [tI ((ac (ap (aa x0) x1) (1 : Int)).2)])]) (eo (ap (aa x0) x1) (1 : Int) h11) <| AV (ψ := fun k => E.C k 20 [.one (.s .far () 1 (((((ac (ap (aa x0) x1) (1 : Int)).1).map etI).drop 0).take (((ac (ap (aa x0) x1) (1 : Int)).1).map etI).length)), .one (tI (1 : Int))] = some [(false, [tI (aD ((ac (ap (aa x0) x1) (1 : Int)).1) (1 : Int))])]) (Lc (by simp only [List.take_length, List.drop_zero]) (cC ((ac (ap (aa x0) x1) (1 : Int)).1) (1 : Int) h12)) <| AC h13 <| AC h14 <| AN))
      ·exact K5 (K4 (fn := Tryz.f6) [.ret [(false, [tI (aC x0 (1048576 : Int))])], .b false, .ret [(true, GDag.t .own .own (aa x0))], .ret [(false, [.s .own () 1 ((ap (aa x0) x1).map etI)])], .ret [(true, GDag.t .own .own (aa x0))], .ret [(false, [.s .own () 1 ((ap (aa x0) x1).map etI)])], rT, .ret [(true, GDag.t .own .own (aa x0))], rT, .ret [(true, GDag.t .own .own ((aq (aa x0) (1 : Int)).1)), (false, [tI ((aq (aa x0) (1 : Int)).2)])], .b false, rT, .ret [(false, [.s .own () 1 (((ac (ap (aa x0) x1) (1 : Int)).1).map etI)]), (false, [tI ((ac (ap (aa x0) x1) (1 : Int)).2)])], .ret [(false, [tI (aD ((ac (ap (aa x0) x1) (1 : Int)).1) (1 : Int))])], .b false, .b false, .ret [(true, GDag.t .own .own (aa x0))], .ret [(false, [.s .own () 1 ((ap (aa x0) x1).map etI)])], rT, .ret [(false, [tI (aD ((ac (ap (aa x0) x1) (1 : Int)).1) (1 : Int))])], .b false, .b false] _ rfl (fun _ => rfl) (fun k => by kernel_rfl) (AV (ψ := fun k => E.C k 8 [.agg (LDag.t .far q0 x0), .one (tI (1048576 : Int))] = some [(false, [tI (aC x0 (1048576 : Int))])]) (bz x0 (1048576 : Int) h0) <| AC h1 <| AV (ψ := fun k => E.C k 10 [.agg (LDag.t .far q0 x0)] = some [(true, GDag.t .own .own (aa x0))]) (aA x0 h2) <| AV (ψ := fun k => E.C k 21 [.agg (GDag.t .far .own (aa x0)), .one (tI x1)] = some [(false, [.s .own () 1 ((ap (aa x0) x1).map etI)])]) (lU (aa x0) x1 h3) <| AV (ψ := fun k => E.C k 10 [.agg (LDag.t .far q0 x0)] = some [(true, GDag.t .own .own (aa x0))]) (aA x0 h2) <| AV (ψ := fun k => E.C k 22 [.agg (GDag.t .far .own (aa x0)), .one (tI x1)] = some [(false, [.s .own () 1 ((ap (aa x0) x1).map etI)])]) (jK (aa x0) x1 h3) <| AV (ψ := fun k => E.C k 17 [.one (.s .far () 1 ((((ap (aa x0) x1).map etI).drop 0).take ((ap (aa x0) x1).map etI).length)), .one (.s .far () 1 ((((ap (aa x0) x1).map etI).drop 0).take ((ap (aa x0) x1).map etI).length))] = some [(false, [tB true])]) (Lc (by simp only [List.take_length, List.drop_zero]) (Lb (aV (ap (aa x0) x1) (ap (aa x0) x1) h4 h5) (by rw [h6]))) <| AV (ψ := fun k => E.C k 10 [.agg (LDag.t .far q0 x0)] = some [(true, GDag.t .own .own (aa x0))]) (aA x0 h2) <| AV (ψ := fun k => E.C k 12 [.agg (GDag.t .far .own (aa x0)), .agg (GDag.t .far .own (aa x0))] = some [(false, [tB true])]) (Lb (cw (aa x0) (aa x0) h7 h3) (by rw [h8])) <| AV (ψ := fun k => E.C k 18 [.agg (GDag.t .own .own (aa x0)), .one (tI (1 : Int))] = some [(true, GDag.t .own .own ((aq (aa x0) (1 : Int)).1)), (false, [tI ((aq (aa x0) (1 : Int)).2)])]) (db (aa x0) (1 : Int) h9) <| AC h10 <| AV (ψ := fun k => E.C k 17 [.one (.s .far () 1 ((((ap (aa x0) x1).map etI).drop 0).take ((ap (aa x0) x1).map etI).length)), .one (.s .far () 1 ((((ap (aa x0) x1).map etI).drop 0).take ((ap (aa x0) x1).map etI).length))] = some [(false, [tB true])]) (Lc (by simp only [List.take_length, List.drop_zero]) (Lb (aV (ap (aa x0) x1) (ap (aa x0) x1) h4 h5) (by rw [h6]))) <| AC (p := ((ap (aa x0) x1).map etI).length = ((ap (aa x0) x1).map etI).length) rfl <| AV (ψ := fun k => E.C k 19 [.one (.s .own () 1 ((ap (aa x0) x1).map etI)), .one (tI (1 : Int))] = some [(false, [.s .own () 1 (((ac (ap (aa x0) x1) (1 : Int)).1).map etI)]), (false, [tI ((ac (ap (aa x0) x1) (1 : Int)).2)])]) (eo (ap (aa x0) x1) (1 : Int) h11) <| AV (ψ := fun k => E.C k 20 [.one (.s .far () 1 (((((ac (ap (aa x0) x1) (1 : Int)).1).map etI).drop 0).take (((ac (ap (aa x0) x1) (1 : Int)).1).map etI).length)), .one (tI (1 : Int))] = some [(false, [tI (aD ((ac (ap (aa x0) x1) (1 : Int)).1) (1 : Int))])]) (Lc (by simp only [List.take_length, List.drop_zero]) (cC ((ac (ap (aa x0) x1) (1 : Int)).1) (1 : Int) h12)) <| AC h13 <| AC h14 <| AV (ψ := fun k => E.C k 10 [.agg (LDag.t .far q0 x0)] = some [(true, GDag.t .own .own (aa x0))]) (aA x0 h2) <| AV (ψ := fun k => E.C k 22 [.agg (GDag.t .far .own (aa x0)), .one (tI x1)] = some [(false, [.s .own () 1 ((ap (aa x0) x1).map etI)])]) (jK (aa x0) x1 h3) <| AV (ψ := fun k => E.C k 17 [.one (.s .far () 1 ((((ap (aa x0) x1).map etI).drop 0).take ((ap (aa x0) x1).map etI).length)), .one (.s .far () 1 ((((ap (aa x0) x1).map etI).drop 0).take ((ap (aa x0) x1).map etI).length))] = some [(false, [tB true])]) (Lc (by simp only [List.take_length, List.drop_zero]) (Lb (aV (ap (aa x0) x1) (ap (aa x0) x1) h4 h5) (by rw [h6]))) <| AV (ψ := fun k => E.C k 20 [.one (.s .far () 1 (((((ac (ap (aa x0) x1) (1 : Int)).1).map etI).drop 0).take (((ac (ap (aa x0) x1) (1 : Int)).1).map etI).length)), .one (tI (1 : Int))] = some [(false, [tI (aD ((ac (ap (aa x0) x1) (1 : Int)).1) (1 : Int))])]) (Lc (by simp only [List.take_length, List.drop_zero]) (cC ((ac (ap (aa x0) x1) (1 : Int)).1) (1 : Int) h12)) <| AC h13 <| AC h14 <| AN))
   ·exact K5 (K4 (fn := Tryz.f6) [.ret [(false, [tI (aC x0 (1048576 : Int))])], .b false, .ret [(true, GDag.t .own .own (aa x0))], .ret [(false, [.s .own () 1 ((ap (aa x0) x1).map etI)])], .ret [(true, GDag.t .own .own (aa x0))], .ret [(false, [.s .own () 1 ((ap (aa x0) x1).map etI)])], rT, .ret [(true, GDag.t .own .own (aa x0))], rF] _ rfl (fun _ => rfl) (fun k => by kernel_rfl) (AV (ψ := fun k => E.C k 8 [.agg (LDag.t .far q0 x0), .one (tI (1048576 : Int))] = some [(false, [tI (aC x0 (1048576 : Int))])]) (bz x0 (1048576 : Int) h0) <| AC h1 <| AV (ψ := fun k => E.C k 10 [.agg (LDag.t .far q0 x0)] = some [(true, GDag.t .own .own (aa x0))]) (aA x0 h2) <| AV (ψ := fun k => E.C k 21 [.agg (GDag.t .far .own (aa x0)), .one (tI x1)] = some [(false, [.s .own () 1 ((ap (aa x0) x1).map etI)])]) (lU (aa x0) x1 h3) <| AV (ψ := fun k => E.C k 10 [.agg (LDag.t .far q0 x0)] = some [(true, GDag.t .own .own (aa x0))]) (aA x0 h2) <| AV (ψ := fun k => E.C k 22 [.agg (GDag.t .far .own (aa x0)), .one (tI x1)] = some [(false, [.s .own () 1 ((ap (aa x0) x1).map etI)])]) (jK (aa x0) x1 h3) <| AV (ψ := fun k => E.C k 17 [.one (.s .far () 1 ((((ap (aa x0) x1).map etI).drop 0).take ((ap (aa x0) x1).map etI).length)), .one (.s .far () 1 ((((ap (aa x0) x1).map etI).drop 0).take ((ap (aa x0) x1).map etI).length))] = some [(false, [tB true])]) (Lc (by simp only [List.take_length, List.drop_zero]) (Lb (aV (ap (aa x0) x1) (ap (aa x0) x1) h4 h5) (by rw [h6]))) <| AV (ψ := fun k => E.C k 10 [.agg (LDag.t .far q0 x0)] = some [(true, GDag.t .own .own (aa x0))]) (aA x0 h2) <| AV (ψ := fun k => E.C k 12 [.agg (GDag.t .far .own (aa x0)), .agg (GDag.t .far .own (aa x0))] = some [(false, [tB false])]) (Lb (cw (aa x0) (aa x0) h7 h3) (by rw [h8])) <| AN))
  ·exact K5 (K4 (fn := Tryz.f6) [.ret [(false, [tI (aC x0 (1048576 : Int))])], .b false, .ret [(true, GDag.t .own .own (aa x0))], .ret [(false, [.s .own () 1 ((ap (aa x0) x1).map etI)])], .ret [(true, GDag.t .own .own (aa x0))], .ret [(false, [.s .own () 1 ((ap (aa x0) x1).map etI)])], rF] _ rfl (fun _ => rfl) (fun k => by kernel_rfl) (AV (ψ := fun k => E.C k 8 [.agg (LDag.t .far q0 x0), .one (tI (1048576 : Int))] = some [(false, [tI (aC x0 (1048576 : Int))])]) (bz x0 (1048576 : Int) h0) <| AC h1 <| AV (ψ := fun k => E.C k 10 [.agg (LDag.t .far q0 x0)] = some [(true, GDag.t .own .own (aa x0))]) (aA x0 h2) <| AV (ψ := fun k => E.C k 21 [.agg (GDag.t .far .own (aa x0)), .one (tI x1)] = some [(false, [.s .own () 1 ((ap (aa x0) x1).map etI)])]) (lU (aa x0) x1 h3) <| AV (ψ := fun k => E.C k 10 [.agg (LDag.t .far q0 x0)] = some [(true, GDag.t .own .own (aa x0))]) (aA x0 h2) <| AV (ψ := fun k => E.C k 22 [.agg (GDag.t .far .own (aa x0)), .one (tI x1)] = some [(false, [.s .own () 1 ((ap (aa x0) x1).map etI)])]) (jK (aa x0) x1 h3) <| AV (ψ := fun k => E.C k 17 [.one (.s .far () 1 ((((ap (aa x0) x1).map etI).drop 0).take ((ap (aa x0) x1).map etI).length)), .one (.s .far () 1 ((((ap (aa x0) x1).map etI).drop 0).take ((ap (aa x0) x1).map etI).length))] = some [(false, [tB false])]) (Lc (by simp only [List.take_length, List.drop_zero]) (Lb (aV (ap (aa x0) x1) (ap (aa x0) x1) h4 h5) (by rw [h6]))) <| AN))
theorem Dj {q0 : Kd} (x0 : LDag) (x1 : Int) (h : Wf.wf x0) : Does E 6 [.agg (LDag.t .far q0 x0), .one (tI x1)] [(false, [tB true])] := by
 have hs := o7 x0 1048576 h (by omega) (by omega)
 exact wt x0 x1 _ (by
  unfold lJ
  refine xx h (AU fun q => ?_)
  have ht : ao.sm (aa x0) := pd (hs q).2
  have hr : ao.sm (ap (aa x0) x1) := IA _ _ ht
  obtain ⟨a1, a2, a3, a4, a5, a6, a7⟩ := pO (aa x0) 1 ht (by omega) (by omega)
  obtain ⟨b1, b2, b3, b4, b5, b6⟩ := oD (ap (aa x0) x1) 1 hr (by omega) (by omega)
  have ha : decide ((aq (aa x0) 1).2 < (0 : Int)) = false := decide_eq_false (by omega)
  have hb : decide ((ac (ap (aa x0) x1) 1).2 < (0 : Int)) = false := decide_eq_false (by omega)
  simp [(hs q).2, ht, hr, yes, a1, b1, b2, b3, ha, hb])
end Go.Proofs.YtjfbofdmjihglaaGreatDoor.Am
namespace Go.Proofs.YtjfbofdmjihglaaGreatDoor.fnExactUpsOf
open Go.ChangeShapes Go.WideShapes Go.ChangeAt Go.RowKit Go.Proofs.YtjfbofdmjihglaaGreatDoor.Am
open Go.ChangeMaps (open_string shut_string)
set_option linter.unusedVariables false
set_option linter.unusedSimpArgs false
theorem own : ownKnob Tryz.prog.godebug = none := by kernel_rfl
theorem laid : laidOutB Tryz.prog = true := by kernel_rfl
theorem dW {α : Type} {enc : α → List (T Unit)} {B : α → Prop} : ∀ (rows : List (List DT)), (∀ r ∈ rows, ∃ x, erL r = enc x ∧ B x) → ∃ l : List α, rows.map erL = l.map enc ∧ l.length = rows.length ∧ ∀ y ∈ l, B y
 | [], _ => ⟨[], rfl, rfl, fun y h => by cases h⟩
 | r :: rs, h => by
  obtain ⟨x, h1, h2⟩ := h r (by simp)
  obtain ⟨l, g1, g2, g3⟩ := dW rs fun q hq => h q (by simp [hq])
  refine ⟨x :: l, by simp only [List.map_cons, h1, g1], by simp [g2], fun y hy => ?_⟩
  rcases List.mem_cons.1 hy with rfl | hy
  ·exact h2
  ·exact g3 y hy
def dZ : Ty := (.struct (.cons .str (.cons .str (.cons (.int .i64) (.cons .bool (.cons (.slice .str) .nil))))))
theorem iV {ts : List DT} (h : Shape dZ ts) : ∃ x : GTask, erL ts = GTask.t .far x ∧ Wf.wf x := by
 simp only [dZ, Shape, ShapeF] at h
 obtain ⟨xs0, ys0, rfl, s0, xs1, ys1, rfl, s1, xs2, ys2, rfl, s2, xs3, ys3, rfl, s3, xs4, ys4, rfl, s4, rfl⟩ := h
 obtain ⟨v0, rfl, k0⟩ := s0
 obtain ⟨v1, rfl, k1⟩ := s1
 obtain ⟨v2, rfl, k2⟩ := s2
 obtain ⟨v3, rfl⟩ := s3
 obtain ⟨d4, r4, rfl, k4, a4⟩ := s4
 obtain ⟨v4, e4, b4, c4⟩ := dW (enc := etS) (B := Wf.wf) r4 (fun r hr => (by obtain ⟨s, rfl, hs⟩ := a4 r hr; exact ⟨s, rfl, hs⟩))
 refine ⟨⟨v0, v1, v2, v3, v4⟩, ?_, ⟨k0, k1, ⟨by rw [b4]; exact k4, c4⟩⟩⟩
 simp only [List.map_append, List.map_cons, List.map_nil, erL, aB, cA, e4]
 rfl
def dq : Ty := (.struct (.cons .str (.cons .str (.cons (.int .i64) (.cons (.int .i64) (.cons .bool (.cons (.slice (.struct (.cons .str (.cons .str (.cons (.int .i64) (.cons .bool (.cons (.slice .str) .nil))))))) .nil)))))))
theorem j9 {ts : List DT} (h : Shape dq ts) : ∃ x : LDag, erL ts = LDag.t .far .far x ∧ Wf.wf x := by
 simp only [dq, Shape, ShapeF] at h
 obtain ⟨xs0, ys0, rfl, s0, xs1, ys1, rfl, s1, xs2, ys2, rfl, s2, xs3, ys3, rfl, s3, xs4, ys4, rfl, s4, xs5, ys5, rfl, s5, rfl⟩ := h
 obtain ⟨v0, rfl, k0⟩ := s0
 obtain ⟨v1, rfl, k1⟩ := s1
 obtain ⟨v2, rfl, k2⟩ := s2
 obtain ⟨v3, rfl, k3⟩ := s3
 obtain ⟨v4, rfl⟩ := s4
 obtain ⟨d5, r5, rfl, k5, a5⟩ := s5
 obtain ⟨v5, e5, b5, c5⟩ := dW (enc := (GTask.t .far)) (B := Wf.wf) r5 (fun r hr => iV (by simp only [dZ, Shape, ShapeF]; exact a5 r hr))
 refine ⟨⟨v0, v1, v2, v3, v4, v5⟩, ?_, ⟨k0, k1, ⟨by rw [b5]; exact k5, c5⟩⟩⟩
 simp only [List.map_append, List.map_cons, List.map_nil, erL, aB, cA, e5]
 rfl
theorem iM {H : Type} {enc : TypeId × Value → H} {a : Assume} {C : Checked} {os : Os} {f : FuncId} {fn : Func} {s : ChangeSpec} {conds : List PathCond} {apart fresh handsOn again : Bool} {X : World → Array Value → Prop}
  (hX : ∀ (w w' : World) (args : Array Value), w.heap = w'.heap → X w args → X w' args)
  (own : ownKnob C.prog.godebug = none) (started : os.Started) (noInit : C.prog.inits.idxOf? f = none) (hfn : C.prog.funcs[f]? = some fn)
  (witness : ∃ (w : World) (tape : Tape) (i : Input), w.os = os ∧ (w.forCall tape i).Shaped C.prog ∧ i.vars = [] ∧ Input.okWide C.prog (w.forCall tape i) .any w.heap.size f i ∧
   ((s.pre enc C.prog fn conds apart (w.forCall tape i).memory i.args ∧ X (w.forCall tape i).memory i.args) ∧ sizedMet enc C.prog fn (OpenSpec.ofChange s) apart (w.forCall tape i).memory i.args) ∧ a.holds C.prog (lone (Frame.enter C.prog f i.args .normal) [] (w.forCall tape i)))
  (contract : ∀ (W : World) (base : Nat) (args : Array Value) (ds gs : List (DataW H)) (before : List MemPlace),
   (∀ (j : Nat) t v, fn.params[j]? = some t → args[j]? = some v → Value.okWide C.prog W .any base t v) →
   DataW.Whole enc C.prog fn.params.toList s.vars apart W args.toList ds gs before →
   X W args → W.ShapedOpen C.prog →
   Calls C.prog f args W fun e W' => ∃ v, e = .returned v ∧ s.post enc C.prog fn apart fresh handsOn again W args v W') :
  ReturnsInHanded a C os f .any (fun w args => (s.pre enc C.prog fn conds apart w args ∧ X w args) ∧ sizedMet enc C.prog fn (OpenSpec.ofChange s) apart w args) (s.post enc C.prog fn apart fresh handsOn again) := by
 refine returnsInHanded_of_calls own started noInit witness ?_
 intro w tape i _ hsh _ hok hpre _
 obtain ⟨_, _, _, fn', hfn', _, _, _, _, hval⟩ := hok
 have e : fn' = fn := Option.some.inj (hfn'.symm.trans hfn)
 subst e
 obtain ⟨⟨⟨ds, gs, before, hw, hc⟩, hx⟩, hz⟩ := hpre
 have hw' := DataW.Whole.of_heap (w' := w.forCall tape i) (by rfl) hw
 refine (contract (w.forCall tape i) w.heap.size i.args ds gs before hval hw' (hX _ _ _ (by rfl) hx) hsh).mono fun e W' ⟨v, he, hp⟩ => ?_
 subst he
 exact ChangeSpec.post_blind hp
theorem m6 {W : World} (hS : W.ShapedOpen Tryz.prog) (hL : laidMetH Tryz.prog Rows.fnExactUpsOfRow.laid W) : fH.ok W [] := by
 rw [MakeChecks.laidMetH_plain _ _ _ (by kernel_rfl)] at hL
 refine ⟨?_, fun b h => (by cases h), ?_, ?_⟩
 ·obtain ⟨x, hx⟩ := Option.isSome_iff_exists.1 (show (((begin Tryz.prog (fun _ _ => 0) default).world.heap[5]?).bind Obj.row?).isSome = true by kernel_rfl)
  obtain ⟨cs, hh, _⟩ := hS.1 5 x.1 x.2 (of_decide_eq_true (by kernel_rfl)) hx
  have hn : fH.n = 6 := by show Tryz.prog.globals.size = 6; kernel_rfl
  rw [hn]
  rcases Nat.lt_or_ge 5 W.heap.size with g | g
  ·exact g
  ·rw [Array.getElem?_eq_none g] at hh; cases hh
 ·exact cell_of_shapedOpen_int (t := 3) (zero := #[.int .i64 0]) hS (of_decide_eq_true (by kernel_rfl)) (by kernel_rfl) rfl (by kernel_rfl) (by kernel_rfl) Tryz.underlying3
 ·have e : Rows.laid_internal_strconv_uint64pow10 (H := Unit) = Lib.tabData .u64 Lib.pow10Tab := by kernel_rfl
  refine Lib.tabIs_of_head (rest := Rows.fnExactUpsOfRow.laid.drop 3) (g := 0) (t := 151) (e := 117) (n := 20) (by kernel_rfl) (by kernel_rfl) Tryz.underlying151 (by kernel_rfl) (by kernel_rfl) (by kernel_rfl) ?_
  rw [← e]
  exact hL.tail.tail
set_option maxRecDepth 100000 in
theorem pL (os : Os) (started : os.Started) (H : Type) (enc : TypeId × Value → H) :
  ReturnsInHanded {} Tryz.checked os 6 .any (fun w args => (Rows.fnExactUpsOfSpec.pre enc Tryz.prog Tryz.f6 Rows.fnExactUpsOfRow.domain false w args ∧ laidMetH Tryz.prog Rows.fnExactUpsOfRow.laid w) ∧ sizedMet enc Tryz.prog Tryz.f6 (OpenSpec.ofChange Rows.fnExactUpsOfSpec) false w args)
   (Rows.fnExactUpsOfSpec.post enc Tryz.prog Tryz.f6 false true false false) := by
 refine iM (C := Tryz.checked) (X := fun w _ => laidMetH Tryz.prog Rows.fnExactUpsOfRow.laid w) (fun _ _ _ hh h => h.of_heap hh) own started (by kernel_rfl) Tryz.func6
  (ChangeSpec.witness_shaped (enc := enc) (C := Tryz.checked) (os := os) (X := fun w _ => laidMetH Tryz.prog Rows.fnExactUpsOfRow.laid w) false (World.laidAll Tryz.prog os Rows.fnExactUpsOfRow.laid) #[.agg #[.string ByteArray.empty, .string ByteArray.empty, .int .i64 0, .int .i64 0, .bool false, .slice none 0 0], .int .i64 0] 8 (World.laidAll_os _ _ _)
   (World.shaped_of_ZipB (by kernel_rfl) (by kernel_rfl)) (by kernel_rfl) (by kernel_rfl) (by kernel_rfl)
   (by rw [MakeChecks.laidMetH_plain _ _ _ (by kernel_rfl)]; exact laidMet_laidAll _ (by kernel_rfl) (by kernel_rfl))) ?_
 intro W base args ds gs before hval0 hW hL hS
 have hB := m6 hS hL
 have hval : ∀ (j : Nat) t v, Tryz.f6.params[j]? = some t → args[j]? = some v → Value.okWide Tryz.prog W .any base t v := hval0
 have hW' := hW
 obtain ⟨p, q, hA0, hV, rfl, hfz, hnd⟩ := hW
 have hA : DataW.TrodAll enc Tryz.prog W 0 (fun _ => true) true Tryz.f6.params.toList args.toList ds p := hA0
 rw [Tryz.params6] at hA hval
 have hlt := hA.lt
 obtain ⟨v0, vs0, d0, ds0, p0, q0, hargs, rfl, rfl, h0, r0⟩ := trodAll_cons hA
 obtain ⟨v1, vs1, d1, ds1, p1, q1, hargs1, rfl, rfl, h1, r1⟩ := trodAll_cons r0
 obtain ⟨rfl, rfl, rfl⟩ := trodAll_nil r1
 obtain rfl : args = #[v0, v1] := by cases args; simp_all
 obtain ⟨rfl, rfl⟩ := trodVars_none hV
 have hok0 := hval 0 24 v0 rfl rfl
 unfold Value.okWide at hok0
 rw [Tryz.underlying24] at hok0
 obtain ⟨cs0, rfl, _, _⟩ := hok0
 have h0k := h0
 obtain ⟨n0, h0⟩ := h0
 obtain ⟨ts0, R0, S0, L0⟩ := Ty.open dq n0 24 _ _ (by kernel_rfl) h0
 obtain ⟨x0, e0, k0⟩ := j9 S0
 obtain ⟨x1, rfl, rfl, rfl, k1⟩ := open_int Tryz.underlying3 (hval 1 3 v1 rfl rfl) h1
 clear hA0 hval0
 refine (F6 (Dj x0 x1 k0) hB (ad := [.agg ts0, .one (.v (.int .i64 x1))]) (by simp only [List.map_cons, List.map_nil, Sl.er, cA, aB]; rw [e0]) (ArgsIn.cons (AOk.agg R0 (Shape.noLent dq _ S0)) (ArgsIn.cons (AOk.one (t := .v (.int .i64 x1)) (Reads.val rfl) rfl) (ArgsIn.nil W)))).mono fun e W' ⟨he, bel⟩ => ?_
 subst he
 exact ⟨_, rfl, _, _, _, [], _, [], hW', trodAll_mk1 (shut_bool Tryz.underlying4 _), (trodAll_cons_mk (Below.trod laid (by kernel_rfl) (of_decide_eq_true (by kernel_rfl)) h0k bel (fun x hx => hlt x (by simp [hx]))) (trodAll_cons_mk (shut_int Tryz.underlying3 k1) trodAll_mk0)), rfl, bel.frame _, fun h => by cases h⟩
theorem wA : Rows.fnExactUpsOfRow.holds Tryz.pinned (OpenSpec.ofChange Rows.fnExactUpsOfSpec) :=
 OpenClaim.holds_of_wide 6 Tryz.f6 rfl rfl rfl rfl rfl rfl rfl ⟨rfl, rfl, rfl, rfl, rfl⟩ rfl rfl rfl rfl rfl (by kernel_rfl) Tryz.func6 (by kernel_rfl)
  (of_decide_eq_true (by kernel_rfl)) (by unfold Func.isWrapper; first | (rw [if_pos (by decide +kernel)]; kernel_rfl) | (rw [if_neg (by decide +kernel)]; exact ⟨rfl, rfl⟩))
  (fun os started H enc _ => pL os started H enc)
theorem proved : Rows.FnExactUpsOfCardSaid :=
 Claim7.holds_tied_plain_at .later [] [.data, .data, .data, .data, .pinned] true (true, "5d2d9a259d95ac017517471e890a3483be5bccce4816c56c5b0c681b7087e1c6") false wA (fun _ h => by cases h) (by kernel_rfl) (fun _ h => by cases h) fnExactUpsOf_row_tie rfl ⟨rfl, rfl⟩ (by kernel_rfl) rfl
  (fun f fn hf hfn => by
   obtain rfl : f = 6 := Option.some.inj ((show Tryz.prog.funcNamed "loop.example/g00188/laws.FnExactUpsOf" = some 6 by kernel_rfl).symm.trans hf) |>.symm
   obtain rfl : fn = Tryz.f6 := (Option.some.inj (Tryz.func6.symm.trans hfn)).symm
   exact ⟨by kernel_rfl, fun j t ht => by
    rw [Tryz.params6] at ht
    have hm : t ∈ [24, 3] := by simpa using Array.mem_of_getElem? ht
    have hall : ([24, 3].all fun u => !Tryz.prog.wantsStandIn u) = true := by kernel_rfl
    exact (show Tryz.prog.wantsStandIn t = false by simpa using List.all_eq_true.1 hall t hm)⟩)
  (by kernel_rfl)
end Go.Proofs.YtjfbofdmjihglaaGreatDoor.fnExactUpsOf
namespace Go.Proofs.YtjfbofdmjihglaaGreatDoor
theorem fnExactUpsOf_holds : Rows.FnExactUpsOfCardSaid := fnExactUpsOf.proved
end Go.Proofs.YtjfbofdmjihglaaGreatDoor
