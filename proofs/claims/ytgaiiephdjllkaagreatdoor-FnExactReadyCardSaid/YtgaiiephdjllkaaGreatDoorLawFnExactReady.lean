/- 'laws.FnExactReady' returns true for every plan, run and numbers, and leaves them as they were. Conditions: none. -/
import Derived.Test.YtgaiiephdjllkaaGreatDoorUps
import Derived.Test.YtgaiiephdjllkaaGreatDoorShells
import Derived.Test.YtgaiiephdjllkaaGreatDoorRows
import Derived.Test.YtgaiiephdjllkaaGreatDoorCards
import Derived.Test.YtgaiiephdjllkaaGreatDoorTie
import Derived.WalkKit
import Derived.ProofKit
import Derived.OpenShut
import Derived.ShutString
import Derived.ChangeOld
import Derived.Below
import Derived.SizedLaws
import Derived.Lay
import Derived.LaidMore
import Derived.SevenTiedAt
import Derived.Stop.Joined
import Derived.Stop.LaidErr
import Derived.Lib.LaidTab
import Derived.Shelf.Vars
import Derived.HandedShaped
namespace Go.Proofs.YtgaiiephdjllkaaGreatDoor.Am
open Go Go.Proofs Classical
set_option maxRecDepth 100000
set_option linter.unusedVariables false
set_option linter.unusedSimpArgs false
noncomputable def mf (x0:GDag) (x1:GRun) (x2:Int) (x3:Bool) (x4:Int):Option (Bool) :=
  match x3 with
   | true=>cond (ag x2 (0:Int) (IntKind.wrap .i64 ((x1.f3.length:Int)-(1:Int))))
    (if ak.sm x0 then if aP x0=true then if x1.f3.length=x0.f5.length then if 0≤x2∧x2<(x0.f5.length:Int) then cond ((an x0 x1 x2).1)
     ((aq x1.f3 x2).bind fun g0=>cond (g0.f0==(0:Int))
      (cond (decide (g0.f3≤x4))
       (some (true))
       (some (false)))
      (some (false)))
     ((aq x1.f3 x2).bind fun g0=>cond (g0.f0==(0:Int))
      (cond (decide (g0.f3≤x4))
       (some (false))
       (some (false)))
      (some (false))) else none else none else none else none)
    (some (false))
   | false=>cond (ag x2 (0:Int) (IntKind.wrap .i64 ((x1.f3.length:Int)-(1:Int))))
    (if ak.sm x0 then if aP x0=true then if x1.f3.length=x0.f5.length then if 0≤x2∧x2<(x0.f5.length:Int) then cond ((an x0 x1 x2).1)
     ((aq x1.f3 x2).bind fun g0=>cond (g0.f0==(0:Int))
      (cond (decide (g0.f3≤x4))
       ((aq x0.f5 x2).bind fun g1=>some (!g1.f3))
       (some (false)))
      (some (false)))
     ((aq x1.f3 x2).bind fun g0=>cond (g0.f0==(0:Int))
      (cond (decide (g0.f3≤x4))
       (some (false))
       (some (false)))
      (some (false))) else none else none else none else none)
    (some (false))
theorem Cf {q0:Kd} (x0:GDag) (x1:GRun) (x2:Int) (x3:Bool) (x4:Int):Ans (mf x0 x1 x2 x3 x4) (fun r=>Does E 39 [.agg (GDag.t .far q0 x0),.agg (GRun.t .far x1),.one (tI x2),.one (tB x3),.one (tI x4)] [(false,[tB r])]):=by
 unfold mf
 cases x3 with
 | true =>
  apply KE<;>intro h0
  ·refine KG (fun h1 => ?_)
   refine KG (fun h2 => ?_)
   refine KG (fun h3 => ?_)
   refine KG (fun h4 => ?_)
   apply KE<;>intro f1
   ·refine KF (fun g0 f2 => ?_)
    apply KE<;>intro f3
    ·apply KE<;>intro f4
     ·exact KB (DP Tryz.f39 [.val (.int .i64 (x1.f3.length:Int)),rT,.ret [(false,[tB true]),(false,[tB ((an x0 x1 x2).2)])],.row (GState.t g0),.b true,.row (GState.t g0),.b true] (ALn x1.f3 GState.t<|AD (KJ (ah x2 (0:Int) (IntKind.wrap .i64 ((x1.f3.length:Int)-(1:Int)))) h0)<|AV (ψ:=fun k=>E.C k 60 [.agg (GDag.t .far q0 x0),.agg (GRun.t .far x1),.one (tI x2)]=some [(false,[tB true]),(false,[tB ((an x0 x1 x2).2)])]) (KH (aQ x0 x1 x2 h1 h2 h3 h4) (by rw [f1]))<|AR GState.t f2<|AC f3<|AR GState.t f2<|AC f4<|AN))
     ·exact KB (DP Tryz.f39 [.val (.int .i64 (x1.f3.length:Int)),rT,.ret [(false,[tB ((an x0 x1 x2).1)]),(false,[tB ((an x0 x1 x2).2)])],.row (GState.t g0),.b true,.row (GState.t g0),.b false] (ALn x1.f3 GState.t<|AD (KJ (ah x2 (0:Int) (IntKind.wrap .i64 ((x1.f3.length:Int)-(1:Int)))) h0)<|AV (ψ:=fun k=>E.C k 60 [.agg (GDag.t .far q0 x0),.agg (GRun.t .far x1),.one (tI x2)]=some [(false,[tB ((an x0 x1 x2).1)]),(false,[tB ((an x0 x1 x2).2)])]) (aQ x0 x1 x2 h1 h2 h3 h4)<|AR GState.t f2<|AC f3<|AR GState.t f2<|AC f4<|AN))
    ·exact KB (DP Tryz.f39 [.val (.int .i64 (x1.f3.length:Int)),rT,.ret [(false,[tB ((an x0 x1 x2).1)]),(false,[tB ((an x0 x1 x2).2)])],.row (GState.t g0),.b false] (ALn x1.f3 GState.t<|AD (KJ (ah x2 (0:Int) (IntKind.wrap .i64 ((x1.f3.length:Int)-(1:Int)))) h0)<|AV (ψ:=fun k=>E.C k 60 [.agg (GDag.t .far q0 x0),.agg (GRun.t .far x1),.one (tI x2)]=some [(false,[tB ((an x0 x1 x2).1)]),(false,[tB ((an x0 x1 x2).2)])]) (aQ x0 x1 x2 h1 h2 h3 h4)<|AR GState.t f2<|AC f3<|AN))
   ·refine KF (fun g0 f5 => ?_)
    apply KE<;>intro f6
    ·apply KE<;>intro f7
     ·exact KB (DP Tryz.f39 [.val (.int .i64 (x1.f3.length:Int)),rT,.ret [(false,[tB false]),(false,[tB ((an x0 x1 x2).2)])],.row (GState.t g0),.b true,.row (GState.t g0),.b true] (ALn x1.f3 GState.t<|AD (KJ (ah x2 (0:Int) (IntKind.wrap .i64 ((x1.f3.length:Int)-(1:Int)))) h0)<|AV (ψ:=fun k=>E.C k 60 [.agg (GDag.t .far q0 x0),.agg (GRun.t .far x1),.one (tI x2)]=some [(false,[tB false]),(false,[tB ((an x0 x1 x2).2)])]) (KH (aQ x0 x1 x2 h1 h2 h3 h4) (by rw [f1]))<|AR GState.t f5<|AC f6<|AR GState.t f5<|AC f7<|AN))
     ·exact KB (DP Tryz.f39 [.val (.int .i64 (x1.f3.length:Int)),rT,.ret [(false,[tB ((an x0 x1 x2).1)]),(false,[tB ((an x0 x1 x2).2)])],.row (GState.t g0),.b true,.row (GState.t g0),.b false] (ALn x1.f3 GState.t<|AD (KJ (ah x2 (0:Int) (IntKind.wrap .i64 ((x1.f3.length:Int)-(1:Int)))) h0)<|AV (ψ:=fun k=>E.C k 60 [.agg (GDag.t .far q0 x0),.agg (GRun.t .far x1),.one (tI x2)]=some [(false,[tB ((an x0 x1 x2).1)]),(false,[tB ((an x0 x1 x2).2)])]) (aQ x0 x1 x2 h1 h2 h3 h4)<|AR GState.t f5<|AC f6<|AR GState.t f5<|AC f7<|AN))
    ·exact KB (DP Tryz.f39 [.val (.int .i64 (x1.f3.length:Int)),rT,.ret [(false,[tB ((an x0 x1 x2).1)]),(false,[tB ((an x0 x1 x2).2)])],.row (GState.t g0),.b false] (ALn x1.f3 GState.t<|AD (KJ (ah x2 (0:Int) (IntKind.wrap .i64 ((x1.f3.length:Int)-(1:Int)))) h0)<|AV (ψ:=fun k=>E.C k 60 [.agg (GDag.t .far q0 x0),.agg (GRun.t .far x1),.one (tI x2)]=some [(false,[tB ((an x0 x1 x2).1)]),(false,[tB ((an x0 x1 x2).2)])]) (aQ x0 x1 x2 h1 h2 h3 h4)<|AR GState.t f5<|AC f6<|AN))
  ·exact KB (DP Tryz.f39 [.val (.int .i64 (x1.f3.length:Int)),rF] (ALn x1.f3 GState.t<|AD (KJ (ah x2 (0:Int) (IntKind.wrap .i64 ((x1.f3.length:Int)-(1:Int)))) h0)<|AN))
 | false =>
  apply KE<;>intro h0
  ·refine KG (fun h1 => ?_)
   refine KG (fun h2 => ?_)
   refine KG (fun h3 => ?_)
   refine KG (fun h4 => ?_)
   apply KE<;>intro f8
   ·refine KF (fun g0 f9 => ?_)
    apply KE<;>intro f10
    ·apply KE<;>intro f11
     ·refine KF (fun g1 h9 => ?_)
      exact KB (DP Tryz.f39 [.val (.int .i64 (x1.f3.length:Int)),rT,.ret [(false,[tB true]),(false,[tB ((an x0 x1 x2).2)])],.row (GState.t g0),.b true,.row (GState.t g0),.b true,.row ((GTask.t q0) g1)] (ALn x1.f3 GState.t<|AD (KJ (ah x2 (0:Int) (IntKind.wrap .i64 ((x1.f3.length:Int)-(1:Int)))) h0)<|AV (ψ:=fun k=>E.C k 60 [.agg (GDag.t .far q0 x0),.agg (GRun.t .far x1),.one (tI x2)]=some [(false,[tB true]),(false,[tB ((an x0 x1 x2).2)])]) (KH (aQ x0 x1 x2 h1 h2 h3 h4) (by rw [f8]))<|AR GState.t f9<|AC f10<|AR GState.t f9<|AC f11<|AR (GTask.t q0) h9<|AN))
     ·exact KB (DP Tryz.f39 [.val (.int .i64 (x1.f3.length:Int)),rT,.ret [(false,[tB ((an x0 x1 x2).1)]),(false,[tB ((an x0 x1 x2).2)])],.row (GState.t g0),.b true,.row (GState.t g0),.b false] (ALn x1.f3 GState.t<|AD (KJ (ah x2 (0:Int) (IntKind.wrap .i64 ((x1.f3.length:Int)-(1:Int)))) h0)<|AV (ψ:=fun k=>E.C k 60 [.agg (GDag.t .far q0 x0),.agg (GRun.t .far x1),.one (tI x2)]=some [(false,[tB ((an x0 x1 x2).1)]),(false,[tB ((an x0 x1 x2).2)])]) (aQ x0 x1 x2 h1 h2 h3 h4)<|AR GState.t f9<|AC f10<|AR GState.t f9<|AC f11<|AN))
    ·exact KB (DP Tryz.f39 [.val (.int .i64 (x1.f3.length:Int)),rT,.ret [(false,[tB ((an x0 x1 x2).1)]),(false,[tB ((an x0 x1 x2).2)])],.row (GState.t g0),.b false] (ALn x1.f3 GState.t<|AD (KJ (ah x2 (0:Int) (IntKind.wrap .i64 ((x1.f3.length:Int)-(1:Int)))) h0)<|AV (ψ:=fun k=>E.C k 60 [.agg (GDag.t .far q0 x0),.agg (GRun.t .far x1),.one (tI x2)]=some [(false,[tB ((an x0 x1 x2).1)]),(false,[tB ((an x0 x1 x2).2)])]) (aQ x0 x1 x2 h1 h2 h3 h4)<|AR GState.t f9<|AC f10<|AN))
   ·refine KF (fun g0 f12 => ?_)
    apply KE<;>intro f13
    ·apply KE<;>intro f14
     ·exact KB (DP Tryz.f39 [.val (.int .i64 (x1.f3.length:Int)),rT,.ret [(false,[tB false]),(false,[tB ((an x0 x1 x2).2)])],.row (GState.t g0),.b true,.row (GState.t g0),.b true] (ALn x1.f3 GState.t<|AD (KJ (ah x2 (0:Int) (IntKind.wrap .i64 ((x1.f3.length:Int)-(1:Int)))) h0)<|AV (ψ:=fun k=>E.C k 60 [.agg (GDag.t .far q0 x0),.agg (GRun.t .far x1),.one (tI x2)]=some [(false,[tB false]),(false,[tB ((an x0 x1 x2).2)])]) (KH (aQ x0 x1 x2 h1 h2 h3 h4) (by rw [f8]))<|AR GState.t f12<|AC f13<|AR GState.t f12<|AC f14<|AN))
     ·exact KB (DP Tryz.f39 [.val (.int .i64 (x1.f3.length:Int)),rT,.ret [(false,[tB ((an x0 x1 x2).1)]),(false,[tB ((an x0 x1 x2).2)])],.row (GState.t g0),.b true,.row (GState.t g0),.b false] (ALn x1.f3 GState.t<|AD (KJ (ah x2 (0:Int) (IntKind.wrap .i64 ((x1.f3.length:Int)-(1:Int)))) h0)<|AV (ψ:=fun k=>E.C k 60 [.agg (GDag.t .far q0 x0),.agg (GRun.t .far x1),.one (tI x2)]=some [(false,[tB ((an x0 x1 x2).1)]),(false,[tB ((an x0 x1 x2).2)])]) (aQ x0 x1 x2 h1 h2 h3 h4)<|AR GState.t f12<|AC f13<|AR GState.t f12<|AC f14<|AN))
    ·exact KB (DP Tryz.f39 [.val (.int .i64 (x1.f3.length:Int)),rT,.ret [(false,[tB ((an x0 x1 x2).1)]),(false,[tB ((an x0 x1 x2).2)])],.row (GState.t g0),.b false] (ALn x1.f3 GState.t<|AD (KJ (ah x2 (0:Int) (IntKind.wrap .i64 ((x1.f3.length:Int)-(1:Int)))) h0)<|AV (ψ:=fun k=>E.C k 60 [.agg (GDag.t .far q0 x0),.agg (GRun.t .far x1),.one (tI x2)]=some [(false,[tB ((an x0 x1 x2).1)]),(false,[tB ((an x0 x1 x2).2)])]) (aQ x0 x1 x2 h1 h2 h3 h4)<|AR GState.t f12<|AC f13<|AN))
  ·exact KB (DP Tryz.f39 [.val (.int .i64 (x1.f3.length:Int)),rF] (ALn x1.f3 GState.t<|AD (KJ (ah x2 (0:Int) (IntKind.wrap .i64 ((x1.f3.length:Int)-(1:Int)))) h0)<|AN))
noncomputable def pn (x0:GDag) (x1:GRun) (x2:Int) (x3:Bool) (x4:Int):Option (Bool) :=
  match x3 with
   | true=>(aq x1.f3 x2).bind fun g0=>if ak.sm x0 then if aP x0=true then if x1.f3.length=x0.f5.length then if 0≤x2∧x2<(x0.f5.length:Int) then cond (g0.f0==(0:Int))
    (cond (decide (g0.f3≤x4))
     (cond ((aF x0 x1 x2).1)
      (some (true))
      (some (false)))
     (some (false)))
    (some (false)) else none else none else none else none
   | false=>(aq x1.f3 x2).bind fun g0=>if ak.sm x0 then if aP x0=true then if x1.f3.length=x0.f5.length then if 0≤x2∧x2<(x0.f5.length:Int) then cond (g0.f0==(0:Int))
    (cond (decide (g0.f3≤x4))
     (cond ((aF x0 x1 x2).1)
      ((aq x0.f5 x2).bind fun g1=>some (!g1.f3))
      (some (false)))
     (some (false)))
    (some (false)) else none else none else none else none
theorem Gl {q0:Kd} (x0:GDag) (x1:GRun) (x2:Int) (x3:Bool) (x4:Int):Ans (pn x0 x1 x2 x3 x4) (fun r=>Does E 41 [.agg (GDag.t .far q0 x0),.agg (GRun.t .far x1),.one (tI x2),.one (tB x3),.one (tI x4)] [(false,[tB r])]):=by
 unfold pn
 cases x3 with
 | true =>
  refine KF (fun g0 h0 => ?_)
  refine KG (fun h1 => ?_)
  refine KG (fun h2 => ?_)
  refine KG (fun h3 => ?_)
  refine KG (fun h4 => ?_)
  apply KE<;>intro f1
  ·apply KE<;>intro f2
   ·apply KE<;>intro h5
    ·exact KB (DP Tryz.f41 [.row (GState.t g0),.ret [(false,[tB true]),(false,[tB ((aF x0 x1 x2).2)])],.b true,.b true] (AR GState.t h0<|AV (ψ:=fun k=>E.C k 63 [.agg (GDag.t .far q0 x0),.agg (GRun.t .far x1),.one (tI x2),.fni 64 []]=some [(false,[tB true]),(false,[tB ((aF x0 x1 x2).2)])]) (KH (bg x0 x1 x2 h1 h2 h3 h4) (by rw [h5]))<|AC f1<|AC f2<|AN))
    ·exact KB (DP Tryz.f41 [.row (GState.t g0),.ret [(false,[tB false]),(false,[tB ((aF x0 x1 x2).2)])],.b true,.b true] (AR GState.t h0<|AV (ψ:=fun k=>E.C k 63 [.agg (GDag.t .far q0 x0),.agg (GRun.t .far x1),.one (tI x2),.fni 64 []]=some [(false,[tB false]),(false,[tB ((aF x0 x1 x2).2)])]) (KH (bg x0 x1 x2 h1 h2 h3 h4) (by rw [h5]))<|AC f1<|AC f2<|AN))
   ·exact KB (DP Tryz.f41 [.row (GState.t g0),.ret [(false,[tB ((aF x0 x1 x2).1)]),(false,[tB ((aF x0 x1 x2).2)])],.b true,.b false] (AR GState.t h0<|AV (ψ:=fun k=>E.C k 63 [.agg (GDag.t .far q0 x0),.agg (GRun.t .far x1),.one (tI x2),.fni 64 []]=some [(false,[tB ((aF x0 x1 x2).1)]),(false,[tB ((aF x0 x1 x2).2)])]) (bg x0 x1 x2 h1 h2 h3 h4)<|AC f1<|AC f2<|AN))
  ·exact KB (DP Tryz.f41 [.row (GState.t g0),.ret [(false,[tB ((aF x0 x1 x2).1)]),(false,[tB ((aF x0 x1 x2).2)])],.b false] (AR GState.t h0<|AV (ψ:=fun k=>E.C k 63 [.agg (GDag.t .far q0 x0),.agg (GRun.t .far x1),.one (tI x2),.fni 64 []]=some [(false,[tB ((aF x0 x1 x2).1)]),(false,[tB ((aF x0 x1 x2).2)])]) (bg x0 x1 x2 h1 h2 h3 h4)<|AC f1<|AN))
 | false =>
  refine KF (fun g0 h0 => ?_)
  refine KG (fun h1 => ?_)
  refine KG (fun h2 => ?_)
  refine KG (fun h3 => ?_)
  refine KG (fun h4 => ?_)
  apply KE<;>intro f3
  ·apply KE<;>intro f4
   ·apply KE<;>intro h5
    ·refine KF (fun g1 h8 => ?_)
     exact KB (DP Tryz.f41 [.row (GState.t g0),.ret [(false,[tB true]),(false,[tB ((aF x0 x1 x2).2)])],.b true,.b true,.row ((GTask.t q0) g1)] (AR GState.t h0<|AV (ψ:=fun k=>E.C k 63 [.agg (GDag.t .far q0 x0),.agg (GRun.t .far x1),.one (tI x2),.fni 64 []]=some [(false,[tB true]),(false,[tB ((aF x0 x1 x2).2)])]) (KH (bg x0 x1 x2 h1 h2 h3 h4) (by rw [h5]))<|AC f3<|AC f4<|AR (GTask.t q0) h8<|AN))
    ·exact KB (DP Tryz.f41 [.row (GState.t g0),.ret [(false,[tB false]),(false,[tB ((aF x0 x1 x2).2)])],.b true,.b true] (AR GState.t h0<|AV (ψ:=fun k=>E.C k 63 [.agg (GDag.t .far q0 x0),.agg (GRun.t .far x1),.one (tI x2),.fni 64 []]=some [(false,[tB false]),(false,[tB ((aF x0 x1 x2).2)])]) (KH (bg x0 x1 x2 h1 h2 h3 h4) (by rw [h5]))<|AC f3<|AC f4<|AN))
   ·exact KB (DP Tryz.f41 [.row (GState.t g0),.ret [(false,[tB ((aF x0 x1 x2).1)]),(false,[tB ((aF x0 x1 x2).2)])],.b true,.b false] (AR GState.t h0<|AV (ψ:=fun k=>E.C k 63 [.agg (GDag.t .far q0 x0),.agg (GRun.t .far x1),.one (tI x2),.fni 64 []]=some [(false,[tB ((aF x0 x1 x2).1)]),(false,[tB ((aF x0 x1 x2).2)])]) (bg x0 x1 x2 h1 h2 h3 h4)<|AC f3<|AC f4<|AN))
  ·exact KB (DP Tryz.f41 [.row (GState.t g0),.ret [(false,[tB ((aF x0 x1 x2).1)]),(false,[tB ((aF x0 x1 x2).2)])],.b false] (AR GState.t h0<|AV (ψ:=fun k=>E.C k 63 [.agg (GDag.t .far q0 x0),.agg (GRun.t .far x1),.one (tI x2),.fni 64 []]=some [(false,[tB ((aF x0 x1 x2).1)]),(false,[tB ((aF x0 x1 x2).2)])]) (bg x0 x1 x2 h1 h2 h3 h4)<|AC f3<|AN))
noncomputable def li (d:GDag) (r:GRun) (i:Int) (past:Bool) (now:Int):Bool:=match aq r.f3 i,aq d.f5 i with
 | some x,some t=>(x.f0==0)&&(decide (x.f3≤now)&&((aF d r i).1&&(past || !t.f3)))
 | _,_=>false
noncomputable def lh (d:GDag) (r:GRun) (i:Int) (past:Bool) (now:Int):Bool:=m9 d i&&li d r i past now
theorem IG (d:GDag) (r:GRun) (i:Int) (past:Bool) (now:Int) (h:ak.sm d) (hd:aP d=true) (hl:r.f3.length=d.f5.length) (hi:0≤i∧i<(d.f5.length:Int)):pn d r i past now=some (li d r i past now):=by
 obtain ⟨t,ht,_⟩:=eY hi
 obtain ⟨x,hx,_⟩:=eY (l:=r.f3) (k:=i) (by omega)
 unfold pn li
 cases past<;>simp only [ht,hx,Option.bind_some,if_pos h,if_pos hd,if_pos hl,if_pos hi]<;>cases x.f0==0<;>cases decide (x.f3≤now)<;>cases (aF d r i).1<;>cases t.f3<;>rfl
theorem IH (d:GDag) (r:GRun) (i:Int) (past:Bool) (now:Int) (h:ak.sm d) (hd:aP d=true) (hl:r.f3.length=d.f5.length):mf d r i past now=some (lh d r i past now):=by
 have e:ag i 0 (IntKind.wrap .i64 ((r.f3.length:Int)-1))=m9 d i:=by rw [hl];rfl
 have eu:(an d r i).1=(aF d r i).1:=rfl
 unfold mf lh
 cases q:m9 d i with
 | false=>cases past<;>simp only [e,q]<;>rfl
 | true =>
  have hi:=yI q h
  obtain ⟨t,ht,_⟩:=eY hi
  obtain ⟨x,hx,_⟩:=eY (l:=r.f3) (k:=i) (by omega)
  unfold li
  cases past<;>simp only [e,q,eu,ht,hx,Option.bind_some,cond_true,if_pos h,if_pos hd,if_pos hl,if_pos hi]<;>cases x.f0==0<;>cases decide (x.f3≤now)<;>cases (aF d r i).1<;>cases t.f3<;>rfl
theorem Ap {q0:Kd} (x0:GDag) (x1:GRun) (x2:Int) (x3:Bool) (x4:Int) (h:ak.sm x0) (hd:aP x0=true) (hl:x1.f3.length=x0.f5.length):Does E 39 [.agg (GDag.t .far q0 x0),.agg (GRun.t .far x1),.one (tI x2),.one (tB x3),.one (tI x4)] [(false,[tB (lh x0 x1 x2 x3 x4)])]:=by
 exact Cf x0 x1 x2 x3 x4 _ (IH x0 x1 x2 x3 x4 h hd hl)
theorem FI {q0:Kd} (x0:GDag) (x1:GRun) (x2:Int) (x3:Bool) (x4:Int) (h:ak.sm x0) (hd:aP x0=true) (hl:x1.f3.length=x0.f5.length) (hi:0≤x2∧x2<(x0.f5.length:Int)):Does E 41 [.agg (GDag.t .far q0 x0),.agg (GRun.t .far x1),.one (tI x2),.one (tB x3),.one (tI x4)] [(false,[tB (li x0 x1 x2 x3 x4)])]:=by
 exact Gl x0 x1 x2 x3 x4 _ (IG x0 x1 x2 x3 x4 h hd hl hi)
noncomputable def px (x0:GDag) (x1:GRun) (x2:Int) (x3:Bool) (x4:Int):Option (Bool) :=
  if ak.sm x0 then cond (cT x0 x1)
   (if aP x0=true then if x1.f3.length=x0.f5.length then some (lh x0 x1 x2 x3 x4) else none else none)
   (some (false)) else none
theorem GR {q0:Kd} (x0:GDag) (x1:GRun) (x2:Int) (x3:Bool) (x4:Int):Ans (px x0 x1 x2 x3 x4) (fun r=>Does E 20 [.agg (GDag.t .far q0 x0),.agg (GRun.t .far x1),.one (tI x2),.one (tB x3),.one (tI x4)] [(false,[tB r])]):=by
 unfold px
 refine KG (fun h0 => ?_)
 apply KE<;>intro h1
 ·refine KG (fun h2 => ?_)
  refine KG (fun h3 => ?_)
  exact KB (DP Tryz.f20 [rT,.ret [(false,[tB (lh x0 x1 x2 x3 x4)])]] (AV (ψ:=fun k=>E.C k 17 [.agg (GDag.t .far q0 x0),.agg (GRun.t .far x1)]=some [(false,[tB true])]) (KH (kZ x0 x1 h0) (by rw [h1]))<|AV (ψ:=fun k=>E.C k 39 [.agg (GDag.t .far q0 x0),.agg (GRun.t .far x1),.one (tI x2),.one (tB x3),.one (tI x4)]=some [(false,[tB (lh x0 x1 x2 x3 x4)])]) (Ap x0 x1 x2 x3 x4 h0 h2 h3)<|AN))
 ·exact KB (DP Tryz.f20 [rF] (AV (ψ:=fun k=>E.C k 17 [.agg (GDag.t .far q0 x0),.agg (GRun.t .far x1)]=some [(false,[tB false])]) (KH (kZ x0 x1 h0) (by rw [h1]))<|AN))
noncomputable def pg (x0:GDag) (x1:GRun) (x2:Int) (x3:Bool) (x4:Int):Option (Bool) :=
  cond (m9 x0 x2)
   (if ak.sm x0 then cond (cT x0 x1)
    (if aP x0=true then if x1.f3.length=x0.f5.length then if 0≤x2∧x2<(x0.f5.length:Int) then some (li x0 x1 x2 x3 x4) else none else none else none)
    (some (false)) else none)
   (some (false))
theorem Gh {q0:Kd} (x0:GDag) (x1:GRun) (x2:Int) (x3:Bool) (x4:Int):Ans (pg x0 x1 x2 x3 x4) (fun r=>Does E 21 [.agg (GDag.t .far q0 x0),.agg (GRun.t .far x1),.one (tI x2),.one (tB x3),.one (tI x4)] [(false,[tB r])]):=by
 unfold pg
 apply KE<;>intro h0
 ·refine KG (fun h1 => ?_)
  apply KE<;>intro h2
  ·refine KG (fun h3 => ?_)
   refine KG (fun h4 => ?_)
   refine KG (fun h5 => ?_)
   exact KB (DP Tryz.f21 [rT,rT,.ret [(false,[tB (li x0 x1 x2 x3 x4)])]] (AV (ψ:=fun k=>E.C k 40 [.agg (GDag.t .far q0 x0),.one (tI x2)]=some [(false,[tB true])]) (KH (qK x0 x2) (by rw [h0]))<|AV (ψ:=fun k=>E.C k 19 [.agg (GDag.t .far q0 x0),.agg (GRun.t .far x1)]=some [(false,[tB true])]) (KH (kX x0 x1 h1) (by rw [h2]))<|AV (ψ:=fun k=>E.C k 41 [.agg (GDag.t .far q0 x0),.agg (GRun.t .far x1),.one (tI x2),.one (tB x3),.one (tI x4)]=some [(false,[tB (li x0 x1 x2 x3 x4)])]) (FI x0 x1 x2 x3 x4 h1 h3 h4 h5)<|AN))
  ·exact KB (DP Tryz.f21 [rT,rF] (AV (ψ:=fun k=>E.C k 40 [.agg (GDag.t .far q0 x0),.one (tI x2)]=some [(false,[tB true])]) (KH (qK x0 x2) (by rw [h0]))<|AV (ψ:=fun k=>E.C k 19 [.agg (GDag.t .far q0 x0),.agg (GRun.t .far x1)]=some [(false,[tB false])]) (KH (kX x0 x1 h1) (by rw [h2]))<|AN))
 ·exact KB (DP Tryz.f21 [rF] (AV (ψ:=fun k=>E.C k 40 [.agg (GDag.t .far q0 x0),.one (tI x2)]=some [(false,[tB false])]) (KH (qK x0 x2) (by rw [h0]))<|AN))
noncomputable def ready (d:GDag) (r:GRun) (i:Int) (past:Bool) (now:Int):Bool:=cT d r&&lh d r i past now
theorem wK (d:GDag) (r:GRun) (i:Int) (past:Bool) (now:Int) (h:ak.sm d):px d r i past now=some (ready d r i past now)∧pg d r i past now=some (ready d r i past now):=by
 unfold px pg ready lh
 cases q:cT d r with
 | false=>refine ⟨?_,?_⟩<;>simp only [if_pos h]<;>cases m9 d i<;>rfl
 | true =>
  have hd:aP d=true:=by unfold cT at q;rw [Bool.and_eq_true] at q;exact q.1
  have hl:r.f3.length=d.f5.length:=by unfold cT at q;rw [Bool.and_eq_true] at q;exact BW q.2
  cases q2:m9 d i with
  | false=>refine ⟨?_,?_⟩<;>simp only [if_pos h,if_pos hd,if_pos hl,q2]<;>rfl
  | true =>
   have hi:=yI q2 h
   refine ⟨?_,?_⟩<;>simp only [if_pos h,if_pos hd,if_pos hl,if_pos hi,q2,cond_true,Bool.true_and]<;>rfl
theorem o5 {q0:Kd} (x0:GDag) (x1:GRun) (x2:Int) (x3:Bool) (x4:Int) (h:ak.sm x0):Does E 20 [.agg (GDag.t .far q0 x0),.agg (GRun.t .far x1),.one (tI x2),.one (tB x3),.one (tI x4)] [(false,[tB (ready x0 x1 x2 x3 x4)])]:=by
 exact GR x0 x1 x2 x3 x4 _ (wK x0 x1 x2 x3 x4 h).1
theorem oX {q0:Kd} (x0:GDag) (x1:GRun) (x2:Int) (x3:Bool) (x4:Int) (h:ak.sm x0):Does E 21 [.agg (GDag.t .far q0 x0),.agg (GRun.t .far x1),.one (tI x2),.one (tB x3),.one (tI x4)] [(false,[tB (ready x0 x1 x2 x3 x4)])]:=by
 exact Gh x0 x1 x2 x3 x4 _ (wK x0 x1 x2 x3 x4 h).2
end Go.Proofs.YtgaiiephdjllkaaGreatDoor.Am
namespace Go.Proofs.YtgaiiephdjllkaaGreatDoor.Am
open Go Go.Proofs Classical
set_option maxRecDepth 100000
set_option linter.unusedVariables false
set_option linter.unusedSimpArgs false
noncomputable def kL (x0:LDag) (x1:LRun) (x2:Int) (x3:Bool) (x4:Int):Option (Bool) :=
  if Wf.wf x0 then cond (decide ((aB x0 (1048576:Int))<(0:Int)))
   (some (true))
   (if Wf.wf x1 then cond (decide ((cu x1 (aB x0 (1048576:Int)))<(0:Int)))
    (some (true))
    (if ak.sm x0 then if ak.sm x1 then if ak.sm (ae x0) then cond (!((ready (ae x0) (am x1) x2 x3 x4)==(ready (ae x0) (am x1) x2 x3 x4)))
     (some (false))
     (if (ae x0)=(ae x0) then cond (yes (ae x0) (ae x0))
      (if (am x1)=(am x1) then if ak.sm (am x1) then cond (yes (am x1) (am x1))
       (some (true))
       (some (false)) else none else none)
      (some (false)) else none) else none else none else none) else none) else none
theorem vv {q0:Kd} (x0:LDag) (x1:LRun) (x2:Int) (x3:Bool) (x4:Int):Ans (kL x0 x1 x2 x3 x4) (fun r=>Does E 5 [.agg (LDag.t .far q0 x0),.agg (LRun.t .far x1),.one (tI x2),.one (tB x3),.one (tI x4)] [(false,[tB r])]):=by
 unfold kL
 refine KG (fun h0 => ?_)
 apply KE<;>intro h1
 ·exact KB (DP Tryz.f5 [.ret [(false,[tI (aB x0 (1048576:Int))])],.b true] (AV (ψ:=fun k=>E.C k 6 [.agg (LDag.t .far q0 x0),.one (tI (1048576:Int))]=some [(false,[tI (aB x0 (1048576:Int))])]) (ek x0 (1048576:Int) h0)<|AC h1<|AN))
 ·refine KG (fun h2 => ?_)
  apply KE<;>intro h3
  ·exact KB (DP Tryz.f5 [.ret [(false,[tI (aB x0 (1048576:Int))])],.b false,.ret [(false,[tI (cu x1 (aB x0 (1048576:Int)))])],.b true] (AV (ψ:=fun k=>E.C k 6 [.agg (LDag.t .far q0 x0),.one (tI (1048576:Int))]=some [(false,[tI (aB x0 (1048576:Int))])]) (ek x0 (1048576:Int) h0)<|AC h1<|AD (fj x1 (aB x0 (1048576:Int)) h2)<|AC h3<|AN))
  ·refine KG (fun h4 => ?_)
   refine KG (fun h5 => ?_)
   refine KG (fun h6 => ?_)
   apply KE<;>intro h7
   ·exact KB (DP Tryz.f5 [.ret [(false,[tI (aB x0 (1048576:Int))])],.b false,.ret [(false,[tI (cu x1 (aB x0 (1048576:Int)))])],.b false,.ret [(true,GDag.t .own .own (ae x0))],.ret [(true,GRun.t .own (am x1))],.ret [(false,[tB (ready (ae x0) (am x1) x2 x3 x4)])],.ret [(true,GDag.t .own .own (ae x0))],.ret [(true,GRun.t .own (am x1))],.ret [(false,[tB (ready (ae x0) (am x1) x2 x3 x4)])],.b true] (AV (ψ:=fun k=>E.C k 6 [.agg (LDag.t .far q0 x0),.one (tI (1048576:Int))]=some [(false,[tI (aB x0 (1048576:Int))])]) (ek x0 (1048576:Int) h0)<|AC h1<|AD (fj x1 (aB x0 (1048576:Int)) h2)<|AC h3<|AV (ψ:=fun k=>E.C k 8 [.agg (LDag.t .far q0 x0)]=some [(true,GDag.t .own .own (ae x0))]) (bJ x0 h4)<|AD (bU x1 h5)<|AV (ψ:=fun k=>E.C k 20 [.agg (GDag.t .far .own (ae x0)),.agg (GRun.t .far (am x1)),.one (tI x2),.one (tB x3),.one (tI x4)]=some [(false,[tB (ready (ae x0) (am x1) x2 x3 x4)])]) (o5 (ae x0) (am x1) x2 x3 x4 h6)<|AV (ψ:=fun k=>E.C k 8 [.agg (LDag.t .far q0 x0)]=some [(true,GDag.t .own .own (ae x0))]) (bJ x0 h4)<|AD (bU x1 h5)<|AV (ψ:=fun k=>E.C k 21 [.agg (GDag.t .far .own (ae x0)),.agg (GRun.t .far (am x1)),.one (tI x2),.one (tB x3),.one (tI x4)]=some [(false,[tB (ready (ae x0) (am x1) x2 x3 x4)])]) (oX (ae x0) (am x1) x2 x3 x4 h6)<|AC h7<|AN))
   ·refine KG (fun h8 => ?_)
    apply KE<;>intro h9
    ·refine KG (fun h10 => ?_)
     refine KG (fun h11 => ?_)
     apply KE<;>intro h12
     ·exact KB (DP Tryz.f5 [.ret [(false,[tI (aB x0 (1048576:Int))])],.b false,.ret [(false,[tI (cu x1 (aB x0 (1048576:Int)))])],.b false,.ret [(true,GDag.t .own .own (ae x0))],.ret [(true,GRun.t .own (am x1))],.ret [(false,[tB (ready (ae x0) (am x1) x2 x3 x4)])],.ret [(true,GDag.t .own .own (ae x0))],.ret [(true,GRun.t .own (am x1))],.ret [(false,[tB (ready (ae x0) (am x1) x2 x3 x4)])],.b false,.ret [(true,GDag.t .own .own (ae x0))],rT,.ret [(true,GRun.t .own (am x1))],rT] (AV (ψ:=fun k=>E.C k 6 [.agg (LDag.t .far q0 x0),.one (tI (1048576:Int))]=some [(false,[tI (aB x0 (1048576:Int))])]) (ek x0 (1048576:Int) h0)<|AC h1<|AD (fj x1 (aB x0 (1048576:Int)) h2)<|AC h3<|AV (ψ:=fun k=>E.C k 8 [.agg (LDag.t .far q0 x0)]=some [(true,GDag.t .own .own (ae x0))]) (bJ x0 h4)<|AD (bU x1 h5)<|AV (ψ:=fun k=>E.C k 20 [.agg (GDag.t .far .own (ae x0)),.agg (GRun.t .far (am x1)),.one (tI x2),.one (tB x3),.one (tI x4)]=some [(false,[tB (ready (ae x0) (am x1) x2 x3 x4)])]) (o5 (ae x0) (am x1) x2 x3 x4 h6)<|AV (ψ:=fun k=>E.C k 8 [.agg (LDag.t .far q0 x0)]=some [(true,GDag.t .own .own (ae x0))]) (bJ x0 h4)<|AD (bU x1 h5)<|AV (ψ:=fun k=>E.C k 21 [.agg (GDag.t .far .own (ae x0)),.agg (GRun.t .far (am x1)),.one (tI x2),.one (tB x3),.one (tI x4)]=some [(false,[tB (ready (ae x0) (am x1) x2 x3 x4)])]) (oX (ae x0) (am x1) x2 x3 x4 h6)<|AC h7<|AV (ψ:=fun k=>E.C k 8 [.agg (LDag.t .far q0 x0)]=some [(true,GDag.t .own .own (ae x0))]) (bJ x0 h4)<|AV (ψ:=fun k=>E.C k 12 [.agg (GDag.t .far .own (ae x0)),.agg (GDag.t .far .own (ae x0))]=some [(false,[tB true])]) (KH (kY (ae x0) (ae x0) h8 h6) (by rw [h9]))<|AD (bU x1 h5)<|AD (KJ (oZ (am x1) (am x1) h10 h11) h12)<|AN))
     ·exact KB (DP Tryz.f5 [.ret [(false,[tI (aB x0 (1048576:Int))])],.b false,.ret [(false,[tI (cu x1 (aB x0 (1048576:Int)))])],.b false,.ret [(true,GDag.t .own .own (ae x0))],.ret [(true,GRun.t .own (am x1))],.ret [(false,[tB (ready (ae x0) (am x1) x2 x3 x4)])],.ret [(true,GDag.t .own .own (ae x0))],.ret [(true,GRun.t .own (am x1))],.ret [(false,[tB (ready (ae x0) (am x1) x2 x3 x4)])],.b false,.ret [(true,GDag.t .own .own (ae x0))],rT,.ret [(true,GRun.t .own (am x1))],rF] (AV (ψ:=fun k=>E.C k 6 [.agg (LDag.t .far q0 x0),.one (tI (1048576:Int))]=some [(false,[tI (aB x0 (1048576:Int))])]) (ek x0 (1048576:Int) h0)<|AC h1<|AD (fj x1 (aB x0 (1048576:Int)) h2)<|AC h3<|AV (ψ:=fun k=>E.C k 8 [.agg (LDag.t .far q0 x0)]=some [(true,GDag.t .own .own (ae x0))]) (bJ x0 h4)<|AD (bU x1 h5)<|AV (ψ:=fun k=>E.C k 20 [.agg (GDag.t .far .own (ae x0)),.agg (GRun.t .far (am x1)),.one (tI x2),.one (tB x3),.one (tI x4)]=some [(false,[tB (ready (ae x0) (am x1) x2 x3 x4)])]) (o5 (ae x0) (am x1) x2 x3 x4 h6)<|AV (ψ:=fun k=>E.C k 8 [.agg (LDag.t .far q0 x0)]=some [(true,GDag.t .own .own (ae x0))]) (bJ x0 h4)<|AD (bU x1 h5)<|AV (ψ:=fun k=>E.C k 21 [.agg (GDag.t .far .own (ae x0)),.agg (GRun.t .far (am x1)),.one (tI x2),.one (tB x3),.one (tI x4)]=some [(false,[tB (ready (ae x0) (am x1) x2 x3 x4)])]) (oX (ae x0) (am x1) x2 x3 x4 h6)<|AC h7<|AV (ψ:=fun k=>E.C k 8 [.agg (LDag.t .far q0 x0)]=some [(true,GDag.t .own .own (ae x0))]) (bJ x0 h4)<|AV (ψ:=fun k=>E.C k 12 [.agg (GDag.t .far .own (ae x0)),.agg (GDag.t .far .own (ae x0))]=some [(false,[tB true])]) (KH (kY (ae x0) (ae x0) h8 h6) (by rw [h9]))<|AD (bU x1 h5)<|AD (KJ (oZ (am x1) (am x1) h10 h11) h12)<|AN))
    ·exact KB (DP Tryz.f5 [.ret [(false,[tI (aB x0 (1048576:Int))])],.b false,.ret [(false,[tI (cu x1 (aB x0 (1048576:Int)))])],.b false,.ret [(true,GDag.t .own .own (ae x0))],.ret [(true,GRun.t .own (am x1))],.ret [(false,[tB (ready (ae x0) (am x1) x2 x3 x4)])],.ret [(true,GDag.t .own .own (ae x0))],.ret [(true,GRun.t .own (am x1))],.ret [(false,[tB (ready (ae x0) (am x1) x2 x3 x4)])],.b false,.ret [(true,GDag.t .own .own (ae x0))],rF] (AV (ψ:=fun k=>E.C k 6 [.agg (LDag.t .far q0 x0),.one (tI (1048576:Int))]=some [(false,[tI (aB x0 (1048576:Int))])]) (ek x0 (1048576:Int) h0)<|AC h1<|AD (fj x1 (aB x0 (1048576:Int)) h2)<|AC h3<|AV (ψ:=fun k=>E.C k 8 [.agg (LDag.t .far q0 x0)]=some [(true,GDag.t .own .own (ae x0))]) (bJ x0 h4)<|AD (bU x1 h5)<|AV (ψ:=fun k=>E.C k 20 [.agg (GDag.t .far .own (ae x0)),.agg (GRun.t .far (am x1)),.one (tI x2),.one (tB x3),.one (tI x4)]=some [(false,[tB (ready (ae x0) (am x1) x2 x3 x4)])]) (o5 (ae x0) (am x1) x2 x3 x4 h6)<|AV (ψ:=fun k=>E.C k 8 [.agg (LDag.t .far q0 x0)]=some [(true,GDag.t .own .own (ae x0))]) (bJ x0 h4)<|AD (bU x1 h5)<|AV (ψ:=fun k=>E.C k 21 [.agg (GDag.t .far .own (ae x0)),.agg (GRun.t .far (am x1)),.one (tI x2),.one (tB x3),.one (tI x4)]=some [(false,[tB (ready (ae x0) (am x1) x2 x3 x4)])]) (oX (ae x0) (am x1) x2 x3 x4 h6)<|AC h7<|AV (ψ:=fun k=>E.C k 8 [.agg (LDag.t .far q0 x0)]=some [(true,GDag.t .own .own (ae x0))]) (bJ x0 h4)<|AV (ψ:=fun k=>E.C k 12 [.agg (GDag.t .far .own (ae x0)),.agg (GDag.t .far .own (ae x0))]=some [(false,[tB false])]) (KH (kY (ae x0) (ae x0) h8 h6) (by rw [h9]))<|AN))
theorem CC {q0:Kd} (x0:LDag) (x1:LRun) (x2:Int) (x3:Bool) (x4:Int) (h:Wf.wf x0) (g:Wf.wf x1):Does E 5 [.agg (LDag.t .far q0 x0),.agg (LRun.t .far x1),.one (tI x2),.one (tB x3),.one (tI x4)] [(false,[tB true])]:=by
 have hs:=wA x0 1048576 h (by omega) (by omega)
 exact vv x0 x1 x2 x3 x4 _ (by
  unfold kL
  refine wz h (Ac fun q => ?_)
  have hz:=hs q
  have hr:=wB x1 (aB x0 1048576) g q hz.1
  refine wz g (Ac fun q2 => ?_)
  have ht:=wT hz.2
  have ht2:=wU (hr q2).2
  simp [hz.2,(hr q2).2,ht,ht2,yes])
end Go.Proofs.YtgaiiephdjllkaaGreatDoor.Am
namespace Go.Proofs.YtgaiiephdjllkaaGreatDoor.fnExactReady
open Go.ChangeShapes Go.WideShapes Go.ChangeAt Go.RowKit Go.Proofs.YtgaiiephdjllkaaGreatDoor.Am
open Go.ChangeMaps (open_string shut_string)
set_option linter.unusedVariables false
set_option linter.unusedSimpArgs false
theorem own:ownKnob Tryz.prog.godebug=none:=by kernel_rfl
theorem laid:laidOutB Tryz.prog=true:=by kernel_rfl
theorem il {α:Type} {enc:α→List (T Unit)} {B:α→Prop}:∀ (rows:List (List DT)),(∀ r∈rows,∃ x,erL r=enc x∧B x)→∃ l:List α,rows.map erL=l.map enc∧l.length=rows.length∧∀ y∈l,B y
 | [],_=>⟨[],rfl,rfl,fun y h=>by cases h⟩
 | r::rs,h=>by
  obtain ⟨x,h1,h2⟩:=h r (by simp)
  obtain ⟨l,g1,g2,g3⟩:=il rs fun q hq=>h q (by simp [hq])
  refine ⟨x::l,by simp only [List.map_cons,h1,g1],by simp [g2],fun y hy => ?_⟩
  rcases List.mem_cons.1 hy with rfl | hy
  ·exact h2
  ·exact g3 y hy
def kV:Ty:=(.struct (.cons .str (.cons .str (.cons (.int .i64) (.cons .bool (.cons (.slice .str) .nil))))))
theorem ru {ts:List DT} (h:Shape kV ts):∃ x:GTask,erL ts=GTask.t .far x∧Wf.wf x:=by
 simp only [kV,Shape,ShapeF] at h
 obtain ⟨xs0,ys0,rfl,s0,xs1,ys1,rfl,s1,xs2,ys2,rfl,s2,xs3,ys3,rfl,s3,xs4,ys4,rfl,s4,rfl⟩:=h
 obtain ⟨v0,rfl,k0⟩:=s0
 obtain ⟨v1,rfl,k1⟩:=s1
 obtain ⟨v2,rfl,k2⟩:=s2
 obtain ⟨v3,rfl⟩:=s3
 obtain ⟨d4,r4,rfl,k4,a4⟩:=s4
 obtain ⟨v4,e4,b4,c4⟩:=il (enc:=etS) (B:=Wf.wf) r4 (fun r hr=>(by obtain ⟨s,rfl,hs⟩:=a4 r hr;exact ⟨s,rfl,hs⟩))
 refine ⟨⟨v0,v1,v2,v3,v4⟩,?_,⟨k0,k1,⟨by rw [b4];exact k4,c4⟩⟩⟩
 simp only [List.map_append,List.map_cons,List.map_nil,erL,ay,cw,e4]
 rfl
def jV:Ty:=(.struct (.cons .str (.cons .str (.cons (.int .i64) (.cons (.int .i64) (.cons .bool (.cons (.slice (.struct (.cons .str (.cons .str (.cons (.int .i64) (.cons .bool (.cons (.slice .str) .nil))))))) .nil)))))))
theorem tN {ts:List DT} (h:Shape jV ts):∃ x:LDag,erL ts=LDag.t .far .far x∧Wf.wf x:=by
 simp only [jV,Shape,ShapeF] at h
 obtain ⟨xs0,ys0,rfl,s0,xs1,ys1,rfl,s1,xs2,ys2,rfl,s2,xs3,ys3,rfl,s3,xs4,ys4,rfl,s4,xs5,ys5,rfl,s5,rfl⟩:=h
 obtain ⟨v0,rfl,k0⟩:=s0
 obtain ⟨v1,rfl,k1⟩:=s1
 obtain ⟨v2,rfl,k2⟩:=s2
 obtain ⟨v3,rfl,k3⟩:=s3
 obtain ⟨v4,rfl⟩:=s4
 obtain ⟨d5,r5,rfl,k5,a5⟩:=s5
 obtain ⟨v5,e5,b5,c5⟩:=il (enc:=(GTask.t .far)) (B:=Wf.wf) r5 (fun r hr=>ru (by simp only [kV,Shape,ShapeF];exact a5 r hr))
 refine ⟨⟨v0,v1,v2,v3,v4,v5⟩,?_,⟨k0,k1,⟨by rw [b5];exact k5,c5⟩⟩⟩
 simp only [List.map_append,List.map_cons,List.map_nil,erL,ay,cw,e5]
 rfl
def kU:Ty:=(.struct (.cons (.int .i64) (.cons (.int .i64) .nil)))
theorem rt {ts:List DT} (h:Shape kU ts):∃ x:GSpan,erL ts=GSpan.t x∧Wf.wf x:=by
 simp only [kU,Shape,ShapeF] at h
 obtain ⟨xs0,ys0,rfl,s0,xs1,ys1,rfl,s1,rfl⟩:=h
 obtain ⟨v0,rfl,k0⟩:=s0
 obtain ⟨v1,rfl,k1⟩:=s1
 refine ⟨⟨v0,v1⟩,?_,trivial⟩
 simp only [List.map_append,List.map_cons,List.map_nil,erL,ay,cw]
 rfl
def jw:Ty:=(.struct (.cons (.int .i64) (.cons (.int .i64) (.cons (.int .i64) (.cons (.int .i64) .nil)))))
theorem pR {ts:List DT} (h:Shape jw ts):∃ x:GState,erL ts=GState.t x∧Wf.wf x:=by
 simp only [jw,Shape,ShapeF] at h
 obtain ⟨xs0,ys0,rfl,s0,xs1,ys1,rfl,s1,xs2,ys2,rfl,s2,xs3,ys3,rfl,s3,rfl⟩:=h
 obtain ⟨v0,rfl,k0⟩:=s0
 obtain ⟨v1,rfl,k1⟩:=s1
 obtain ⟨v2,rfl,k2⟩:=s2
 obtain ⟨v3,rfl,k3⟩:=s3
 refine ⟨⟨v0,v1,v2,v3⟩,?_,trivial⟩
 simp only [List.map_append,List.map_cons,List.map_nil,erL,ay,cw]
 rfl
def jW:Ty:=(.struct (.cons .str (.cons (.struct (.cons (.int .i64) (.cons (.int .i64) .nil))) (.cons (.int .i64) (.cons (.slice (.struct (.cons (.int .i64) (.cons (.int .i64) (.cons (.int .i64) (.cons (.int .i64) .nil)))))) .nil)))))
theorem tO {ts:List DT} (h:Shape jW ts):∃ x:LRun,erL ts=LRun.t .far x∧Wf.wf x:=by
 simp only [jW,Shape,ShapeF] at h
 obtain ⟨xs0,ys0,rfl,s0,xs1,ys1,rfl,s1,xs2,ys2,rfl,s2,xs3,ys3,rfl,s3,rfl⟩:=h
 obtain ⟨v0,rfl,k0⟩:=s0
 obtain ⟨v1,e1,k1⟩:=rt (ts:=xs1) (by simp only [kU,Shape,ShapeF];exact s1)
 obtain ⟨v2,rfl,k2⟩:=s2
 obtain ⟨d3,r3,rfl,k3,a3⟩:=s3
 obtain ⟨v3,e3,b3,c3⟩:=il (enc:=GState.t) (B:=Wf.wf) r3 (fun r hr=>pR (by simp only [jw,Shape,ShapeF];exact a3 r hr))
 refine ⟨⟨v0,v1,v2,v3⟩,?_,⟨k0,k1,⟨by rw [b3];exact k3,c3⟩⟩⟩
 simp only [List.map_append,List.map_cons,List.map_nil,erL,ay,cw,e1,e3]
 rfl
theorem qO {H:Type} {enc:TypeId×Value→H} {a:Assume} {C:Checked} {os:Os} {f:FuncId} {fn:Func} {s:ChangeSpec} {conds:List PathCond} {apart fresh handsOn again:Bool} {X:World→Array Value→Prop}
  (hX:∀ (w w':World) (args:Array Value),w.heap=w'.heap→X w args→X w' args)
  (own:ownKnob C.prog.godebug=none) (started:os.Started) (noInit:C.prog.inits.idxOf? f=none) (hfn:C.prog.funcs[f]?=some fn)
  (witness:∃ (w:World) (tape:Tape) (i:Input),w.os=os∧(w.forCall tape i).Shaped C.prog∧i.vars=[]∧Input.okWide C.prog (w.forCall tape i) .any w.heap.size f i ∧
   ((s.pre enc C.prog fn conds apart (w.forCall tape i).memory i.args∧X (w.forCall tape i).memory i.args)∧sizedMet enc C.prog fn (OpenSpec.ofChange s) apart (w.forCall tape i).memory i.args)∧a.holds C.prog (lone (Frame.enter C.prog f i.args .normal) [] (w.forCall tape i)))
  (contract:∀ (W:World) (base:Nat) (args:Array Value) (ds gs:List (DataW H)) (before:List MemPlace),
   (∀ (j:Nat) t v,fn.params[j]?=some t→args[j]?=some v→Value.okWide C.prog W .any base t v) →
   DataW.Whole enc C.prog fn.params.toList s.vars apart W args.toList ds gs before →
   X W args→W.ShapedOpen C.prog →
   Calls C.prog f args W fun e W'=>∃ v,e = .returned v∧s.post enc C.prog fn apart fresh handsOn again W args v W') :
  ReturnsInHanded a C os f .any (fun w args=>(s.pre enc C.prog fn conds apart w args∧X w args)∧sizedMet enc C.prog fn (OpenSpec.ofChange s) apart w args) (s.post enc C.prog fn apart fresh handsOn again):=by
 refine returnsInHanded_of_calls own started noInit witness ?_
 intro w tape i _ hsh _ hok hpre _
 obtain ⟨_,_,_,fn',hfn',_,_,_,_,hval⟩:=hok
 have e:fn'=fn:=Option.some.inj (hfn'.symm.trans hfn)
 subst e
 obtain ⟨⟨⟨ds,gs,before,hw,hc⟩,hx⟩,hz⟩:=hpre
 have hw':=DataW.Whole.of_heap (w':=w.forCall tape i) (by rfl) hw
 refine (contract (w.forCall tape i) w.heap.size i.args ds gs before hval hw' (hX _ _ _ (by rfl) hx) hsh).mono fun e W' ⟨v,he,hp⟩ => ?_
 subst he
 exact ChangeSpec.post_blind hp
theorem xi {W:World} (hS:W.ShapedOpen Tryz.prog) (hL:laidMetH Tryz.prog Rows.fnExactReadyRow.laid W):ia.ok W []:=by
 rw [MakeChecks.laidMetH_plain _ _ _ (by kernel_rfl)] at hL
 refine ⟨?_,fun b h=>(by cases h),?_,?_⟩
 ·obtain ⟨x,hx⟩:=Option.isSome_iff_exists.1 (show (((begin Tryz.prog (fun _ _=>0) default).world.heap[5]?).bind Obj.row?).isSome=true by kernel_rfl)
  obtain ⟨cs,hh,_⟩:=hS.1 5 x.1 x.2 (of_decide_eq_true (by kernel_rfl)) hx
  have hn:ia.n=6:=by show Tryz.prog.globals.size=6;kernel_rfl
  rw [hn]
  rcases Nat.lt_or_ge 5 W.heap.size with g | g
  ·exact g
  ·rw [Array.getElem?_eq_none g] at hh;cases hh
 ·exact cell_of_shapedOpen_int (t:=3) (zero := #[.int .i64 0]) hS (of_decide_eq_true (by kernel_rfl)) (by kernel_rfl) rfl (by kernel_rfl) (by kernel_rfl) Tryz.underlying3
 ·have e:Rows.laid_internal_strconv_uint64pow10 (H:=Unit)=Lib.tabData .u64 Lib.pow10Tab:=by kernel_rfl
  refine Lib.tabIs_of_head (rest:=Rows.fnExactReadyRow.laid.drop 3) (g:=1) (t:=188) (e:=162) (n:=20) (by kernel_rfl) (by kernel_rfl) Tryz.underlying188 (by kernel_rfl) (by kernel_rfl) (by kernel_rfl) ?_
  rw [← e]
  exact hL.tail.tail
set_option maxRecDepth 100000 in
theorem Bz (os:Os) (started:os.Started) (H:Type) (enc:TypeId×Value→H) :
  ReturnsInHanded {} Tryz.checked os 5 .any (fun w args=>(Rows.fnExactReadySpec.pre enc Tryz.prog Tryz.f5 Rows.fnExactReadyRow.domain false w args∧laidMetH Tryz.prog Rows.fnExactReadyRow.laid w)∧sizedMet enc Tryz.prog Tryz.f5 (OpenSpec.ofChange Rows.fnExactReadySpec) false w args)
   (Rows.fnExactReadySpec.post enc Tryz.prog Tryz.f5 false true false false):=by
 refine qO (C:=Tryz.checked) (X:=fun w _=>laidMetH Tryz.prog Rows.fnExactReadyRow.laid w) (fun _ _ _ hh h=>h.of_heap hh) own started (by kernel_rfl) Tryz.func5
  (ChangeSpec.witness_shaped (enc:=enc) (C:=Tryz.checked) (os:=os) (X:=fun w _=>laidMetH Tryz.prog Rows.fnExactReadyRow.laid w) false (World.laidAll Tryz.prog os Rows.fnExactReadyRow.laid) #[.agg #[.string ByteArray.empty,.string ByteArray.empty,.int .i64 0,.int .i64 0,.bool false,.slice none 0 0],.agg #[.string ByteArray.empty,.int .i64 0,.int .i64 0,.int .i64 0,.slice none 0 0],.int .i64 0,.bool false,.int .i64 0] 8 (World.laidAll_os _ _ _)
   (World.shaped_of_ZipB (by kernel_rfl) (by kernel_rfl)) (by kernel_rfl) (by kernel_rfl) (by kernel_rfl)
   (by rw [MakeChecks.laidMetH_plain _ _ _ (by kernel_rfl)];exact laidMet_laidAll _ (by kernel_rfl) (by kernel_rfl))) ?_
 intro W base args ds gs before hval0 hW hL hS
 have hB:=xi hS hL
 have hval:∀ (j:Nat) t v,Tryz.f5.params[j]?=some t→args[j]?=some v→Value.okWide Tryz.prog W .any base t v:=hval0
 have hW':=hW
 obtain ⟨p,q,hA0,hV,rfl,hfz,hnd⟩:=hW
 have hA:DataW.TrodAll enc Tryz.prog W 0 (fun _=>true) true Tryz.f5.params.toList args.toList ds p:=hA0
 rw [Tryz.params5] at hA hval
 have hlt:=hA.lt
 obtain ⟨v0,vs0,d0,ds0,p0,q0,hargs,rfl,rfl,h0,r0⟩:=trodAll_cons hA
 obtain ⟨v1,vs1,d1,ds1,p1,q1,hargs1,rfl,rfl,h1,r1⟩:=trodAll_cons r0
 obtain ⟨v2,vs2,d2,ds2,p2,q2,hargs2,rfl,rfl,h2,r2⟩:=trodAll_cons r1
 obtain ⟨v3,vs3,d3,ds3,p3,q3,hargs3,rfl,rfl,h3,r3⟩:=trodAll_cons r2
 obtain ⟨v4,vs4,d4,ds4,p4,q4,hargs4,rfl,rfl,h4,r4⟩:=trodAll_cons r3
 obtain ⟨rfl,rfl,rfl⟩:=trodAll_nil r4
 obtain rfl:args = #[v0,v1,v2,v3,v4]:=by cases args;simp_all
 obtain ⟨rfl,rfl⟩:=trodVars_none hV
 have hok0:=hval 0 24 v0 rfl rfl
 unfold Value.okWide at hok0
 rw [Tryz.underlying24] at hok0
 obtain ⟨cs0,rfl,_,_⟩:=hok0
 have h0k:=h0
 obtain ⟨n0,h0⟩:=h0
 obtain ⟨ts0,R0,S0,L0⟩:=Ty.open jV n0 24 _ _ (by kernel_rfl) h0
 obtain ⟨x0,e0,k0⟩:=tN S0
 have hok1:=hval 1 46 v1 rfl rfl
 unfold Value.okWide at hok1
 rw [Tryz.underlying46] at hok1
 obtain ⟨cs1,rfl,_,_⟩:=hok1
 have h1k:=h1
 obtain ⟨n1,h1⟩:=h1
 obtain ⟨ts1,R1,S1,L1⟩:=Ty.open jW n1 46 _ _ (by kernel_rfl) h1
 obtain ⟨x1,e1,k1⟩:=tO S1
 obtain ⟨x2,rfl,rfl,rfl,k2⟩:=open_int Tryz.underlying3 (hval 2 3 v2 rfl rfl) h2
 obtain ⟨x3,rfl,rfl,rfl⟩:=open_bool Tryz.underlying4 (hval 3 4 v3 rfl rfl) h3
 obtain ⟨x4,rfl,rfl,rfl,k4⟩:=open_int Tryz.underlying3 (hval 4 3 v4 rfl rfl) h4
 clear hA0 hval0
 refine (Jj (CC x0 x1 x2 x3 x4 k0 k1) hB (ad:=[.agg ts0,.agg ts1,.one (.v (.int .i64 x2)),.one (.v (.bool x3)),.one (.v (.int .i64 x4))]) (by simp only [List.map_cons,List.map_nil,Sl.er,cw,ay];rw [e0];rw [e1]) (ArgsIn.cons (AOk.agg R0 (Shape.noLent jV _ S0)) (ArgsIn.cons (AOk.agg R1 (Shape.noLent jW _ S1)) (ArgsIn.cons (AOk.one (t := .v (.int .i64 x2)) (Reads.val rfl) rfl) (ArgsIn.cons (AOk.one (t := .v (.bool x3)) (Reads.val rfl) rfl) (ArgsIn.cons (AOk.one (t := .v (.int .i64 x4)) (Reads.val rfl) rfl) (ArgsIn.nil W))))))).mono fun e W' ⟨he,bel⟩ => ?_
 subst he
 exact ⟨_,rfl,_,_,_,[],_,[],hW',trodAll_mk1 (shut_bool Tryz.underlying4 _),(trodAll_cons_mk (Below.trod laid (by kernel_rfl) (of_decide_eq_true (by kernel_rfl)) h0k bel (fun x hx=>hlt x (by simp [hx]))) (trodAll_cons_mk (Below.trod laid (by kernel_rfl) (of_decide_eq_true (by kernel_rfl)) h1k bel (fun x hx=>hlt x (by simp [hx]))) (trodAll_cons_mk (shut_int Tryz.underlying3 k2) (trodAll_cons_mk (shut_bool Tryz.underlying4 _) (trodAll_cons_mk (shut_int Tryz.underlying3 k4) trodAll_mk0))))),rfl,bel.frame _,fun h=>by cases h⟩
theorem HX:Rows.fnExactReadyRow.holds Tryz.pinned (OpenSpec.ofChange Rows.fnExactReadySpec) :=
 OpenClaim.holds_of_wide 5 Tryz.f5 rfl rfl rfl rfl rfl rfl rfl ⟨rfl,rfl,rfl,rfl,rfl⟩ rfl rfl rfl rfl rfl (by kernel_rfl) Tryz.func5 (by kernel_rfl)
  (of_decide_eq_true (by kernel_rfl)) (by unfold Func.isWrapper;first | (rw [if_pos (by decide +kernel)];kernel_rfl) | (rw [if_neg (by decide +kernel)];exact ⟨rfl,rfl⟩))
  (fun os started H enc _=>Bz os started H enc)
theorem proved:Rows.FnExactReadyCardSaid :=
 Claim7.holds_tied_plain_at .later [] [.data, .data, .data, .data, .pinned] true (true, "1ebbf59b39b94595b7967bb5696adfc877bfa01e57266b9c4ca2cfa107df7746") false HX (fun _ h => by cases h) (by kernel_rfl) (fun _ h => by cases h) fnExactReady_row_tie rfl ⟨rfl, rfl⟩ (by kernel_rfl) rfl
  (fun f fn hf hfn=>by
   obtain rfl : f = 5 := Option.some.inj ((show Tryz.prog.funcNamed "loop.example/g00188/laws.FnExactReady" = some 5 by kernel_rfl).symm.trans hf) |>.symm
   obtain rfl:fn=Tryz.f5:=(Option.some.inj (Tryz.func5.symm.trans hfn)).symm
   exact ⟨by kernel_rfl,fun j t ht=>by
    rw [Tryz.params5] at ht
    have hm:t∈[24,46,3,4,3]:=by simpa using Array.mem_of_getElem? ht
    have hall:([24,46,3,4,3].all fun u => !Tryz.prog.wantsStandIn u)=true:=by kernel_rfl
    exact (show Tryz.prog.wantsStandIn t=false by simpa using List.all_eq_true.1 hall t hm)⟩)
  (by kernel_rfl)
end Go.Proofs.YtgaiiephdjllkaaGreatDoor.fnExactReady
namespace Go.Proofs.YtgaiiephdjllkaaGreatDoor
theorem fnExactReady_holds:Rows.FnExactReadyCardSaid:=fnExactReady.proved
end Go.Proofs.YtgaiiephdjllkaaGreatDoor
