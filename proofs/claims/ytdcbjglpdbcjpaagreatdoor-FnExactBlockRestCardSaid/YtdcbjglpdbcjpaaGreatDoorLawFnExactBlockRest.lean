/- 'laws.FnExactBlockRest' returns true for every plan and run, and leaves its arguments as they were. Conditions: none. -/
import Derived.Test.YtdcbjglpdbcjpaaGreatDoorUps
import Derived.Test.YtdcbjglpdbcjpaaGreatDoorMarks
import Derived.Test.YtdcbjglpdbcjpaaGreatDoorRows
import Derived.Test.YtdcbjglpdbcjpaaGreatDoorCards
import Derived.Test.YtdcbjglpdbcjpaaGreatDoorTie
import Derived.WalkKit
import Derived.ProofKit
import Derived.OpenShut
import Derived.ShutString
import Derived.ChangeOld
import Derived.Below
import Derived.SizedLaws
import Derived.Lay
import Derived.LaidMore
import Derived.SevenTiedAt
import Derived.Stop.Joined
import Derived.Stop.LaidErr
import Derived.Lib.LaidTab
import Derived.Shelf.Vars
import Derived.HandedShaped
namespace Go.Proofs.YtdcbjglpdbcjpaaGreatDoor.Am
open Go Go.Proofs Classical
set_option maxRecDepth 100000
set_option linter.unusedVariables false
set_option linter.unusedSimpArgs false
noncomputable def iR (x0:LDag) (x1:LRun):Option (Bool) :=
  if Wf.wf x0 then cond (decide ((aI x0 (1048576:Int))<(0:Int)))
   (some (true))
   (if Wf.wf x1 then cond (decide ((dD x1 (aI x0 (1048576:Int)))<(0:Int)))
    (some (true))
    (if am.sm x0 then if am.sm x1 then if am.sm (aa x0) then if am.sm (ab x1) then if (ai (aa x0) (ab x1))=(ai (aa x0) (ab x1)) then if am.sm (ai (aa x0) (ab x1)) then cond (yes (ai (aa x0) (ab x1)) (ai (aa x0) (ab x1)))
     (if (aa x0)=(aa x0) then cond (yes (aa x0) (aa x0))
      (if (ab x1)=(ab x1) then cond (yes (ab x1) (ab x1))
       (if fQ (aa x0) (1:Int)=some (au (aa x0) (1:Int)) then if eW (ab x1) ((au (aa x0) (1:Int)).2)=some (ap (ab x1) ((au (aa x0) (1:Int)).2)) then cond (decide (((ap (ab x1) ((au (aa x0) (1:Int)).2)).2)<(0:Int)))
        (some (false))
        (if eW (ai (aa x0) (ab x1)) (1:Int)=some (ap (ai (aa x0) (ab x1)) (1:Int)) then if fP (GRun.mk ((ai (aa x0) (ab x1)).f0) ((ai (aa x0) (ab x1)).f1) ((ai (aa x0) (ab x1)).f2) (((ap (ai (aa x0) (ab x1)) (1:Int)).1).f3)) (1:Int)=some (cK (GRun.mk ((ai (aa x0) (ab x1)).f0) ((ai (aa x0) (ab x1)).f1) ((ai (aa x0) (ab x1)).f2) (((ap (ai (aa x0) (ab x1)) (1:Int)).1).f3)) (1:Int)) then cond (decide ((cK (GRun.mk ((ai (aa x0) (ab x1)).f0) ((ai (aa x0) (ab x1)).f1) ((ai (aa x0) (ab x1)).f2) (((ap (ai (aa x0) (ab x1)) (1:Int)).1).f3)) (1:Int))<(0:Int)))
         (some (false))
         (cond ((cK (GRun.mk ((ai (aa x0) (ab x1)).f0) ((ai (aa x0) (ab x1)).f1) ((ai (aa x0) (ab x1)).f2) (((ap (ai (aa x0) (ab x1)) (1:Int)).1).f3)) (1:Int)) != ((ap (ai (aa x0) (ab x1)) (1:Int)).2))
          (some (false))
          (some (true))) else none else none) else none else none)
       (some (false)) else none)
      (some (false)) else none)
     (some (false)) else none else none else none else none else none else none) else none) else none
theorem rY {q0:Kd} (x0:LDag) (x1:LRun):Ans (iR x0 x1) (fun r=>Does E 3 [.agg (LDag.t .far q0 x0),.agg (LRun.t .far x1)] [(false,[tB r])]):=by
 unfold iR
 refine K2 (fun h0 => ?_)
 apply K0<;>intro h1
 ·exact KX (DP Tryz.f3 [.ret [(false,[tI (aI x0 (1048576:Int))])],.b true] (AV (ψ:=fun k=>E.C k 4 [.agg (LDag.t .far q0 x0),.one (tI (1048576:Int))]=some [(false,[tI (aI x0 (1048576:Int))])]) (gK x0 (1048576:Int) h0)<|AC h1<|AN))
 ·refine K2 (fun h2 => ?_)
  apply K0<;>intro h3
  ·exact KX (DP Tryz.f3 [.ret [(false,[tI (aI x0 (1048576:Int))])],.b false,.ret [(false,[tI (dD x1 (aI x0 (1048576:Int)))])],.b true] (AV (ψ:=fun k=>E.C k 4 [.agg (LDag.t .far q0 x0),.one (tI (1048576:Int))]=some [(false,[tI (aI x0 (1048576:Int))])]) (gK x0 (1048576:Int) h0)<|AC h1<|AD (iG x1 (aI x0 (1048576:Int)) h2)<|AC h3<|AN))
  ·refine K2 (fun h4 => ?_)
   refine K2 (fun h5 => ?_)
   refine K2 (fun h6 => ?_)
   refine K2 (fun h7 => ?_)
   refine K2 (fun h8 => ?_)
   refine K2 (fun h9 => ?_)
   apply K0<;>intro h10
   ·refine K2 (fun h11 => ?_)
    apply K0<;>intro h12
    ·refine K2 (fun h13 => ?_)
     apply K0<;>intro h14
     ·refine K2 (fun h15 => ?_)
      refine K2 (fun h16 => ?_)
      apply K0<;>intro h17
      ·exact KX (DP Tryz.f3 [.ret [(false,[tI (aI x0 (1048576:Int))])],.b false,.ret [(false,[tI (dD x1 (aI x0 (1048576:Int)))])],.b false,.ret [(true,GDag.t .own .own (aa x0))],.ret [(true,GRun.t .own (ab x1))],.ret [(true,GRun.t .own (ai (aa x0) (ab x1)))],.ret [(true,GDag.t .own .own (aa x0))],.ret [(true,GRun.t .own (ab x1))],.ret [(true,GRun.t .own (ai (aa x0) (ab x1)))],rT,.ret [(true,GDag.t .own .own (aa x0))],rT,.ret [(true,GRun.t .own (ab x1))],rT,.ret [(true,GDag.t .own .own ((au (aa x0) (1:Int)).1)),(false,[tI ((au (aa x0) (1:Int)).2)])],.ret [(true,GRun.t .own ((ap (ab x1) ((au (aa x0) (1:Int)).2)).1)),(false,[tI ((ap (ab x1) ((au (aa x0) (1:Int)).2)).2)])],.b true] (AV (ψ:=fun k=>E.C k 4 [.agg (LDag.t .far q0 x0),.one (tI (1048576:Int))]=some [(false,[tI (aI x0 (1048576:Int))])]) (gK x0 (1048576:Int) h0)<|AC h1<|AD (iG x1 (aI x0 (1048576:Int)) h2)<|AC h3<|AV (ψ:=fun k=>E.C k 7 [.agg (LDag.t .far q0 x0)]=some [(true,GDag.t .own .own (aa x0))]) (bL x0 h4)<|AD (bR x1 h5)<|AV (ψ:=fun k=>E.C k 6 [.agg (GDag.t .far .own (aa x0)),.agg (GRun.t .far (ab x1))]=some [(true,GRun.t .own (ai (aa x0) (ab x1)))]) (fz (aa x0) (ab x1) h6 h7)<|AV (ψ:=fun k=>E.C k 7 [.agg (LDag.t .far q0 x0)]=some [(true,GDag.t .own .own (aa x0))]) (bL x0 h4)<|AD (bR x1 h5)<|AV (ψ:=fun k=>E.C k 9 [.agg (GDag.t .far .own (aa x0)),.agg (GRun.t .far (ab x1))]=some [(true,GRun.t .own (ai (aa x0) (ab x1)))]) (eJ (aa x0) (ab x1) h6 h7)<|AD (K5 (cO (ai (aa x0) (ab x1)) (ai (aa x0) (ab x1)) h8 h9) h10)<|AV (ψ:=fun k=>E.C k 7 [.agg (LDag.t .far q0 x0)]=some [(true,GDag.t .own .own (aa x0))]) (bL x0 h4)<|AV (ψ:=fun k=>E.C k 11 [.agg (GDag.t .far .own (aa x0)),.agg (GDag.t .far .own (aa x0))]=some [(false,[tB true])]) (K3 (lI (aa x0) (aa x0) h11 h6) (by rw [h12]))<|AD (bR x1 h5)<|AD (K5 (cO (ab x1) (ab x1) h13 h7) h14)<|AV (ψ:=fun k=>E.C k 12 [.agg (GDag.t .own .own (aa x0)),.one (tI (1:Int))]=some [(true,GDag.t .own .own ((au (aa x0) (1:Int)).1)),(false,[tI ((au (aa x0) (1:Int)).2)])]) (nh (aa x0) (1:Int) h15)<|AV (ψ:=fun k=>E.C k 13 [.agg (GRun.t .own (ab x1)),.one (tI ((au (aa x0) (1:Int)).2))]=some [(true,GRun.t .own ((ap (ab x1) ((au (aa x0) (1:Int)).2)).1)),(false,[tI ((ap (ab x1) ((au (aa x0) (1:Int)).2)).2)])]) (gY (ab x1) ((au (aa x0) (1:Int)).2) h16)<|AC h17<|AN))
      ·refine K2 (fun h18 => ?_)
       refine K2 (fun h19 => ?_)
       apply K0<;>intro h20
       ·exact KX (DP Tryz.f3 [.ret [(false,[tI (aI x0 (1048576:Int))])],.b false,.ret [(false,[tI (dD x1 (aI x0 (1048576:Int)))])],.b false,.ret [(true,GDag.t .own .own (aa x0))],.ret [(true,GRun.t .own (ab x1))],.ret [(true,GRun.t .own (ai (aa x0) (ab x1)))],.ret [(true,GDag.t .own .own (aa x0))],.ret [(true,GRun.t .own (ab x1))],.ret [(true,GRun.t .own (ai (aa x0) (ab x1)))],rT,.ret [(true,GDag.t .own .own (aa x0))],rT,.ret [(true,GRun.t .own (ab x1))],rT,.ret [(true,GDag.t .own .own ((au (aa x0) (1:Int)).1)),(false,[tI ((au (aa x0) (1:Int)).2)])],.ret [(true,GRun.t .own ((ap (ab x1) ((au (aa x0) (1:Int)).2)).1)),(false,[tI ((ap (ab x1) ((au (aa x0) (1:Int)).2)).2)])],.b false,rT,.ret [(true,GRun.t .own ((ap (ai (aa x0) (ab x1)) (1:Int)).1)),(false,[tI ((ap (ai (aa x0) (ab x1)) (1:Int)).2)])],.ret [(false,[tI (cK (GRun.mk ((ai (aa x0) (ab x1)).f0) ((ai (aa x0) (ab x1)).f1) ((ai (aa x0) (ab x1)).f2) (((ap (ai (aa x0) (ab x1)) (1:Int)).1).f3)) (1:Int))])],.b true] (AV (ψ:=fun k=>E.C k 4 [.agg (LDag.t .far q0 x0),.one (tI (1048576:Int))]=some [(false,[tI (aI x0 (1048576:Int))])]) (gK x0 (1048576:Int) h0)<|AC h1<|AD (iG x1 (aI x0 (1048576:Int)) h2)<|AC h3<|AV (ψ:=fun k=>E.C k 7 [.agg (LDag.t .far q0 x0)]=some [(true,GDag.t .own .own (aa x0))]) (bL x0 h4)<|AD (bR x1 h5)<|AV (ψ:=fun k=>E.C k 6 [.agg (GDag.t .far .own (aa x0)),.agg (GRun.t .far (ab x1))]=some [(true,GRun.t .own (ai (aa x0) (ab x1)))]) (fz (aa x0) (ab x1) h6 h7)<|AV (ψ:=fun k=>E.C k 7 [.agg (LDag.t .far q0 x0)]=some [(true,GDag.t .own .own (aa x0))]) (bL x0 h4)<|AD (bR x1 h5)<|AV (ψ:=fun k=>E.C k 9 [.agg (GDag.t .far .own (aa x0)),.agg (GRun.t .far (ab x1))]=some [(true,GRun.t .own (ai (aa x0) (ab x1)))]) (eJ (aa x0) (ab x1) h6 h7)<|AD (K5 (cO (ai (aa x0) (ab x1)) (ai (aa x0) (ab x1)) h8 h9) h10)<|AV (ψ:=fun k=>E.C k 7 [.agg (LDag.t .far q0 x0)]=some [(true,GDag.t .own .own (aa x0))]) (bL x0 h4)<|AV (ψ:=fun k=>E.C k 11 [.agg (GDag.t .far .own (aa x0)),.agg (GDag.t .far .own (aa x0))]=some [(false,[tB true])]) (K3 (lI (aa x0) (aa x0) h11 h6) (by rw [h12]))<|AD (bR x1 h5)<|AD (K5 (cO (ab x1) (ab x1) h13 h7) h14)<|AV (ψ:=fun k=>E.C k 12 [.agg (GDag.t .own .own (aa x0)),.one (tI (1:Int))]=some [(true,GDag.t .own .own ((au (aa x0) (1:Int)).1)),(false,[tI ((au (aa x0) (1:Int)).2)])]) (nh (aa x0) (1:Int) h15)<|AV (ψ:=fun k=>E.C k 13 [.agg (GRun.t .own (ab x1)),.one (tI ((au (aa x0) (1:Int)).2))]=some [(true,GRun.t .own ((ap (ab x1) ((au (aa x0) (1:Int)).2)).1)),(false,[tI ((ap (ab x1) ((au (aa x0) (1:Int)).2)).2)])]) (gY (ab x1) ((au (aa x0) (1:Int)).2) h16)<|AC h17<|AD (K5 (cO (ai (aa x0) (ab x1)) (ai (aa x0) (ab x1)) h8 h9) h10)<|AV (ψ:=fun k=>E.C k 13 [.agg (GRun.t .own (ai (aa x0) (ab x1))),.one (tI (1:Int))]=some [(true,GRun.t .own ((ap (ai (aa x0) (ab x1)) (1:Int)).1)),(false,[tI ((ap (ai (aa x0) (ab x1)) (1:Int)).2)])]) (gY (ai (aa x0) (ab x1)) (1:Int) h18)<|AD (nf (GRun.mk ((ai (aa x0) (ab x1)).f0) ((ai (aa x0) (ab x1)).f1) ((ai (aa x0) (ab x1)).f2) (((ap (ai (aa x0) (ab x1)) (1:Int)).1).f3)) (1:Int) h19)<|AC h20<|AN))
       ·apply K0<;>intro h21
        ·exact KX (DP Tryz.f3 [.ret [(false,[tI (aI x0 (1048576:Int))])],.b false,.ret [(false,[tI (dD x1 (aI x0 (1048576:Int)))])],.b false,.ret [(true,GDag.t .own .own (aa x0))],.ret [(true,GRun.t .own (ab x1))],.ret [(true,GRun.t .own (ai (aa x0) (ab x1)))],.ret [(true,GDag.t .own .own (aa x0))],.ret [(true,GRun.t .own (ab x1))],.ret [(true,GRun.t .own (ai (aa x0) (ab x1)))],rT,.ret [(true,GDag.t .own .own (aa x0))],rT,.ret [(true,GRun.t .own (ab x1))],rT,.ret [(true,GDag.t .own .own ((au (aa x0) (1:Int)).1)),(false,[tI ((au (aa x0) (1:Int)).2)])],.ret [(true,GRun.t .own ((ap (ab x1) ((au (aa x0) (1:Int)).2)).1)),(false,[tI ((ap (ab x1) ((au (aa x0) (1:Int)).2)).2)])],.b false,rT,.ret [(true,GRun.t .own ((ap (ai (aa x0) (ab x1)) (1:Int)).1)),(false,[tI ((ap (ai (aa x0) (ab x1)) (1:Int)).2)])],.ret [(false,[tI (cK (GRun.mk ((ai (aa x0) (ab x1)).f0) ((ai (aa x0) (ab x1)).f1) ((ai (aa x0) (ab x1)).f2) (((ap (ai (aa x0) (ab x1)) (1:Int)).1).f3)) (1:Int))])],.b false,.b true] (AV (ψ:=fun k=>E.C k 4 [.agg (LDag.t .far q0 x0),.one (tI (1048576:Int))]=some [(false,[tI (aI x0 (1048576:Int))])]) (gK x0 (1048576:Int) h0)<|AC h1<|AD (iG x1 (aI x0 (1048576:Int)) h2)<|AC h3<|AV (ψ:=fun k=>E.C k 7 [.agg (LDag.t .far q0 x0)]=some [(true,GDag.t .own .own (aa x0))]) (bL x0 h4)<|AD (bR x1 h5)<|AV (ψ:=fun k=>E.C k 6 [.agg (GDag.t .far .own (aa x0)),.agg (GRun.t .far (ab x1))]=some [(true,GRun.t .own (ai (aa x0) (ab x1)))]) (fz (aa x0) (ab x1) h6 h7)<|AV (ψ:=fun k=>E.C k 7 [.agg (LDag.t .far q0 x0)]=some [(true,GDag.t .own .own (aa x0))]) (bL x0 h4)<|AD (bR x1 h5)<|AV (ψ:=fun k=>E.C k 9 [.agg (GDag.t .far .own (aa x0)),.agg (GRun.t .far (ab x1))]=some [(true,GRun.t .own (ai (aa x0) (ab x1)))]) (eJ (aa x0) (ab x1) h6 h7)<|AD (K5 (cO (ai (aa x0) (ab x1)) (ai (aa x0) (ab x1)) h8 h9) h10)<|AV (ψ:=fun k=>E.C k 7 [.agg (LDag.t .far q0 x0)]=some [(true,GDag.t .own .own (aa x0))]) (bL x0 h4)<|AV (ψ:=fun k=>E.C k 11 [.agg (GDag.t .far .own (aa x0)),.agg (GDag.t .far .own (aa x0))]=some [(false,[tB true])]) (K3 (lI (aa x0) (aa x0) h11 h6) (by rw [h12]))<|AD (bR x1 h5)<|AD (K5 (cO (ab x1) (ab x1) h13 h7) h14)<|AV (ψ:=fun k=>E.C k 12 [.agg (GDag.t .own .own (aa x0)),.one (tI (1:Int))]=some [(true,GDag.t .own .own ((au (aa x0) (1:Int)).1)),(false,[tI ((au (aa x0) (1:Int)).2)])]) (nh (aa x0) (1:Int) h15)<|AV (ψ:=fun k=>E.C k 13 [.agg (GRun.t .own (ab x1)),.one (tI ((au (aa x0) (1:Int)).2))]=some [(true,GRun.t .own ((ap (ab x1) ((au (aa x0) (1:Int)).2)).1)),(false,[tI ((ap (ab x1) ((au (aa x0) (1:Int)).2)).2)])]) (gY (ab x1) ((au (aa x0) (1:Int)).2) h16)<|AC h17<|AD (K5 (cO (ai (aa x0) (ab x1)) (ai (aa x0) (ab x1)) h8 h9) h10)<|AV (ψ:=fun k=>E.C k 13 [.agg (GRun.t .own (ai (aa x0) (ab x1))),.one (tI (1:Int))]=some [(true,GRun.t .own ((ap (ai (aa x0) (ab x1)) (1:Int)).1)),(false,[tI ((ap (ai (aa x0) (ab x1)) (1:Int)).2)])]) (gY (ai (aa x0) (ab x1)) (1:Int) h18)<|AD (nf (GRun.mk ((ai (aa x0) (ab x1)).f0) ((ai (aa x0) (ab x1)).f1) ((ai (aa x0) (ab x1)).f2) (((ap (ai (aa x0) (ab x1)) (1:Int)).1).f3)) (1:Int) h19)<|AC h20<|AC h21<|AN))
        ·exact KX (DP Tryz.f3 [.ret [(false,[tI (aI x0 (1048576:Int))])],.b false,.ret [(false,[tI (dD x1 (aI x0 (1048576:Int)))])],.b false,.ret [(true,GDag.t .own .own (aa x0))],.ret [(true,GRun.t .own (ab x1))],.ret [(true,GRun.t .own (ai (aa x0) (ab x1)))],.ret [(true,GDag.t .own .own (aa x0))],.ret [(true,GRun.t .own (ab x1))],.ret [(true,GRun.t .own (ai (aa x0) (ab x1)))],rT,.ret [(true,GDag.t .own .own (aa x0))],rT,.ret [(true,GRun.t .own (ab x1))],rT,.ret [(true,GDag.t .own .own ((au (aa x0) (1:Int)).1)),(false,[tI ((au (aa x0) (1:Int)).2)])],.ret [(true,GRun.t .own ((ap (ab x1) ((au (aa x0) (1:Int)).2)).1)),(false,[tI ((ap (ab x1) ((au (aa x0) (1:Int)).2)).2)])],.b false,rT,.ret [(true,GRun.t .own ((ap (ai (aa x0) (ab x1)) (1:Int)).1)),(false,[tI ((ap (ai (aa x0) (ab x1)) (1:Int)).2)])],.ret [(false,[tI (cK (GRun.mk ((ai (aa x0) (ab x1)).f0) ((ai (aa x0) (ab x1)).f1) ((ai (aa x0) (ab x1)).f2) (((ap (ai (aa x0) (ab x1)) (1:Int)).1).f3)) (1:Int))])],.b false,.b false,.ret [(true,GDag.t .own .own (aa x0))],.ret [(true,GRun.t .own (ab x1))],.ret [(true,GRun.t .own (ai (aa x0) (ab x1)))],rT,.ret [(false,[tI (cK (GRun.mk ((ai (aa x0) (ab x1)).f0) ((ai (aa x0) (ab x1)).f1) ((ai (aa x0) (ab x1)).f2) (((ap (ai (aa x0) (ab x1)) (1:Int)).1).f3)) (1:Int))])],.b false,.b false] (AV (ψ:=fun k=>E.C k 4 [.agg (LDag.t .far q0 x0),.one (tI (1048576:Int))]=some [(false,[tI (aI x0 (1048576:Int))])]) (gK x0 (1048576:Int) h0)<|AC h1<|AD (iG x1 (aI x0 (1048576:Int)) h2)<|AC h3<|AV (ψ:=fun k=>E.C k 7 [.agg (LDag.t .far q0 x0)]=some [(true,GDag.t .own .own (aa x0))]) (bL x0 h4)<|AD (bR x1 h5)<|AV (ψ:=fun k=>E.C k 6 [.agg (GDag.t .far .own (aa x0)),.agg (GRun.t .far (ab x1))]=some [(true,GRun.t .own (ai (aa x0) (ab x1)))]) (fz (aa x0) (ab x1) h6 h7)<|AV (ψ:=fun k=>E.C k 7 [.agg (LDag.t .far q0 x0)]=some [(true,GDag.t .own .own (aa x0))]) (bL x0 h4)<|AD (bR x1 h5)<|AV (ψ:=fun k=>E.C k 9 [.agg (GDag.t .far .own (aa x0)),.agg (GRun.t .far (ab x1))]=some [(true,GRun.t .own (ai (aa x0) (ab x1)))]) (eJ (aa x0) (ab x1) h6 h7)<|AD (K5 (cO (ai (aa x0) (ab x1)) (ai (aa x0) (ab x1)) h8 h9) h10)<|AV (ψ:=fun k=>E.C k 7 [.agg (LDag.t .far q0 x0)]=some [(true,GDag.t .own .own (aa x0))]) (bL x0 h4)<|AV (ψ:=fun k=>E.C k 11 [.agg (GDag.t .far .own (aa x0)),.agg (GDag.t .far .own (aa x0))]=some [(false,[tB true])]) (K3 (lI (aa x0) (aa x0) h11 h6) (by rw [h12]))<|AD (bR x1 h5)<|AD (K5 (cO (ab x1) (ab x1) h13 h7) h14)<|AV (ψ:=fun k=>E.C k 12 [.agg (GDag.t .own .own (aa x0)),.one (tI (1:Int))]=some [(true,GDag.t .own .own ((au (aa x0) (1:Int)).1)),(false,[tI ((au (aa x0) (1:Int)).2)])]) (nh (aa x0) (1:Int) h15)<|AV (ψ:=fun k=>E.C k 13 [.agg (GRun.t .own (ab x1)),.one (tI ((au (aa x0) (1:Int)).2))]=some [(true,GRun.t .own ((ap (ab x1) ((au (aa x0) (1:Int)).2)).1)),(false,[tI ((ap (ab x1) ((au (aa x0) (1:Int)).2)).2)])]) (gY (ab x1) ((au (aa x0) (1:Int)).2) h16)<|AC h17<|AD (K5 (cO (ai (aa x0) (ab x1)) (ai (aa x0) (ab x1)) h8 h9) h10)<|AV (ψ:=fun k=>E.C k 13 [.agg (GRun.t .own (ai (aa x0) (ab x1))),.one (tI (1:Int))]=some [(true,GRun.t .own ((ap (ai (aa x0) (ab x1)) (1:Int)).1)),(false,[tI ((ap (ai (aa x0) (ab x1)) (1:Int)).2)])]) (gY (ai (aa x0) (ab x1)) (1:Int) h18)<|AD (nf (GRun.mk ((ai (aa x0) (ab x1)).f0) ((ai (aa x0) (ab x1)).f1) ((ai (aa x0) (ab x1)).f2) (((ap (ai (aa x0) (ab x1)) (1:Int)).1).f3)) (1:Int) h19)<|AC h20<|AC h21<|AV (ψ:=fun k=>E.C k 7 [.agg (LDag.t .far q0 x0)]=some [(true,GDag.t .own .own (aa x0))]) (bL x0 h4)<|AD (bR x1 h5)<|AV (ψ:=fun k=>E.C k 9 [.agg (GDag.t .far .own (aa x0)),.agg (GRun.t .far (ab x1))]=some [(true,GRun.t .own (ai (aa x0) (ab x1)))]) (eJ (aa x0) (ab x1) h6 h7)<|AD (K5 (cO (ai (aa x0) (ab x1)) (ai (aa x0) (ab x1)) h8 h9) h10)<|AD (nf (GRun.mk ((ai (aa x0) (ab x1)).f0) ((ai (aa x0) (ab x1)).f1) ((ai (aa x0) (ab x1)).f2) (((ap (ai (aa x0) (ab x1)) (1:Int)).1).f3)) (1:Int) h19)<|AC h20<|AC h21<|AN))
     ·exact KX (DP Tryz.f3 [.ret [(false,[tI (aI x0 (1048576:Int))])],.b false,.ret [(false,[tI (dD x1 (aI x0 (1048576:Int)))])],.b false,.ret [(true,GDag.t .own .own (aa x0))],.ret [(true,GRun.t .own (ab x1))],.ret [(true,GRun.t .own (ai (aa x0) (ab x1)))],.ret [(true,GDag.t .own .own (aa x0))],.ret [(true,GRun.t .own (ab x1))],.ret [(true,GRun.t .own (ai (aa x0) (ab x1)))],rT,.ret [(true,GDag.t .own .own (aa x0))],rT,.ret [(true,GRun.t .own (ab x1))],rF] (AV (ψ:=fun k=>E.C k 4 [.agg (LDag.t .far q0 x0),.one (tI (1048576:Int))]=some [(false,[tI (aI x0 (1048576:Int))])]) (gK x0 (1048576:Int) h0)<|AC h1<|AD (iG x1 (aI x0 (1048576:Int)) h2)<|AC h3<|AV (ψ:=fun k=>E.C k 7 [.agg (LDag.t .far q0 x0)]=some [(true,GDag.t .own .own (aa x0))]) (bL x0 h4)<|AD (bR x1 h5)<|AV (ψ:=fun k=>E.C k 6 [.agg (GDag.t .far .own (aa x0)),.agg (GRun.t .far (ab x1))]=some [(true,GRun.t .own (ai (aa x0) (ab x1)))]) (fz (aa x0) (ab x1) h6 h7)<|AV (ψ:=fun k=>E.C k 7 [.agg (LDag.t .far q0 x0)]=some [(true,GDag.t .own .own (aa x0))]) (bL x0 h4)<|AD (bR x1 h5)<|AV (ψ:=fun k=>E.C k 9 [.agg (GDag.t .far .own (aa x0)),.agg (GRun.t .far (ab x1))]=some [(true,GRun.t .own (ai (aa x0) (ab x1)))]) (eJ (aa x0) (ab x1) h6 h7)<|AD (K5 (cO (ai (aa x0) (ab x1)) (ai (aa x0) (ab x1)) h8 h9) h10)<|AV (ψ:=fun k=>E.C k 7 [.agg (LDag.t .far q0 x0)]=some [(true,GDag.t .own .own (aa x0))]) (bL x0 h4)<|AV (ψ:=fun k=>E.C k 11 [.agg (GDag.t .far .own (aa x0)),.agg (GDag.t .far .own (aa x0))]=some [(false,[tB true])]) (K3 (lI (aa x0) (aa x0) h11 h6) (by rw [h12]))<|AD (bR x1 h5)<|AD (K5 (cO (ab x1) (ab x1) h13 h7) h14)<|AN))
    ·exact KX (DP Tryz.f3 [.ret [(false,[tI (aI x0 (1048576:Int))])],.b false,.ret [(false,[tI (dD x1 (aI x0 (1048576:Int)))])],.b false,.ret [(true,GDag.t .own .own (aa x0))],.ret [(true,GRun.t .own (ab x1))],.ret [(true,GRun.t .own (ai (aa x0) (ab x1)))],.ret [(true,GDag.t .own .own (aa x0))],.ret [(true,GRun.t .own (ab x1))],.ret [(true,GRun.t .own (ai (aa x0) (ab x1)))],rT,.ret [(true,GDag.t .own .own (aa x0))],rF] (AV (ψ:=fun k=>E.C k 4 [.agg (LDag.t .far q0 x0),.one (tI (1048576:Int))]=some [(false,[tI (aI x0 (1048576:Int))])]) (gK x0 (1048576:Int) h0)<|AC h1<|AD (iG x1 (aI x0 (1048576:Int)) h2)<|AC h3<|AV (ψ:=fun k=>E.C k 7 [.agg (LDag.t .far q0 x0)]=some [(true,GDag.t .own .own (aa x0))]) (bL x0 h4)<|AD (bR x1 h5)<|AV (ψ:=fun k=>E.C k 6 [.agg (GDag.t .far .own (aa x0)),.agg (GRun.t .far (ab x1))]=some [(true,GRun.t .own (ai (aa x0) (ab x1)))]) (fz (aa x0) (ab x1) h6 h7)<|AV (ψ:=fun k=>E.C k 7 [.agg (LDag.t .far q0 x0)]=some [(true,GDag.t .own .own (aa x0))]) (bL x0 h4)<|AD (bR x1 h5)<|AV (ψ:=fun k=>E.C k 9 [.agg (GDag.t .far .own (aa x0)),.agg (GRun.t .far (ab x1))]=some [(true,GRun.t .own (ai (aa x0) (ab x1)))]) (eJ (aa x0) (ab x1) h6 h7)<|AD (K5 (cO (ai (aa x0) (ab x1)) (ai (aa x0) (ab x1)) h8 h9) h10)<|AV (ψ:=fun k=>E.C k 7 [.agg (LDag.t .far q0 x0)]=some [(true,GDag.t .own .own (aa x0))]) (bL x0 h4)<|AV (ψ:=fun k=>E.C k 11 [.agg (GDag.t .far .own (aa x0)),.agg (GDag.t .far .own (aa x0))]=some [(false,[tB false])]) (K3 (lI (aa x0) (aa x0) h11 h6) (by rw [h12]))<|AN))
   ·exact KX (DP Tryz.f3 [.ret [(false,[tI (aI x0 (1048576:Int))])],.b false,.ret [(false,[tI (dD x1 (aI x0 (1048576:Int)))])],.b false,.ret [(true,GDag.t .own .own (aa x0))],.ret [(true,GRun.t .own (ab x1))],.ret [(true,GRun.t .own (ai (aa x0) (ab x1)))],.ret [(true,GDag.t .own .own (aa x0))],.ret [(true,GRun.t .own (ab x1))],.ret [(true,GRun.t .own (ai (aa x0) (ab x1)))],rF] (AV (ψ:=fun k=>E.C k 4 [.agg (LDag.t .far q0 x0),.one (tI (1048576:Int))]=some [(false,[tI (aI x0 (1048576:Int))])]) (gK x0 (1048576:Int) h0)<|AC h1<|AD (iG x1 (aI x0 (1048576:Int)) h2)<|AC h3<|AV (ψ:=fun k=>E.C k 7 [.agg (LDag.t .far q0 x0)]=some [(true,GDag.t .own .own (aa x0))]) (bL x0 h4)<|AD (bR x1 h5)<|AV (ψ:=fun k=>E.C k 6 [.agg (GDag.t .far .own (aa x0)),.agg (GRun.t .far (ab x1))]=some [(true,GRun.t .own (ai (aa x0) (ab x1)))]) (fz (aa x0) (ab x1) h6 h7)<|AV (ψ:=fun k=>E.C k 7 [.agg (LDag.t .far q0 x0)]=some [(true,GDag.t .own .own (aa x0))]) (bL x0 h4)<|AD (bR x1 h5)<|AV (ψ:=fun k=>E.C k 9 [.agg (GDag.t .far .own (aa x0)),.agg (GRun.t .far (ab x1))]=some [(true,GRun.t .own (ai (aa x0) (ab x1)))]) (eJ (aa x0) (ab x1) h6 h7)<|AD (K5 (cO (ai (aa x0) (ab x1)) (ai (aa x0) (ab x1)) h8 h9) h10)<|AN))
theorem wN {q0:Kd} (x0:LDag) (x1:LRun) (h:Wf.wf x0) (g:Wf.wf x1):Does E 3 [.agg (LDag.t .far q0 x0),.agg (LRun.t .far x1)] [(false,[tB true])]:=by
 have hs:=FK x0 1048576 h (by omega) (by omega)
 exact rY x0 x1 _ (by
  unfold iR
  refine G5 h (IE fun q => ?_)
  have hz:=hs q
  have hr:=FL x1 (aI x0 1048576) g q hz.1
  refine G5 g (IE fun q2 => ?_)
  have ht:am.sm (aa x0):=F5 hz.2
  have ht2:am.sm (ab x1):=F6 (hr q2).2
  have hb:am.sm (ai (aa x0) (ab x1)):=CQ _ _ ht2
  obtain ⟨a1,a2,a3,a4,a5,a6,a7⟩:=Ch (aa x0) 1 ht (by omega) (by omega)
  obtain ⟨b1,b2,b3,b4,b5,b6,b7⟩:=uA (ab x1) (au (aa x0) 1).2 ht2 (by omega) (by omega)
  obtain ⟨c1,c2,c3,c4,c5,c6,c7⟩:=uA (ai (aa x0) (ab x1)) 1 hb (by omega) (by omega)
  have hA:decide ((ap (ab x1) (au (aa x0) 1).2).2<(0:Int))=false:=decide_eq_false (by omega)
  have hB:decide ((ap (ai (aa x0) (ab x1)) 1).2<(0:Int))=false:=decide_eq_false (by omega)
  simp [hz.2,(hr q2).2,ht,ht2,hb,yes,a1,b1,c1,c2,c3,c7,hA,hB])
end Go.Proofs.YtdcbjglpdbcjpaaGreatDoor.Am
namespace Go.Proofs.YtdcbjglpdbcjpaaGreatDoor.fnExactBlockRest
open Go.ChangeShapes Go.WideShapes Go.ChangeAt Go.RowKit Go.Proofs.YtdcbjglpdbcjpaaGreatDoor.Am
open Go.ChangeMaps (open_string shut_string)
set_option linter.unusedVariables false
set_option linter.unusedSimpArgs false
theorem own:ownKnob Tryz.prog.godebug=none:=by kernel_rfl
theorem laid:laidOutB Tryz.prog=true:=by kernel_rfl
theorem sj {α:Type} {enc:α→List (T Unit)} {B:α→Prop}:∀ (rows:List (List DT)),(∀ r∈rows,∃ x,erL r=enc x∧B x)→∃ l:List α,rows.map erL=l.map enc∧l.length=rows.length∧∀ y∈l,B y
 | [],_=>⟨[],rfl,rfl,fun y h=>by cases h⟩
 | r::rs,h=>by
  obtain ⟨x,h1,h2⟩:=h r (by simp)
  obtain ⟨l,g1,g2,g3⟩:=sj rs fun q hq=>h q (by simp [hq])
  refine ⟨x::l,by simp only [List.map_cons,h1,g1],by simp [g2],fun y hy => ?_⟩
  rcases List.mem_cons.1 hy with rfl | hy
  ·exact h2
  ·exact g3 y hy
def wC:Ty:=(.struct (.cons .str (.cons .str (.cons (.int .i64) (.cons .bool (.cons (.slice .str) .nil))))))
theorem FQ {ts:List DT} (h:Shape wC ts):∃ x:GTask,erL ts=GTask.t .far x∧Wf.wf x:=by
 simp only [wC,Shape,ShapeF] at h
 obtain ⟨xs0,ys0,rfl,s0,xs1,ys1,rfl,s1,xs2,ys2,rfl,s2,xs3,ys3,rfl,s3,xs4,ys4,rfl,s4,rfl⟩:=h
 obtain ⟨v0,rfl,k0⟩:=s0
 obtain ⟨v1,rfl,k1⟩:=s1
 obtain ⟨v2,rfl,k2⟩:=s2
 obtain ⟨v3,rfl⟩:=s3
 obtain ⟨d4,r4,rfl,k4,a4⟩:=s4
 obtain ⟨v4,e4,b4,c4⟩:=sj (enc:=etS) (B:=Wf.wf) r4 (fun r hr=>(by obtain ⟨s,rfl,hs⟩:=a4 r hr;exact ⟨s,rfl,hs⟩))
 refine ⟨⟨v0,v1,v2,v3,v4⟩,?_,⟨k0,k1,⟨by rw [b4];exact k4,c4⟩⟩⟩
 simp only [List.map_append,List.map_cons,List.map_nil,erL,ax,cZ,e4]
 rfl
def u4:Ty:=(.struct (.cons .str (.cons .str (.cons (.int .i64) (.cons (.int .i64) (.cons .bool (.cons (.slice (.struct (.cons .str (.cons .str (.cons (.int .i64) (.cons .bool (.cons (.slice .str) .nil))))))) .nil)))))))
theorem Hc {ts:List DT} (h:Shape u4 ts):∃ x:LDag,erL ts=LDag.t .far .far x∧Wf.wf x:=by
 simp only [u4,Shape,ShapeF] at h
 obtain ⟨xs0,ys0,rfl,s0,xs1,ys1,rfl,s1,xs2,ys2,rfl,s2,xs3,ys3,rfl,s3,xs4,ys4,rfl,s4,xs5,ys5,rfl,s5,rfl⟩:=h
 obtain ⟨v0,rfl,k0⟩:=s0
 obtain ⟨v1,rfl,k1⟩:=s1
 obtain ⟨v2,rfl,k2⟩:=s2
 obtain ⟨v3,rfl,k3⟩:=s3
 obtain ⟨v4,rfl⟩:=s4
 obtain ⟨d5,r5,rfl,k5,a5⟩:=s5
 obtain ⟨v5,e5,b5,c5⟩:=sj (enc:=(GTask.t .far)) (B:=Wf.wf) r5 (fun r hr=>FQ (by simp only [wC,Shape,ShapeF];exact a5 r hr))
 refine ⟨⟨v0,v1,v2,v3,v4,v5⟩,?_,⟨k0,k1,⟨by rw [b5];exact k5,c5⟩⟩⟩
 simp only [List.map_append,List.map_cons,List.map_nil,erL,ax,cZ,e5]
 rfl
def wB:Ty:=(.struct (.cons (.int .i64) (.cons (.int .i64) .nil)))
theorem FP {ts:List DT} (h:Shape wB ts):∃ x:GSpan,erL ts=GSpan.t x∧Wf.wf x:=by
 simp only [wB,Shape,ShapeF] at h
 obtain ⟨xs0,ys0,rfl,s0,xs1,ys1,rfl,s1,rfl⟩:=h
 obtain ⟨v0,rfl,k0⟩:=s0
 obtain ⟨v1,rfl,k1⟩:=s1
 refine ⟨⟨v0,v1⟩,?_,trivial⟩
 simp only [List.map_append,List.map_cons,List.map_nil,erL,ax,cZ]
 rfl
def uU:Ty:=(.struct (.cons (.int .i64) (.cons (.int .i64) (.cons (.int .i64) (.cons (.int .i64) .nil)))))
theorem DS {ts:List DT} (h:Shape uU ts):∃ x:GState,erL ts=GState.t x∧Wf.wf x:=by
 simp only [uU,Shape,ShapeF] at h
 obtain ⟨xs0,ys0,rfl,s0,xs1,ys1,rfl,s1,xs2,ys2,rfl,s2,xs3,ys3,rfl,s3,rfl⟩:=h
 obtain ⟨v0,rfl,k0⟩:=s0
 obtain ⟨v1,rfl,k1⟩:=s1
 obtain ⟨v2,rfl,k2⟩:=s2
 obtain ⟨v3,rfl,k3⟩:=s3
 refine ⟨⟨v0,v1,v2,v3⟩,?_,trivial⟩
 simp only [List.map_append,List.map_cons,List.map_nil,erL,ax,cZ]
 rfl
def u5:Ty:=(.struct (.cons .str (.cons (.struct (.cons (.int .i64) (.cons (.int .i64) .nil))) (.cons (.int .i64) (.cons (.slice (.struct (.cons (.int .i64) (.cons (.int .i64) (.cons (.int .i64) (.cons (.int .i64) .nil)))))) .nil)))))
theorem Hd {ts:List DT} (h:Shape u5 ts):∃ x:LRun,erL ts=LRun.t .far x∧Wf.wf x:=by
 simp only [u5,Shape,ShapeF] at h
 obtain ⟨xs0,ys0,rfl,s0,xs1,ys1,rfl,s1,xs2,ys2,rfl,s2,xs3,ys3,rfl,s3,rfl⟩:=h
 obtain ⟨v0,rfl,k0⟩:=s0
 obtain ⟨v1,e1,k1⟩:=FP (ts:=xs1) (by simp only [wB,Shape,ShapeF];exact s1)
 obtain ⟨v2,rfl,k2⟩:=s2
 obtain ⟨d3,r3,rfl,k3,a3⟩:=s3
 obtain ⟨v3,e3,b3,c3⟩:=sj (enc:=GState.t) (B:=Wf.wf) r3 (fun r hr=>DS (by simp only [uU,Shape,ShapeF];exact a3 r hr))
 refine ⟨⟨v0,v1,v2,v3⟩,?_,⟨k0,k1,⟨by rw [b3];exact k3,c3⟩⟩⟩
 simp only [List.map_append,List.map_cons,List.map_nil,erL,ax,cZ,e1,e3]
 rfl
theorem EY {H:Type} {enc:TypeId×Value→H} {a:Assume} {C:Checked} {os:Os} {f:FuncId} {fn:Func} {s:ChangeSpec} {conds:List PathCond} {apart fresh handsOn again:Bool} {X:World→Array Value→Prop}
  (hX:∀ (w w':World) (args:Array Value),w.heap=w'.heap→X w args→X w' args)
  (own:ownKnob C.prog.godebug=none) (started:os.Started) (noInit:C.prog.inits.idxOf? f=none) (hfn:C.prog.funcs[f]?=some fn)
  (witness:∃ (w:World) (tape:Tape) (i:Input),w.os=os∧(w.forCall tape i).Shaped C.prog∧i.vars=[]∧Input.okWide C.prog (w.forCall tape i) .any w.heap.size f i ∧
   ((s.pre enc C.prog fn conds apart (w.forCall tape i).memory i.args∧X (w.forCall tape i).memory i.args)∧sizedMet enc C.prog fn (OpenSpec.ofChange s) apart (w.forCall tape i).memory i.args)∧a.holds C.prog (lone (Frame.enter C.prog f i.args .normal) [] (w.forCall tape i)))
  (contract:∀ (W:World) (base:Nat) (args:Array Value) (ds gs:List (DataW H)) (before:List MemPlace),
   (∀ (j:Nat) t v,fn.params[j]?=some t→args[j]?=some v→Value.okWide C.prog W .any base t v) →
   DataW.Whole enc C.prog fn.params.toList s.vars apart W args.toList ds gs before →
   X W args→W.ShapedOpen C.prog →
   Calls C.prog f args W fun e W'=>∃ v,e = .returned v∧s.post enc C.prog fn apart fresh handsOn again W args v W') :
  ReturnsInHanded a C os f .any (fun w args=>(s.pre enc C.prog fn conds apart w args∧X w args)∧sizedMet enc C.prog fn (OpenSpec.ofChange s) apart w args) (s.post enc C.prog fn apart fresh handsOn again):=by
 refine returnsInHanded_of_calls own started noInit witness ?_
 intro w tape i _ hsh _ hok hpre _
 obtain ⟨_,_,_,fn',hfn',_,_,_,_,hval⟩:=hok
 have e:fn'=fn:=Option.some.inj (hfn'.symm.trans hfn)
 subst e
 obtain ⟨⟨⟨ds,gs,before,hw,hc⟩,hx⟩,hz⟩:=hpre
 have hw':=DataW.Whole.of_heap (w':=w.forCall tape i) (by rfl) hw
 refine (contract (w.forCall tape i) w.heap.size i.args ds gs before hval hw' (hX _ _ _ (by rfl) hx) hsh).mono fun e W' ⟨v,he,hp⟩ => ?_
 subst he
 exact ChangeSpec.post_blind hp
theorem IP {W:World} (hS:W.ShapedOpen Tryz.prog) (hL:laidMetH Tryz.prog Rows.fnExactBlockRestRow.laid W):kf.ok W []:=by
 rw [MakeChecks.laidMetH_plain _ _ _ (by kernel_rfl)] at hL
 refine ⟨?_,fun b h=>(by cases h),?_,?_⟩
 ·obtain ⟨x,hx⟩:=Option.isSome_iff_exists.1 (show (((begin Tryz.prog (fun _ _=>0) default).world.heap[5]?).bind Obj.row?).isSome=true by kernel_rfl)
  obtain ⟨cs,hh,_⟩:=hS.1 5 x.1 x.2 (of_decide_eq_true (by kernel_rfl)) hx
  have hn:kf.n=6:=by show Tryz.prog.globals.size=6;kernel_rfl
  rw [hn]
  rcases Nat.lt_or_ge 5 W.heap.size with g | g
  ·exact g
  ·rw [Array.getElem?_eq_none g] at hh;cases hh
 ·exact cell_of_shapedOpen_int (t:=3) (zero := #[.int .i64 0]) hS (of_decide_eq_true (by kernel_rfl)) (by kernel_rfl) rfl (by kernel_rfl) (by kernel_rfl) Tryz.underlying3
 ·have e:Rows.laid_internal_strconv_uint64pow10 (H:=Unit)=Lib.tabData .u64 Lib.pow10Tab:=by kernel_rfl
  refine Lib.tabIs_of_head (rest:=Rows.fnExactBlockRestRow.laid.drop 3) (g:=1) (t:=183) (e:=157) (n:=20) (by kernel_rfl) (by kernel_rfl) Tryz.underlying183 (by kernel_rfl) (by kernel_rfl) (by kernel_rfl) ?_
  rw [← e]
  exact hL.tail.tail
set_option maxRecDepth 100000 in
theorem JD (os:Os) (started:os.Started) (H:Type) (enc:TypeId×Value→H) :
  ReturnsInHanded {} Tryz.checked os 3 .any (fun w args=>(Rows.fnExactBlockRestSpec.pre enc Tryz.prog Tryz.f3 Rows.fnExactBlockRestRow.domain false w args∧laidMetH Tryz.prog Rows.fnExactBlockRestRow.laid w)∧sizedMet enc Tryz.prog Tryz.f3 (OpenSpec.ofChange Rows.fnExactBlockRestSpec) false w args)
   (Rows.fnExactBlockRestSpec.post enc Tryz.prog Tryz.f3 false true false false):=by
 refine EY (C:=Tryz.checked) (X:=fun w _=>laidMetH Tryz.prog Rows.fnExactBlockRestRow.laid w) (fun _ _ _ hh h=>h.of_heap hh) own started (by kernel_rfl) Tryz.func3
  (ChangeSpec.witness_shaped (enc:=enc) (C:=Tryz.checked) (os:=os) (X:=fun w _=>laidMetH Tryz.prog Rows.fnExactBlockRestRow.laid w) false (World.laidAll Tryz.prog os Rows.fnExactBlockRestRow.laid) #[.agg #[.string ByteArray.empty,.string ByteArray.empty,.int .i64 0,.int .i64 0,.bool false,.slice none 0 0],.agg #[.string ByteArray.empty,.int .i64 0,.int .i64 0,.int .i64 0,.slice none 0 0]] 8 (World.laidAll_os _ _ _)
   (World.shaped_of_ZipB (by kernel_rfl) (by kernel_rfl)) (by kernel_rfl) (by kernel_rfl) (by kernel_rfl)
   (by rw [MakeChecks.laidMetH_plain _ _ _ (by kernel_rfl)];exact laidMet_laidAll _ (by kernel_rfl) (by kernel_rfl))) ?_
 intro W base args ds gs before hval0 hW hL hS
 have hB:=IP hS hL
 have hval:∀ (j:Nat) t v,Tryz.f3.params[j]?=some t→args[j]?=some v→Value.okWide Tryz.prog W .any base t v:=hval0
 have hW':=hW
 obtain ⟨p,q,hA0,hV,rfl,hfz,hnd⟩:=hW
 have hA:DataW.TrodAll enc Tryz.prog W 0 (fun _=>true) true Tryz.f3.params.toList args.toList ds p:=hA0
 rw [Tryz.params3] at hA hval
 have hlt:=hA.lt
 obtain ⟨v0,vs0,d0,ds0,p0,q0,hargs,rfl,rfl,h0,r0⟩:=trodAll_cons hA
 obtain ⟨v1,vs1,d1,ds1,p1,q1,hargs1,rfl,rfl,h1,r1⟩:=trodAll_cons r0
 obtain ⟨rfl,rfl,rfl⟩:=trodAll_nil r1
 obtain rfl:args = #[v0,v1]:=by cases args;simp_all
 obtain ⟨rfl,rfl⟩:=trodVars_none hV
 have hok0:=hval 0 24 v0 rfl rfl
 unfold Value.okWide at hok0
 rw [Tryz.underlying24] at hok0
 obtain ⟨cs0,rfl,_,_⟩:=hok0
 have h0k:=h0
 obtain ⟨n0,h0⟩:=h0
 obtain ⟨ts0,R0,S0,L0⟩:=Ty.open u4 n0 24 _ _ (by kernel_rfl) h0
 obtain ⟨x0,e0,k0⟩:=Hc S0
 have hok1:=hval 1 29 v1 rfl rfl
 unfold Value.okWide at hok1
 rw [Tryz.underlying29] at hok1
 obtain ⟨cs1,rfl,_,_⟩:=hok1
 have h1k:=h1
 obtain ⟨n1,h1⟩:=h1
 obtain ⟨ts1,R1,S1,L1⟩:=Ty.open u5 n1 29 _ _ (by kernel_rfl) h1
 obtain ⟨x1,e1,k1⟩:=Hd S1
 clear hA0 hval0
 refine (J4 (wN x0 x1 k0 k1) hB (ad:=[.agg ts0,.agg ts1]) (by simp only [List.map_cons,List.map_nil,Sl.er,cZ,ax];rw [e0];rw [e1]) (ArgsIn.cons (AOk.agg R0 (Shape.noLent u4 _ S0)) (ArgsIn.cons (AOk.agg R1 (Shape.noLent u5 _ S1)) (ArgsIn.nil W)))).mono fun e W' ⟨he,bel⟩ => ?_
 subst he
 exact ⟨_,rfl,_,_,_,[],_,[],hW',trodAll_mk1 (shut_bool Tryz.underlying4 _),(trodAll_cons_mk (Below.trod laid (by kernel_rfl) (of_decide_eq_true (by kernel_rfl)) h0k bel (fun x hx=>hlt x (by simp [hx]))) (trodAll_cons_mk (Below.trod laid (by kernel_rfl) (of_decide_eq_true (by kernel_rfl)) h1k bel (fun x hx=>hlt x (by simp [hx]))) trodAll_mk0)),rfl,bel.frame _,fun h=>by cases h⟩
theorem J3:Rows.fnExactBlockRestRow.holds Tryz.pinned (OpenSpec.ofChange Rows.fnExactBlockRestSpec) :=
 OpenClaim.holds_of_wide 3 Tryz.f3 rfl rfl rfl rfl rfl rfl rfl ⟨rfl,rfl,rfl,rfl,rfl⟩ rfl rfl rfl rfl rfl (by kernel_rfl) Tryz.func3 (by kernel_rfl)
  (of_decide_eq_true (by kernel_rfl)) (by unfold Func.isWrapper;first | (rw [if_pos (by decide +kernel)];kernel_rfl) | (rw [if_neg (by decide +kernel)];exact ⟨rfl,rfl⟩))
  (fun os started H enc _=>JD os started H enc)
theorem proved:Rows.FnExactBlockRestCardSaid :=
 Claim7.holds_tied_plain_at .later [] [.data, .data, .data, .data, .pinned] true (true, "eb1413ceace584f57bfe302fb43cb343801109ffcf47ab462cba31bfe50f2831") false J3 (fun _ h => by cases h) (by kernel_rfl) (fun _ h => by cases h) fnExactBlockRest_row_tie rfl ⟨rfl, rfl⟩ (by kernel_rfl) rfl
  (fun f fn hf hfn=>by
   obtain rfl : f = 3 := Option.some.inj ((show Tryz.prog.funcNamed "loop.example/g00188/laws.FnExactBlockRest" = some 3 by kernel_rfl).symm.trans hf) |>.symm
   obtain rfl:fn=Tryz.f3:=(Option.some.inj (Tryz.func3.symm.trans hfn)).symm
   exact ⟨by kernel_rfl,fun j t ht=>by
    rw [Tryz.params3] at ht
    have hm:t∈[24,29]:=by simpa using Array.mem_of_getElem? ht
    have hall:([24,29].all fun u => !Tryz.prog.wantsStandIn u)=true:=by kernel_rfl
    exact (show Tryz.prog.wantsStandIn t=false by simpa using List.all_eq_true.1 hall t hm)⟩)
  (by kernel_rfl)
end Go.Proofs.YtdcbjglpdbcjpaaGreatDoor.fnExactBlockRest
namespace Go.Proofs.YtdcbjglpdbcjpaaGreatDoor
theorem fnExactBlockRest_holds:Rows.FnExactBlockRestCardSaid:=fnExactBlockRest.proved
end Go.Proofs.YtdcbjglpdbcjpaaGreatDoor
