/- New runs. -/
import Derived.Test.YtgaiiephdjllkaaGreatDoorPlans
namespace Go.Proofs.YtgaiiephdjllkaaGreatDoor.Am
open Go Go.Proofs Classical
set_option maxRecDepth 100000
set_option linter.unusedVariables false
set_option linter.unusedSimpArgs false
noncomputable def pB (x0:GSpan):Option (Bool) :=
  cond (decide (x0.f0≥(0:Int)))
   (cond (decide (x0.f0<x0.f1))
    (some (decide (x0.f1≤(68374079:Int))))
    (some (false)))
   (some (false))
theorem Cs (x0:GSpan):Ans (pB x0) (fun r=>Does E 24 [.agg (GSpan.t x0)] [(false,[tB r])]):=by
 unfold pB
 apply JJ<;>intro h0
 ·apply JJ<;>intro h1
  ·exact JG (DP Tryz.f24 [.b true,.b true] (AC h0<|AC h1<|AN))
  ·exact JG (DP Tryz.f24 [.b true,.b false] (AC h0<|AC h1<|AN))
 ·exact JG (DP Tryz.f24 [.b false] (AC h0<|AN))
def ku (s:GSpan):Bool:=decide (s.f0≥0)&&(decide (s.f0<s.f1)&&decide (s.f1≤68374079))
theorem tR (x0:GSpan):Does E 24 [.agg (GSpan.t x0)] [(false,[tB (ku x0)])]:=by
 exact Cs x0 _ (by unfold pB ku;cases decide (x0.f0≥0)<;>cases decide (x0.f0<x0.f1)<;>rfl)
noncomputable def qP (x0:GSpan):Option (Bool) :=
  cond (decide (x0.f0≥(0:Int)))
   (cond (decide (x0.f0<x0.f1))
    (some (decide (x0.f1≤(68374079:Int))))
    (some (false)))
   (some (false))
theorem DL (x0:GSpan):Ans (qP x0) (fun r=>Does E 26 [.agg (GSpan.t x0)] [(false,[tB r])]):=by
 unfold qP
 apply JJ<;>intro h0
 ·apply JJ<;>intro h1
  ·exact JG (DP Tryz.f26 [.b true,.b true] (AC h0<|AC h1<|AN))
  ·exact JG (DP Tryz.f26 [.b true,.b false] (AC h0<|AC h1<|AN))
 ·exact JG (DP Tryz.f26 [.b false] (AC h0<|AN))
theorem qu (x0:GSpan):Does E 26 [.agg (GSpan.t x0)] [(false,[tB (ku x0)])]:=by
 exact DL x0 _ (by unfold qP ku;cases decide (x0.f0≥0)<;>cases decide (x0.f0<x0.f1)<;>rfl)
noncomputable def nE (x0:GDag) (x1:GSpan):Option (GRun×Bool) :=
  if ak.sm x0 then cond (ky x0)
   (cond (ku x1)
    (if 0≤(x0.f5.length:Int)∧(x0.f5.length:Int)≤(x0.f5.length:Int)∧((32:Nat):Int)*(x0.f5.length:Int)≤281474976710656∧(x0.f5.length:Int)≤4611686018427387904 then some ((GRun.mk x0.f0 x1 (0:Int) (List.replicate (x0.f5.length:Int).toNat (GState.mk (0:Int) (0:Int) (0:Int) (0:Int)))),true) else none)
    (some ((GRun.mk ByteArray.empty (GSpan.mk (0:Int) (0:Int)) (0:Int) ([]:List GState)),false)))
   (some ((GRun.mk ByteArray.empty (GSpan.mk (0:Int) (0:Int)) (0:Int) ([]:List GState)),false)) else none
theorem Ef {q0:Kd} (x0:GDag) (x1:GSpan):Ans (nE x0 x1) (fun r=>Does E 7 [.agg (GDag.t .far q0 x0),.agg (GSpan.t x1)] [(true,GRun.t .own r.1),(false,[tB r.2])]):=by
 unfold nE
 refine JL (fun h0 => ?_)
 apply JJ<;>intro h1
 ·apply JJ<;>intro h2
  ·refine JL (fun h3 => ?_)
   exact JG (DP Tryz.f7 [rT,rT,.val (.int .i64 (x0.f5.length:Int)),.rows ((List.replicate (x0.f5.length:Int).toNat (GState.mk (0:Int) (0:Int) (0:Int) (0:Int))).map GState.t)] (AV (ψ:=fun k=>E.C k 23 [.agg (GDag.t .far q0 x0)]=some [(false,[tB true])]) (JM (rX x0 h0) (by rw [h1]))<|AD (JO (tR x1) h2)<|ALn x0.f5 (GTask.t q0)<|AC h3<|AC (p:=List.replicate (x0.f5.length:Int).toNat [tI (0:Int),tI (0:Int),tI (0:Int),tI (0:Int)]=(List.replicate (x0.f5.length:Int).toNat (GState.mk (0:Int) (0:Int) (0:Int) (0:Int))).map GState.t) (mR rfl)<|AN))
  ·exact JG (DP Tryz.f7 [rT,rF] (AV (ψ:=fun k=>E.C k 23 [.agg (GDag.t .far q0 x0)]=some [(false,[tB true])]) (JM (rX x0 h0) (by rw [h1]))<|AD (JO (tR x1) h2)<|AN))
 ·exact JG (DP Tryz.f7 [rF] (AV (ψ:=fun k=>E.C k 23 [.agg (GDag.t .far q0 x0)]=some [(false,[tB false])]) (JM (rX x0 h0) (by rw [h1]))<|AN))
noncomputable def nv (x0:GDag) (x1:GSpan):Option (GRun) :=
  if 0≤(x0.f5.length:Int)∧(x0.f5.length:Int)≤(x0.f5.length:Int)∧((32:Nat):Int)*(x0.f5.length:Int)≤281474976710656∧(x0.f5.length:Int)≤4611686018427387904 then some ((GRun.mk x0.f0 x1 (0:Int) (List.replicate (x0.f5.length:Int).toNat (GState.mk (0:Int) (0:Int) (0:Int) (0:Int))))) else none
theorem DK {q0:Kd} (x0:GDag) (x1:GSpan):Ans (nv x0 x1) (fun r=>Does E 28 [.agg (GDag.t .far q0 x0),.agg (GSpan.t x1)] [(true,GRun.t .own r)]):=by
 unfold nv
 refine JL (fun h0 => ?_)
 exact JG (DP Tryz.f28 [.val (.int .i64 (x0.f5.length:Int)),.rows ((List.replicate (x0.f5.length:Int).toNat (GState.mk (0:Int) (0:Int) (0:Int) (0:Int))).map GState.t)] (ALn x0.f5 (GTask.t q0)<|AC h0<|AC (p:=List.replicate (x0.f5.length:Int).toNat [tI (0:Int),tI (0:Int),tI (0:Int),tI (0:Int)]=(List.replicate (x0.f5.length:Int).toNat (GState.mk (0:Int) (0:Int) (0:Int) (0:Int))).map GState.t) (mR rfl)<|AN))
def mS (d:GDag) (s:GSpan):GRun:=⟨d.f0,s,0,List.replicate d.f5.length ⟨0,0,0,0⟩⟩
noncomputable def ac (d:GDag) (s:GSpan):GRun×Bool:=cond (ky d&&ku s) (mS d s,true) (⟨ByteArray.empty,⟨0,0⟩,0,[]⟩,false)
theorem Gy (d:GDag) (s:GSpan) (h:ak.sm d):nv d s=some (mS d s):=by
 have hl:d.f5.length≤1050000:=h.2.2.1
 unfold nv mS
 rw [if_pos (by omega),show ((d.f5.length:Int)).toNat=d.f5.length by omega]
theorem Gz (d:GDag) (s:GSpan) (h:ak.sm d):nE d s=some (ac d s):=by
 have hl:d.f5.length≤1050000:=h.2.2.1
 unfold nE ac mS
 rw [if_pos h,if_pos (by omega),show ((d.f5.length:Int)).toNat=d.f5.length by omega]
 cases ky d<;>cases ku s<;>rfl
theorem FI (d:GDag) (s:GSpan) (h:ak.sm d):ak.sm (ac d s).1:=by
 have hl:d.f5.length≤1050000:=h.2.2.1
 have hn:d.f0.size≤1050000:=h.1
 unfold ac
 cases ky d&&ku s
 ·exact ⟨(by decide:(ByteArray.empty).size≤1050000),trivial,⟨by simp,fun y hy=>by cases hy⟩⟩
 ·exact ⟨hn,trivial,⟨by show (List.replicate d.f5.length _).length≤_;rw [List.length_replicate];exact hl,fun y _=>trivial⟩⟩
theorem ib {q0:Kd} (x0:GDag) (x1:GSpan) (h:ak.sm x0):Does E 7 [.agg (GDag.t .far q0 x0),.agg (GSpan.t x1)] [(true,GRun.t .own ((ac x0 x1).1)),(false,[tB ((ac x0 x1).2)])]:=by
 exact Ef x0 x1 _ (Gz x0 x1 h)
theorem C4 {q0:Kd} (x0:GDag) (x1:GSpan) (h:ak.sm x0):Does E 28 [.agg (GDag.t .far q0 x0),.agg (GSpan.t x1)] [(true,GRun.t .own (mS x0 x1))]:=by
 exact DK x0 x1 _ (Gy x0 x1 h)
noncomputable def qN (x0:GDag) (x1:GSpan):Option (GRun×Bool) :=
  cond (ku x1)
   (if ak.sm x0 then cond (ky x0)
    (some ((mS x0 x1),true))
    (some ((GRun.mk ByteArray.empty (GSpan.mk (0:Int) (0:Int)) (0:Int) ([]:List GState)),false)) else none)
   (some ((GRun.mk ByteArray.empty (GSpan.mk (0:Int) (0:Int)) (0:Int) ([]:List GState)),false))
theorem DG {q0:Kd} (x0:GDag) (x1:GSpan):Ans (qN x0 x1) (fun r=>Does E 10 [.agg (GDag.t .far q0 x0),.agg (GSpan.t x1)] [(true,GRun.t .own r.1),(false,[tB r.2])]):=by
 unfold qN
 apply JJ<;>intro h0
 ·refine JL (fun h1 => ?_)
  apply JJ<;>intro h2
  ·exact JG (DP Tryz.f10 [rT,rT,.ret [(true,GRun.t .own (mS x0 x1))]] (AD (JO (qu x1) h0)<|AV (ψ:=fun k=>E.C k 27 [.agg (GDag.t .far q0 x0)]=some [(false,[tB true])]) (JM (xw x0 h1) (by rw [h2]))<|AV (ψ:=fun k=>E.C k 28 [.agg (GDag.t .far q0 x0),.agg (GSpan.t x1)]=some [(true,GRun.t .own (mS x0 x1))]) (C4 x0 x1 h1)<|AN))
  ·exact JG (DP Tryz.f10 [rT,rF] (AD (JO (qu x1) h0)<|AV (ψ:=fun k=>E.C k 27 [.agg (GDag.t .far q0 x0)]=some [(false,[tB false])]) (JM (xw x0 h1) (by rw [h2]))<|AN))
 ·exact JG (DP Tryz.f10 [rF] (AD (JO (qu x1) h0)<|AN))
theorem gj {q0:Kd} (x0:GDag) (x1:GSpan) (h:ak.sm x0):Does E 10 [.agg (GDag.t .far q0 x0),.agg (GSpan.t x1)] [(true,GRun.t .own ((ac x0 x1).1)),(false,[tB ((ac x0 x1).2)])]:=by
 exact DG x0 x1 _ (by
  unfold qN ac
  simp only [if_pos h]
  cases ky x0<;>cases ku x1<;>rfl)
end Go.Proofs.YtgaiiephdjllkaaGreatDoor.Am
