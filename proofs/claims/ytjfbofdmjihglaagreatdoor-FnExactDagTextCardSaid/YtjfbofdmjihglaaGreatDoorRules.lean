/- Rules. -/
import Derived.Test.YtjfbofdmjihglaaGreatDoorWords
namespace Go.Proofs.YtjfbofdmjihglaaGreatDoor.Am
open Go Go.Proofs Classical
set_option maxRecDepth 100000
set_option linter.unusedVariables false
set_option linter.unusedSimpArgs false
inductive oW where
 | ret (v2_0 v2_1 v2_2 v2_3 v2_4:List Int) (v3:Bool)
 | x0 
def eV (v2_0 v2_1 v2_2 v2_3 v2_4 v6_0 v6_1 v6_2 v6_3 v6_4:List Int) (v7:List Bool) (v8:Int):US:=stL 85 [(2,.box () [.s .own () 1 (v2_0.map etI),.s .own () 1 (v2_1.map etI),.s .own () 1 (v2_2.map etI),.s .own () 1 (v2_3.map etI),.s .own () 1 (v2_4.map etI)]),(6,.box () [.s .own () 1 (v6_0.map etI),.s .own () 1 (v6_1.map etI),.s .own () 1 (v6_2.map etI),.s .own () 1 (v6_3.map etI),.s .own () 1 (v6_4.map etI)]),(7,.one (.s .own () 1 (v7.map etB))),(8,.one (tI v8))]
def jp (zv2_0 zv2_1 zv2_2 zv2_3 zv2_4:List Int) (zv3:Bool):US:=stL 85 [(2,.box () [.s .own () 1 (zv2_0.map etI),.s .own () 1 (zv2_1.map etI),.s .own () 1 (zv2_2.map etI),.s .own () 1 (zv2_3.map etI),.s .own () 1 (zv2_4.map etI)]),(3,.one (tB zv3))]
def jY (v2_0 v2_1 v2_2 v2_3 v2_4 v6_0 v6_1 v6_2 v6_3 v6_4:List Int):US:=stL 85 [(2,.box () [.s .own () 1 (v2_0.map etI),.s .own () 1 (v2_1.map etI),.s .own () 1 (v2_2.map etI),.s .own () 1 (v2_3.map etI),.s .own () 1 (v2_4.map etI)]),(6,.box () [.s .own () 1 (v6_0.map etI),.s .own () 1 (v6_1.map etI),.s .own () 1 (v6_2.map etI),.s .own () 1 (v6_3.map etI),.s .own () 1 (v6_4.map etI)])]
abbrev lB:US→Exit→US→Prop:=Round E 55 (au Tryz.f55 0)
def vq (v2_0 v2_1 v2_2 v2_3 v2_4 v6_0 v6_1 v6_2 v6_3 v6_4:List Int) (v7:List Bool) (v8:Int):oW→Prop
 | .ret zv2_0 zv2_1 zv2_2 zv2_3 zv2_4 zv3=>Loops E 55 (au Tryz.f55 0) (eV v2_0 v2_1 v2_2 v2_3 v2_4 v6_0 v6_1 v6_2 v6_3 v6_4 v7 v8) .ret (jp zv2_0 zv2_1 zv2_2 zv2_3 zv2_4 zv3)
 | .x0=>Loops E 55 (au Tryz.f55 0) (eV v2_0 v2_1 v2_2 v2_3 v2_4 v6_0 v6_1 v6_2 v6_3 v6_4 v7 v8) (.exit 0) (jY v2_0 v2_1 v2_2 v2_3 v2_4 v6_0 v6_1 v6_2 v6_3 v6_4)
noncomputable def eW (v7:List Bool):Nat→Int→Option oW
 | 0,_=>none
 | n+1,v8=>cond (decide (v8<(5:Int)))
  ((aL v7 v8).bind fun g0=>cond (g0)
   (eW v7 n (inc v8))
   (some (.ret ([]) ([]) ([]) ([]) ([]) false)))
  (some (.x0))
theorem vp (v2_0 v2_1 v2_2 v2_3 v2_4 v6_0 v6_1 v6_2 v6_3 v6_4:List Int) (v7:List Bool) (n:Nat):∀ (v8:Int),Ans (eW v7 n v8) (vq v2_0 v2_1 v2_2 v2_3 v2_4 v6_0 v6_1 v6_2 v6_3 v6_4 v7 v8):=by
 induction n with
 | zero=>intros;exact Ans.none
 | succ n ih =>
  intro v8
  unfold eW
  apply Ie<;>intro h0
  ·refine If (fun g0 h1 => ?_)
   apply Ie<;>intro h2
   ·have r:lB (eV v2_0 v2_1 v2_2 v2_3 v2_4 v6_0 v6_1 v6_2 v6_3 v6_4 v7 v8) .normal (eV v2_0 v2_1 v2_2 v2_3 v2_4 v6_0 v6_1 v6_2 v6_3 v6_4 v7 (inc v8)):=RP [.b true,.row ([tB true])] (AC h0<|AC (p:=0≤v8∧v8<((v7.map etB).length:Int)) (t8 h1)<|AC (p:=(v7.map etB)[0+v8.toNat]?=some ([tB true])) ((oH h1).trans (congrArg some (show [tB g0]=[tB true] by rw [h2])))<|AN);exact (ih (inc v8)).mono fun y hy=>by cases y<;>exact Ic r hy
   ·exact Ib (Id (show lB (eV v2_0 v2_1 v2_2 v2_3 v2_4 v6_0 v6_1 v6_2 v6_3 v6_4 v7 v8) .ret (jp ([]) ([]) ([]) ([]) ([]) false) from RP [.b true,.row ([tB false])] (AC h0<|AC (p:=0≤v8∧v8<((v7.map etB).length:Int)) (t8 h1)<|AC (p:=(v7.map etB)[0+v8.toNat]?=some ([tB false])) ((oH h1).trans (congrArg some (show [tB g0]=[tB false] by rw [h2])))<|AN)) (by intro h;cases h))
  ·exact Ib (Id (show lB (eV v2_0 v2_1 v2_2 v2_3 v2_4 v6_0 v6_1 v6_2 v6_3 v6_4 v7 v8) (.exit 0) (jY v2_0 v2_1 v2_2 v2_3 v2_4 v6_0 v6_1 v6_2 v6_3 v6_4) from RP [.b false] (AC h0<|AN)) (by intro h;cases h))
noncomputable def jL (x0:ByteArray):Option (GCron×Bool) :=
  cond ((aA x0).2)
   (cond ((((aA x0).1).length:Int) != (5:Int))
    (some ((GCron.mk ([]:List Int) ([]:List Int) ([]:List Int) ([]:List Int) ([]:List Int)),false))
    (if 0≤(5:Int)∧(5:Int)≤(5:Int)∧((1:Nat):Int)*(5:Int)≤281474976710656∧(5:Int)≤4611686018427387904 then (aL ((aA x0).1) (0:Int)).bind fun g0=>if g0.size≤2000000 then if 0≤(0:Int)∧(0:Int)≤(59:Int)∧(59:Int)≤59 then (aL (List.replicate (5:Int).toNat false) (0:Int)).bind fun g1=>(aL ((aA x0).1) (1:Int)).bind fun g2=>if g2.size≤2000000 then if 0≤(0:Int)∧(0:Int)≤(23:Int)∧(23:Int)≤59 then (aL ((List.replicate (5:Int).toNat false).set (0:Int).toNat ((ab g0 (0:Int) (59:Int)).2)) (1:Int)).bind fun g3=>(aL ((aA x0).1) (2:Int)).bind fun g4=>if g4.size≤2000000 then if 0≤(1:Int)∧(1:Int)≤(31:Int)∧(31:Int)≤59 then (aL (((List.replicate (5:Int).toNat false).set (0:Int).toNat ((ab g0 (0:Int) (59:Int)).2)).set (1:Int).toNat ((ab g2 (0:Int) (23:Int)).2)) (2:Int)).bind fun g5=>(aL ((aA x0).1) (3:Int)).bind fun g6=>if g6.size≤2000000 then if 0≤(1:Int)∧(1:Int)≤(12:Int)∧(12:Int)≤59 then (aL ((((List.replicate (5:Int).toNat false).set (0:Int).toNat ((ab g0 (0:Int) (59:Int)).2)).set (1:Int).toNat ((ab g2 (0:Int) (23:Int)).2)).set (2:Int).toNat ((ab g4 (1:Int) (31:Int)).2)) (3:Int)).bind fun g7=>(aL ((aA x0).1) (4:Int)).bind fun g8=>if g8.size≤2000000 then if 0≤(0:Int)∧(0:Int)≤(6:Int)∧(6:Int)≤59 then (aL (((((List.replicate (5:Int).toNat false).set (0:Int).toNat ((ab g0 (0:Int) (59:Int)).2)).set (1:Int).toNat ((ab g2 (0:Int) (23:Int)).2)).set (2:Int).toNat ((ab g4 (1:Int) (31:Int)).2)).set (3:Int).toNat ((ab g6 (1:Int) (12:Int)).2)) (4:Int)).bind fun g9=>(eW ((((((List.replicate (5:Int).toNat false).set (0:Int).toNat ((ab g0 (0:Int) (59:Int)).2)).set (1:Int).toNat ((ab g2 (0:Int) (23:Int)).2)).set (2:Int).toNat ((ab g4 (1:Int) (31:Int)).2)).set (3:Int).toNat ((ab g6 (1:Int) (12:Int)).2)).set (4:Int).toNat ((ab g8 (0:Int) (6:Int)).2)) 9223372036854775808 (0:Int)).bind fun y=>match y with
     | .ret w0_2_0 w0_2_1 w0_2_2 w0_2_3 w0_2_4 w0_3=>(some ((GCron.mk w0_2_0 w0_2_1 w0_2_2 w0_2_3 w0_2_4),w0_3))
     | .x0=>(some ((GCron.mk ((ab g0 (0:Int) (59:Int)).1) ((ab g2 (0:Int) (23:Int)).1) ((ab g4 (1:Int) (31:Int)).1) ((ab g6 (1:Int) (12:Int)).1) ((ab g8 (0:Int) (6:Int)).1)),true)) else none else none else none else none else none else none else none else none else none else none else none))
   (some ((GCron.mk ([]:List Int) ([]:List Int) ([]:List Int) ([]:List Int) ([]:List Int)),false))
theorem wK (x0:ByteArray):Ans (jL x0) (fun r=>Does E 55 [.one (tS x0)] [(true,GCron.t .own r.1),(false,[tB r.2])]):=by
 unfold jL
 apply Ie<;>intro h0
 ·apply Ie<;>intro h1
  ·exact Ib (DP Tryz.f55 [.ret [(false,[.s .own () 1 (((aA x0).1).map etS)]),(false,[tB true])],.val (.int .i64 (((aA x0).1).length:Int)),.b true] (AD (jD x0 h0)<|ALn ((aA x0).1) etS<|AC h1<|AN))
  ·refine Ig (fun h2 => ?_)
   refine If (fun g0 h3 => ?_)
   refine Ig (fun h4 => ?_)
   refine Ig (fun h5 => ?_)
   refine If (fun g1 h6 => ?_)
   refine If (fun g2 h7 => ?_)
   refine Ig (fun h8 => ?_)
   refine Ig (fun h9 => ?_)
   refine If (fun g3 h10 => ?_)
   refine If (fun g4 h11 => ?_)
   refine Ig (fun h12 => ?_)
   refine Ig (fun h13 => ?_)
   refine If (fun g5 h14 => ?_)
   refine If (fun g6 h15 => ?_)
   refine Ig (fun h16 => ?_)
   refine Ig (fun h17 => ?_)
   refine If (fun g7 h18 => ?_)
   refine If (fun g8 h19 => ?_)
   refine Ig (fun h20 => ?_)
   refine Ig (fun h21 => ?_)
   refine If (fun g9 h22 => ?_)
   refine If (fun y hy => ?_)
   replace hy:=vp ([]) ([]) ([]) ([]) ([]) ((ab g0 (0:Int) (59:Int)).1) ((ab g2 (0:Int) (23:Int)).1) ((ab g4 (1:Int) (31:Int)).1) ((ab g6 (1:Int) (12:Int)).1) ((ab g8 (0:Int) (6:Int)).1) ((((((List.replicate (5:Int).toNat false).set (0:Int).toNat ((ab g0 (0:Int) (59:Int)).2)).set (1:Int).toNat ((ab g2 (0:Int) (23:Int)).2)).set (2:Int).toNat ((ab g4 (1:Int) (31:Int)).2)).set (3:Int).toNat ((ab g6 (1:Int) (12:Int)).2)).set (4:Int).toNat ((ab g8 (0:Int) (6:Int)).2)) 9223372036854775808 (0:Int) y hy
   cases y with
   | ret w0_2_0 w0_2_1 w0_2_2 w0_2_3 w0_2_4 w0_3 =>
    have h23:=hy
    exact Ib (DP Tryz.f55 [.ret [(false,[.s .own () 1 (((aA x0).1).map etS)]),(false,[tB true])],.val (.int .i64 (((aA x0).1).length:Int)),.b false,.rows ((List.replicate (5:Int).toNat false).map etB),.row (etS g0),.ret [(false,[.s .own () 1 (((ab g0 (0:Int) (59:Int)).1).map etI)]),(false,[tB ((ab g0 (0:Int) (59:Int)).2)])],.row (etB g1),.rows (((List.replicate (5:Int).toNat false).set (0:Int).toNat ((ab g0 (0:Int) (59:Int)).2)).map etB),.row (etS g2),.ret [(false,[.s .own () 1 (((ab g2 (0:Int) (23:Int)).1).map etI)]),(false,[tB ((ab g2 (0:Int) (23:Int)).2)])],.row (etB g3),.rows ((((List.replicate (5:Int).toNat false).set (0:Int).toNat ((ab g0 (0:Int) (59:Int)).2)).set (1:Int).toNat ((ab g2 (0:Int) (23:Int)).2)).map etB),.row (etS g4),.ret [(false,[.s .own () 1 (((ab g4 (1:Int) (31:Int)).1).map etI)]),(false,[tB ((ab g4 (1:Int) (31:Int)).2)])],.row (etB g5),.rows (((((List.replicate (5:Int).toNat false).set (0:Int).toNat ((ab g0 (0:Int) (59:Int)).2)).set (1:Int).toNat ((ab g2 (0:Int) (23:Int)).2)).set (2:Int).toNat ((ab g4 (1:Int) (31:Int)).2)).map etB),.row (etS g6),.ret [(false,[.s .own () 1 (((ab g6 (1:Int) (12:Int)).1).map etI)]),(false,[tB ((ab g6 (1:Int) (12:Int)).2)])],.row (etB g7),.rows ((((((List.replicate (5:Int).toNat false).set (0:Int).toNat ((ab g0 (0:Int) (59:Int)).2)).set (1:Int).toNat ((ab g2 (0:Int) (23:Int)).2)).set (2:Int).toNat ((ab g4 (1:Int) (31:Int)).2)).set (3:Int).toNat ((ab g6 (1:Int) (12:Int)).2)).map etB),.row (etS g8),.ret [(false,[.s .own () 1 (((ab g8 (0:Int) (6:Int)).1).map etI)]),(false,[tB ((ab g8 (0:Int) (6:Int)).2)])],.row (etB g9),.rows (((((((List.replicate (5:Int).toNat false).set (0:Int).toNat ((ab g0 (0:Int) (59:Int)).2)).set (1:Int).toNat ((ab g2 (0:Int) (23:Int)).2)).set (2:Int).toNat ((ab g4 (1:Int) (31:Int)).2)).set (3:Int).toNat ((ab g6 (1:Int) (12:Int)).2)).set (4:Int).toNat ((ab g8 (0:Int) (6:Int)).2)).map etB),.lp .ret (jp w0_2_0 w0_2_1 w0_2_2 w0_2_3 w0_2_4 w0_3)] (AD (jD x0 h0)<|ALn ((aA x0).1) etS<|AC h1<|AC h2<|AC (p:=List.replicate (5:Int).toNat [tB false]=(List.replicate (5:Int).toNat false).map etB) (oU rfl)<|AG etS h3<|AD (cZ g0 (0:Int) (59:Int) h4 h5)<|AG etB h6<|AC (p:=((List.replicate (5:Int).toNat false).map etB).set (0+(0:Int).toNat) (ar (etB g1) 0 [tB ((ab g0 (0:Int) (59:Int)).2)])=((List.replicate (5:Int).toNat false).set (0:Int).toNat ((ab g0 (0:Int) (59:Int)).2)).map etB) (ge (by rfl))<|AG etS h7<|AD (cZ g2 (0:Int) (23:Int) h8 h9)<|AG etB h10<|AC (p:=(((List.replicate (5:Int).toNat false).set (0:Int).toNat ((ab g0 (0:Int) (59:Int)).2)).map etB).set (0+(1:Int).toNat) (ar (etB g3) 0 [tB ((ab g2 (0:Int) (23:Int)).2)])=(((List.replicate (5:Int).toNat false).set (0:Int).toNat ((ab g0 (0:Int) (59:Int)).2)).set (1:Int).toNat ((ab g2 (0:Int) (23:Int)).2)).map etB) (ge (by rfl))<|AG etS h11<|AD (cZ g4 (1:Int) (31:Int) h12 h13)<|AG etB h14<|AC (p:=((((List.replicate (5:Int).toNat false).set (0:Int).toNat ((ab g0 (0:Int) (59:Int)).2)).set (1:Int).toNat ((ab g2 (0:Int) (23:Int)).2)).map etB).set (0+(2:Int).toNat) (ar (etB g5) 0 [tB ((ab g4 (1:Int) (31:Int)).2)])=((((List.replicate (5:Int).toNat false).set (0:Int).toNat ((ab g0 (0:Int) (59:Int)).2)).set (1:Int).toNat ((ab g2 (0:Int) (23:Int)).2)).set (2:Int).toNat ((ab g4 (1:Int) (31:Int)).2)).map etB) (ge (by rfl))<|AG etS h15<|AD (cZ g6 (1:Int) (12:Int) h16 h17)<|AG etB h18<|AC (p:=(((((List.replicate (5:Int).toNat false).set (0:Int).toNat ((ab g0 (0:Int) (59:Int)).2)).set (1:Int).toNat ((ab g2 (0:Int) (23:Int)).2)).set (2:Int).toNat ((ab g4 (1:Int) (31:Int)).2)).map etB).set (0+(3:Int).toNat) (ar (etB g7) 0 [tB ((ab g6 (1:Int) (12:Int)).2)])=(((((List.replicate (5:Int).toNat false).set (0:Int).toNat ((ab g0 (0:Int) (59:Int)).2)).set (1:Int).toNat ((ab g2 (0:Int) (23:Int)).2)).set (2:Int).toNat ((ab g4 (1:Int) (31:Int)).2)).set (3:Int).toNat ((ab g6 (1:Int) (12:Int)).2)).map etB) (ge (by rfl))<|AG etS h19<|AD (cZ g8 (0:Int) (6:Int) h20 h21)<|AG etB h22<|AC (p:=((((((List.replicate (5:Int).toNat false).set (0:Int).toNat ((ab g0 (0:Int) (59:Int)).2)).set (1:Int).toNat ((ab g2 (0:Int) (23:Int)).2)).set (2:Int).toNat ((ab g4 (1:Int) (31:Int)).2)).set (3:Int).toNat ((ab g6 (1:Int) (12:Int)).2)).map etB).set (0+(4:Int).toNat) (ar (etB g9) 0 [tB ((ab g8 (0:Int) (6:Int)).2)])=((((((List.replicate (5:Int).toNat false).set (0:Int).toNat ((ab g0 (0:Int) (59:Int)).2)).set (1:Int).toNat ((ab g2 (0:Int) (23:Int)).2)).set (2:Int).toNat ((ab g4 (1:Int) (31:Int)).2)).set (3:Int).toNat ((ab g6 (1:Int) (12:Int)).2)).set (4:Int).toNat ((ab g8 (0:Int) (6:Int)).2)).map etB) (ge (by rfl))<|AL h23<|AN))
   | x0 =>
    have h23:=hy
    exact Ib (DP Tryz.f55 [.ret [(false,[.s .own () 1 (((aA x0).1).map etS)]),(false,[tB true])],.val (.int .i64 (((aA x0).1).length:Int)),.b false,.rows ((List.replicate (5:Int).toNat false).map etB),.row (etS g0),.ret [(false,[.s .own () 1 (((ab g0 (0:Int) (59:Int)).1).map etI)]),(false,[tB ((ab g0 (0:Int) (59:Int)).2)])],.row (etB g1),.rows (((List.replicate (5:Int).toNat false).set (0:Int).toNat ((ab g0 (0:Int) (59:Int)).2)).map etB),.row (etS g2),.ret [(false,[.s .own () 1 (((ab g2 (0:Int) (23:Int)).1).map etI)]),(false,[tB ((ab g2 (0:Int) (23:Int)).2)])],.row (etB g3),.rows ((((List.replicate (5:Int).toNat false).set (0:Int).toNat ((ab g0 (0:Int) (59:Int)).2)).set (1:Int).toNat ((ab g2 (0:Int) (23:Int)).2)).map etB),.row (etS g4),.ret [(false,[.s .own () 1 (((ab g4 (1:Int) (31:Int)).1).map etI)]),(false,[tB ((ab g4 (1:Int) (31:Int)).2)])],.row (etB g5),.rows (((((List.replicate (5:Int).toNat false).set (0:Int).toNat ((ab g0 (0:Int) (59:Int)).2)).set (1:Int).toNat ((ab g2 (0:Int) (23:Int)).2)).set (2:Int).toNat ((ab g4 (1:Int) (31:Int)).2)).map etB),.row (etS g6),.ret [(false,[.s .own () 1 (((ab g6 (1:Int) (12:Int)).1).map etI)]),(false,[tB ((ab g6 (1:Int) (12:Int)).2)])],.row (etB g7),.rows ((((((List.replicate (5:Int).toNat false).set (0:Int).toNat ((ab g0 (0:Int) (59:Int)).2)).set (1:Int).toNat ((ab g2 (0:Int) (23:Int)).2)).set (2:Int).toNat ((ab g4 (1:Int) (31:Int)).2)).set (3:Int).toNat ((ab g6 (1:Int) (12:Int)).2)).map etB),.row (etS g8),.ret [(false,[.s .own () 1 (((ab g8 (0:Int) (6:Int)).1).map etI)]),(false,[tB ((ab g8 (0:Int) (6:Int)).2)])],.row (etB g9),.rows (((((((List.replicate (5:Int).toNat false).set (0:Int).toNat ((ab g0 (0:Int) (59:Int)).2)).set (1:Int).toNat ((ab g2 (0:Int) (23:Int)).2)).set (2:Int).toNat ((ab g4 (1:Int) (31:Int)).2)).set (3:Int).toNat ((ab g6 (1:Int) (12:Int)).2)).set (4:Int).toNat ((ab g8 (0:Int) (6:Int)).2)).map etB),.lp (.exit 0) (jY ([]) ([]) ([]) ([]) ([]) ((ab g0 (0:Int) (59:Int)).1) ((ab g2 (0:Int) (23:Int)).1) ((ab g4 (1:Int) (31:Int)).1) ((ab g6 (1:Int) (12:Int)).1) ((ab g8 (0:Int) (6:Int)).1))] (AD (jD x0 h0)<|ALn ((aA x0).1) etS<|AC h1<|AC h2<|AC (p:=List.replicate (5:Int).toNat [tB false]=(List.replicate (5:Int).toNat false).map etB) (oU rfl)<|AG etS h3<|AD (cZ g0 (0:Int) (59:Int) h4 h5)<|AG etB h6<|AC (p:=((List.replicate (5:Int).toNat false).map etB).set (0+(0:Int).toNat) (ar (etB g1) 0 [tB ((ab g0 (0:Int) (59:Int)).2)])=((List.replicate (5:Int).toNat false).set (0:Int).toNat ((ab g0 (0:Int) (59:Int)).2)).map etB) (ge (by rfl))<|AG etS h7<|AD (cZ g2 (0:Int) (23:Int) h8 h9)<|AG etB h10<|AC (p:=(((List.replicate (5:Int).toNat false).set (0:Int).toNat ((ab g0 (0:Int) (59:Int)).2)).map etB).set (0+(1:Int).toNat) (ar (etB g3) 0 [tB ((ab g2 (0:Int) (23:Int)).2)])=(((List.replicate (5:Int).toNat false).set (0:Int).toNat ((ab g0 (0:Int) (59:Int)).2)).set (1:Int).toNat ((ab g2 (0:Int) (23:Int)).2)).map etB) (ge (by rfl))<|AG etS h11<|AD (cZ g4 (1:Int) (31:Int) h12 h13)<|AG etB h14<|AC (p:=((((List.replicate (5:Int).toNat false).set (0:Int).toNat ((ab g0 (0:Int) (59:Int)).2)).set (1:Int).toNat ((ab g2 (0:Int) (23:Int)).2)).map etB).set (0+(2:Int).toNat) (ar (etB g5) 0 [tB ((ab g4 (1:Int) (31:Int)).2)])=((((List.replicate (5:Int).toNat false).set (0:Int).toNat ((ab g0 (0:Int) (59:Int)).2)).set (1:Int).toNat ((ab g2 (0:Int) (23:Int)).2)).set (2:Int).toNat ((ab g4 (1:Int) (31:Int)).2)).map etB) (ge (by rfl))<|AG etS h15<|AD (cZ g6 (1:Int) (12:Int) h16 h17)<|AG etB h18<|AC (p:=(((((List.replicate (5:Int).toNat false).set (0:Int).toNat ((ab g0 (0:Int) (59:Int)).2)).set (1:Int).toNat ((ab g2 (0:Int) (23:Int)).2)).set (2:Int).toNat ((ab g4 (1:Int) (31:Int)).2)).map etB).set (0+(3:Int).toNat) (ar (etB g7) 0 [tB ((ab g6 (1:Int) (12:Int)).2)])=(((((List.replicate (5:Int).toNat false).set (0:Int).toNat ((ab g0 (0:Int) (59:Int)).2)).set (1:Int).toNat ((ab g2 (0:Int) (23:Int)).2)).set (2:Int).toNat ((ab g4 (1:Int) (31:Int)).2)).set (3:Int).toNat ((ab g6 (1:Int) (12:Int)).2)).map etB) (ge (by rfl))<|AG etS h19<|AD (cZ g8 (0:Int) (6:Int) h20 h21)<|AG etB h22<|AC (p:=((((((List.replicate (5:Int).toNat false).set (0:Int).toNat ((ab g0 (0:Int) (59:Int)).2)).set (1:Int).toNat ((ab g2 (0:Int) (23:Int)).2)).set (2:Int).toNat ((ab g4 (1:Int) (31:Int)).2)).set (3:Int).toNat ((ab g6 (1:Int) (12:Int)).2)).map etB).set (0+(4:Int).toNat) (ar (etB g9) 0 [tB ((ab g8 (0:Int) (6:Int)).2)])=((((((List.replicate (5:Int).toNat false).set (0:Int).toNat ((ab g0 (0:Int) (59:Int)).2)).set (1:Int).toNat ((ab g2 (0:Int) (23:Int)).2)).set (2:Int).toNat ((ab g4 (1:Int) (31:Int)).2)).set (3:Int).toNat ((ab g6 (1:Int) (12:Int)).2)).set (4:Int).toNat ((ab g8 (0:Int) (6:Int)).2)).map etB) (ge (by rfl))<|AL h23<|AN))
 ·exact Ib (DP Tryz.f55 [.ret [(false,[.s .own () 1 (((aA x0).1).map etS)]),(false,[tB false])]] (AD (jD x0 h0)<|AN))
inductive oL where
 | ret (v2_0 v2_1 v2_2 v2_3 v2_4:List Int) (v3:Bool)
 | x0 (v6_0 v6_1 v6_2 v6_3 v6_4:List Int)
def aV (v2_0 v2_1 v2_2 v2_3 v2_4:List Int) (v4:List ByteArray) (v6_0 v6_1 v6_2 v6_3 v6_4:List Int) (v25:Int):US:=stL 46 [(2,.box () [.s .own () 1 (v2_0.map etI),.s .own () 1 (v2_1.map etI),.s .own () 1 (v2_2.map etI),.s .own () 1 (v2_3.map etI),.s .own () 1 (v2_4.map etI)]),(4,.one (.s .own () 1 (v4.map etS))),(6,.box () [.s .own () 1 (v6_0.map etI),.s .own () 1 (v6_1.map etI),.s .own () 1 (v6_2.map etI),.s .own () 1 (v6_3.map etI),.s .own () 1 (v6_4.map etI)]),(24,.clo (.arr [0,1,2,3,4]) [6,6,6,6,6]),(25,.one (tI v25))]
def cO (zv2_0 zv2_1 zv2_2 zv2_3 zv2_4:List Int) (zv3:Bool):US:=stL 46 [(2,.box () [.s .own () 1 (zv2_0.map etI),.s .own () 1 (zv2_1.map etI),.s .own () 1 (zv2_2.map etI),.s .own () 1 (zv2_3.map etI),.s .own () 1 (zv2_4.map etI)]),(3,.one (tB zv3))]
def jU (v2_0 v2_1 v2_2 v2_3 v2_4 zv6_0 zv6_1 zv6_2 zv6_3 zv6_4:List Int):US:=stL 46 [(2,.box () [.s .own () 1 (v2_0.map etI),.s .own () 1 (v2_1.map etI),.s .own () 1 (v2_2.map etI),.s .own () 1 (v2_3.map etI),.s .own () 1 (v2_4.map etI)]),(6,.box () [.s .own () 1 (zv6_0.map etI),.s .own () 1 (zv6_1.map etI),.s .own () 1 (zv6_2.map etI),.s .own () 1 (zv6_3.map etI),.s .own () 1 (zv6_4.map etI)])]
abbrev b6:US→Exit→US→Prop:=Round E 68 (au Tryz.f68 0)
def u9 (v2_0 v2_1 v2_2 v2_3 v2_4:List Int) (v4:List ByteArray) (v6_0 v6_1 v6_2 v6_3 v6_4:List Int) (v25:Int):oL→Prop
 | .ret zv2_0 zv2_1 zv2_2 zv2_3 zv2_4 zv3=>Loops E 68 (au Tryz.f68 0) (aV v2_0 v2_1 v2_2 v2_3 v2_4 v4 v6_0 v6_1 v6_2 v6_3 v6_4 v25) .ret (cO zv2_0 zv2_1 zv2_2 zv2_3 zv2_4 zv3)
 | .x0 zv6_0 zv6_1 zv6_2 zv6_3 zv6_4=>Loops E 68 (au Tryz.f68 0) (aV v2_0 v2_1 v2_2 v2_3 v2_4 v4 v6_0 v6_1 v6_2 v6_3 v6_4 v25) (.exit 0) (jU v2_0 v2_1 v2_2 v2_3 v2_4 zv6_0 zv6_1 zv6_2 zv6_3 zv6_4)
noncomputable def aC (v4:List ByteArray):Nat→(List Int)→(List Int)→(List Int)→(List Int)→(List Int)→Int→Option oL
 | 0,_,_,_,_,_,_=>none
 | n+1,v6_0,v6_1,v6_2,v6_3,v6_4,v25=>cond (decide (v25<(5:Int)))
  (cond (v25==(0:Int))
   ((aL v4 v25).bind fun g0=>if g0.size≤2000000 then cond ((aE g0 v25).2)
    (aC v4 n ((aE g0 v25).1) v6_1 v6_2 v6_3 v6_4 (inc v25))
    (some (.ret ([]) ([]) ([]) ([]) ([]) false)) else none)
   (cond (v25==(1:Int))
    ((aL v4 v25).bind fun g0=>if g0.size≤2000000 then cond ((aE g0 v25).2)
     (aC v4 n v6_0 ((aE g0 v25).1) v6_2 v6_3 v6_4 (inc v25))
     (some (.ret ([]) ([]) ([]) ([]) ([]) false)) else none)
    (cond (v25==(2:Int))
     ((aL v4 v25).bind fun g0=>if g0.size≤2000000 then cond ((aE g0 v25).2)
      (aC v4 n v6_0 v6_1 ((aE g0 v25).1) v6_3 v6_4 (inc v25))
      (some (.ret ([]) ([]) ([]) ([]) ([]) false)) else none)
     (cond (v25==(3:Int))
      ((aL v4 v25).bind fun g0=>if g0.size≤2000000 then cond ((aE g0 v25).2)
       (aC v4 n v6_0 v6_1 v6_2 ((aE g0 v25).1) v6_4 (inc v25))
       (some (.ret ([]) ([]) ([]) ([]) ([]) false)) else none)
      (if v25=(4:Int) then (aL v4 v25).bind fun g0=>if g0.size≤2000000 then cond ((aE g0 v25).2)
       (aC v4 n v6_0 v6_1 v6_2 v6_3 ((aE g0 v25).1) (inc v25))
       (some (.ret ([]) ([]) ([]) ([]) ([]) false)) else none else none)))))
  (some (.x0 v6_0 v6_1 v6_2 v6_3 v6_4))
theorem u7 (v2_0 v2_1 v2_2 v2_3 v2_4:List Int) (v4:List ByteArray) (n:Nat):∀ (v6_0 v6_1 v6_2 v6_3 v6_4:List Int) (v25:Int),Ans (aC v4 n v6_0 v6_1 v6_2 v6_3 v6_4 v25) (u9 v2_0 v2_1 v2_2 v2_3 v2_4 v4 v6_0 v6_1 v6_2 v6_3 v6_4 v25):=by
 induction n with
 | zero=>intros;exact Ans.none
 | succ n ih =>
  intro v6_0 v6_1 v6_2 v6_3 v6_4 v25
  unfold aC
  apply Ie<;>intro h0
  ·apply Ie<;>intro h1
   ·refine If (fun g0 h2 => ?_)
    refine Ig (fun h3 => ?_)
    apply Ie<;>intro h4
    ·have r:b6 (aV v2_0 v2_1 v2_2 v2_3 v2_4 v4 v6_0 v6_1 v6_2 v6_3 v6_4 v25) .normal (aV v2_0 v2_1 v2_2 v2_3 v2_4 v4 ((aE g0 v25).1) v6_1 v6_2 v6_3 v6_4 (inc v25)):=RP [.b true,.val (.int .i64 0),.row (etS g0),.ret [(false,[.s .own () 1 (((aE g0 v25).1).map etI)]),(false,[tB true])]] (AC h0<|AC (p:=v25=(0:Int)) (eq_of_beq h1)<|AG etS h2<|AD (bJ g0 v25 h3 h4)<|AN);exact (ih ((aE g0 v25).1) v6_1 v6_2 v6_3 v6_4 (inc v25)).mono fun y hy=>by cases y<;>exact Ic r hy
    ·exact Ib (Id (show b6 (aV v2_0 v2_1 v2_2 v2_3 v2_4 v4 v6_0 v6_1 v6_2 v6_3 v6_4 v25) .ret (cO ([]) ([]) ([]) ([]) ([]) false) from RP [.b true,.val (.int .i64 0),.row (etS g0),.ret [(false,[.s .own () 1 (((aE g0 v25).1).map etI)]),(false,[tB false])]] (AC h0<|AC (p:=v25=(0:Int)) (eq_of_beq h1)<|AG etS h2<|AD (bJ g0 v25 h3 h4)<|AN)) (by intro h;cases h))
   ·apply Ie<;>intro h2
    ·refine If (fun g0 h3 => ?_)
     refine Ig (fun h4 => ?_)
     apply Ie<;>intro h5
     ·have r:b6 (aV v2_0 v2_1 v2_2 v2_3 v2_4 v4 v6_0 v6_1 v6_2 v6_3 v6_4 v25) .normal (aV v2_0 v2_1 v2_2 v2_3 v2_4 v4 v6_0 ((aE g0 v25).1) v6_2 v6_3 v6_4 (inc v25)):=RP [.b true,.val (.int .i64 1),.row (etS g0),.ret [(false,[.s .own () 1 (((aE g0 v25).1).map etI)]),(false,[tB true])]] (AC h0<|AC (p:=v25=(1:Int)) (eq_of_beq h2)<|AG etS h3<|AD (bJ g0 v25 h4 h5)<|AN);exact (ih v6_0 ((aE g0 v25).1) v6_2 v6_3 v6_4 (inc v25)).mono fun y hy=>by cases y<;>exact Ic r hy
     ·exact Ib (Id (show b6 (aV v2_0 v2_1 v2_2 v2_3 v2_4 v4 v6_0 v6_1 v6_2 v6_3 v6_4 v25) .ret (cO ([]) ([]) ([]) ([]) ([]) false) from RP [.b true,.val (.int .i64 1),.row (etS g0),.ret [(false,[.s .own () 1 (((aE g0 v25).1).map etI)]),(false,[tB false])]] (AC h0<|AC (p:=v25=(1:Int)) (eq_of_beq h2)<|AG etS h3<|AD (bJ g0 v25 h4 h5)<|AN)) (by intro h;cases h))
    ·apply Ie<;>intro h3
     ·refine If (fun g0 h4 => ?_)
      refine Ig (fun h5 => ?_)
      apply Ie<;>intro h6
      ·have r:b6 (aV v2_0 v2_1 v2_2 v2_3 v2_4 v4 v6_0 v6_1 v6_2 v6_3 v6_4 v25) .normal (aV v2_0 v2_1 v2_2 v2_3 v2_4 v4 v6_0 v6_1 ((aE g0 v25).1) v6_3 v6_4 (inc v25)):=RP [.b true,.val (.int .i64 2),.row (etS g0),.ret [(false,[.s .own () 1 (((aE g0 v25).1).map etI)]),(false,[tB true])]] (AC h0<|AC (p:=v25=(2:Int)) (eq_of_beq h3)<|AG etS h4<|AD (bJ g0 v25 h5 h6)<|AN);exact (ih v6_0 v6_1 ((aE g0 v25).1) v6_3 v6_4 (inc v25)).mono fun y hy=>by cases y<;>exact Ic r hy
      ·exact Ib (Id (show b6 (aV v2_0 v2_1 v2_2 v2_3 v2_4 v4 v6_0 v6_1 v6_2 v6_3 v6_4 v25) .ret (cO ([]) ([]) ([]) ([]) ([]) false) from RP [.b true,.val (.int .i64 2),.row (etS g0),.ret [(false,[.s .own () 1 (((aE g0 v25).1).map etI)]),(false,[tB false])]] (AC h0<|AC (p:=v25=(2:Int)) (eq_of_beq h3)<|AG etS h4<|AD (bJ g0 v25 h5 h6)<|AN)) (by intro h;cases h))
     ·apply Ie<;>intro h4
      ·refine If (fun g0 h5 => ?_)
       refine Ig (fun h6 => ?_)
       apply Ie<;>intro h7
       ·have r:b6 (aV v2_0 v2_1 v2_2 v2_3 v2_4 v4 v6_0 v6_1 v6_2 v6_3 v6_4 v25) .normal (aV v2_0 v2_1 v2_2 v2_3 v2_4 v4 v6_0 v6_1 v6_2 ((aE g0 v25).1) v6_4 (inc v25)):=RP [.b true,.val (.int .i64 3),.row (etS g0),.ret [(false,[.s .own () 1 (((aE g0 v25).1).map etI)]),(false,[tB true])]] (AC h0<|AC (p:=v25=(3:Int)) (eq_of_beq h4)<|AG etS h5<|AD (bJ g0 v25 h6 h7)<|AN);exact (ih v6_0 v6_1 v6_2 ((aE g0 v25).1) v6_4 (inc v25)).mono fun y hy=>by cases y<;>exact Ic r hy
       ·exact Ib (Id (show b6 (aV v2_0 v2_1 v2_2 v2_3 v2_4 v4 v6_0 v6_1 v6_2 v6_3 v6_4 v25) .ret (cO ([]) ([]) ([]) ([]) ([]) false) from RP [.b true,.val (.int .i64 3),.row (etS g0),.ret [(false,[.s .own () 1 (((aE g0 v25).1).map etI)]),(false,[tB false])]] (AC h0<|AC (p:=v25=(3:Int)) (eq_of_beq h4)<|AG etS h5<|AD (bJ g0 v25 h6 h7)<|AN)) (by intro h;cases h))
      ·refine Ig (fun h5 => ?_)
       refine If (fun g0 h6 => ?_)
       refine Ig (fun h7 => ?_)
       apply Ie<;>intro h8
       ·have r:b6 (aV v2_0 v2_1 v2_2 v2_3 v2_4 v4 v6_0 v6_1 v6_2 v6_3 v6_4 v25) .normal (aV v2_0 v2_1 v2_2 v2_3 v2_4 v4 v6_0 v6_1 v6_2 v6_3 ((aE g0 v25).1) (inc v25)):=RP [.b true,.val (.int .i64 4),.row (etS g0),.ret [(false,[.s .own () 1 (((aE g0 v25).1).map etI)]),(false,[tB true])]] (AC h0<|AC h5<|AG etS h6<|AD (bJ g0 v25 h7 h8)<|AN);exact (ih v6_0 v6_1 v6_2 v6_3 ((aE g0 v25).1) (inc v25)).mono fun y hy=>by cases y<;>exact Ic r hy
       ·exact Ib (Id (show b6 (aV v2_0 v2_1 v2_2 v2_3 v2_4 v4 v6_0 v6_1 v6_2 v6_3 v6_4 v25) .ret (cO ([]) ([]) ([]) ([]) ([]) false) from RP [.b true,.val (.int .i64 4),.row (etS g0),.ret [(false,[.s .own () 1 (((aE g0 v25).1).map etI)]),(false,[tB false])]] (AC h0<|AC h5<|AG etS h6<|AD (bJ g0 v25 h7 h8)<|AN)) (by intro h;cases h))
  ·exact Ib (Id (show b6 (aV v2_0 v2_1 v2_2 v2_3 v2_4 v4 v6_0 v6_1 v6_2 v6_3 v6_4 v25) (.exit 0) (jU v2_0 v2_1 v2_2 v2_3 v2_4 v6_0 v6_1 v6_2 v6_3 v6_4) from RP [.b false] (AC h0<|AN)) (by intro h;cases h))
noncomputable def jF (x0:ByteArray):Option (GCron×Bool) :=
  cond ((aA x0).2)
   (cond ((((aA x0).1).length:Int) != (5:Int))
    (some ((GCron.mk ([]:List Int) ([]:List Int) ([]:List Int) ([]:List Int) ([]:List Int)),false))
    ((aC ((aA x0).1) 9223372036854775808 ([]) ([]) ([]) ([]) ([]) (0:Int)).bind fun y=>match y with
     | .ret w0_2_0 w0_2_1 w0_2_2 w0_2_3 w0_2_4 w0_3=>(some ((GCron.mk w0_2_0 w0_2_1 w0_2_2 w0_2_3 w0_2_4),w0_3))
     | .x0 w0_6_0 w0_6_1 w0_6_2 w0_6_3 w0_6_4=>(some ((GCron.mk w0_6_0 w0_6_1 w0_6_2 w0_6_3 w0_6_4),true))))
   (some ((GCron.mk ([]:List Int) ([]:List Int) ([]:List Int) ([]:List Int) ([]:List Int)),false))
theorem wC (x0:ByteArray):Ans (jF x0) (fun r=>Does E 68 [.one (tS x0)] [(true,GCron.t .own r.1),(false,[tB r.2])]):=by
 unfold jF
 apply Ie<;>intro h0
 ·apply Ie<;>intro h1
  ·exact Ib (DP Tryz.f68 [.ret [(false,[.s .own () 1 (((aA x0).1).map etS)]),(false,[tB true])],.val (.int .i64 (((aA x0).1).length:Int)),.b true] (AD (jC x0 h0)<|ALn ((aA x0).1) etS<|AC h1<|AN))
  ·refine If (fun y hy => ?_)
   replace hy:=u7 ([]) ([]) ([]) ([]) ([]) ((aA x0).1) 9223372036854775808 ([]) ([]) ([]) ([]) ([]) (0:Int) y hy
   cases y with
   | ret w0_2_0 w0_2_1 w0_2_2 w0_2_3 w0_2_4 w0_3 =>
    have h2:=hy
    exact Ib (DP Tryz.f68 [.ret [(false,[.s .own () 1 (((aA x0).1).map etS)]),(false,[tB true])],.val (.int .i64 (((aA x0).1).length:Int)),.b false,.lp .ret (cO w0_2_0 w0_2_1 w0_2_2 w0_2_3 w0_2_4 w0_3)] (AD (jC x0 h0)<|ALn ((aA x0).1) etS<|AC h1<|AL h2<|AN))
   | x0 w0_6_0 w0_6_1 w0_6_2 w0_6_3 w0_6_4 =>
    have h2:=hy
    exact Ib (DP Tryz.f68 [.ret [(false,[.s .own () 1 (((aA x0).1).map etS)]),(false,[tB true])],.val (.int .i64 (((aA x0).1).length:Int)),.b false,.lp (.exit 0) (jU ([]) ([]) ([]) ([]) ([]) w0_6_0 w0_6_1 w0_6_2 w0_6_3 w0_6_4)] (AD (jC x0 h0)<|ALn ((aA x0).1) etS<|AC h1<|AL h2<|AN))
 ·exact Ib (DP Tryz.f68 [.ret [(false,[.s .own () 1 (((aA x0).1).map etS)]),(false,[tB false])]] (AD (jC x0 h0)<|AN))
def noCron:GCron:=⟨[],[],[],[],[]⟩
noncomputable def pg (a b c d e:ByteArray):GCron×Bool :=
 cond (ab a 0 59).2 (cond (ab b 0 23).2 (cond (ab c 1 31).2 (cond (ab d 1 12).2 (cond (ab e 0 6).2
  (⟨(ab a 0 59).1,(ab b 0 23).1,(ab c 1 31).1,(ab d 1 12).1,(ab e 0 6).1⟩,true) (noCron,false)) (noCron,false)) (noCron,false)) (noCron,false)) (noCron,false)
noncomputable def xB:List ByteArray→GCron×Bool
 | [a,b,c,d,e]=>pg a b c d e
 | _=>(noCron,false)
noncomputable def am (s:ByteArray):GCron×Bool:=xB (aA s).1
theorem ut {s:ByteArray} (h:(aA s).2=false):(aA s).1=[]:=by
 unfold aA at h ⊢
 split
 ·rfl
 ·rename_i h0
  rw [if_neg h0] at h
  split
  ·rename_i h1
   rw [if_pos h1] at h
   split
   ·rfl
   ·rename_i h2
    rw [if_neg h2] at h;cases h
  ·rfl
theorem Em {α:Type} {l:List α} (h:l.length=5):∃ a b c d e,l=[a,b,c,d,e]:=by
 match l,h with
 | [a,b,c,d,e],_=>exact ⟨a,b,c,d,e,rfl⟩
theorem qA {l:List ByteArray} (h:l.length≠5):xB l=(noCron,false):=by
 unfold xB
 split
 ·exact absurd rfl h
 ·rfl
theorem FN (a b c d e:Bool) (n:Nat):eW [a,b,c,d,e] (n+6) 0=some (cond a (cond b (cond c (cond d (cond e .x0 (.ret [] [] [] [] [] false)) (.ret [] [] [] [] [] false)) (.ret [] [] [] [] [] false)) (.ret [] [] [] [] [] false)) (.ret [] [] [] [] [] false)):=by
 cases a<;>cases b<;>cases c<;>cases d<;>cases e<;>rfl
theorem Fc (s:ByteArray):jL s=some (am s):=by
 unfold jL am
 cases q:(aA s).2 with
 | false =>
  rw [ut q];rfl
 | true =>
  rw [cond_true]
  by_cases h:(aA s).1.length=5
  ·obtain ⟨a,b,c,d,e,hl⟩:=Em h
   have hm:∀ p∈[a,b,c,d,e],p.size≤2000000:=fun p hp=>by
    rw [← hl] at hp
    have:=oj hp
    omega
   have ha:(a.size≤2000000)=True:=eq_true (hm a (by simp))
   have hb:(b.size≤2000000)=True:=eq_true (hm b (by simp))
   have hc:(c.size≤2000000)=True:=eq_true (hm c (by simp))
   have hd:(d.size≤2000000)=True:=eq_true (hm d (by simp))
   have he:(e.size≤2000000)=True:=eq_true (hm e (by simp))
   have e5:((([a,b,c,d,e]:List ByteArray).length:Int) != 5)=false:=rfl
   rw [hl,e5,cond_false,if_pos (by decide)]
   have g0:aL [a,b,c,d,e] (0:Int)=some a:=rfl
   have g1:aL [a,b,c,d,e] (1:Int)=some b:=rfl
   have g2:aL [a,b,c,d,e] (2:Int)=some c:=rfl
   have g3:aL [a,b,c,d,e] (3:Int)=some d:=rfl
   have g4:aL [a,b,c,d,e] (4:Int)=some e:=rfl
   have b0:((0:Int)≤0∧(0:Int)≤59∧(59:Int)≤59)=True:=eq_true (by decide)
   have b1:((0:Int)≤0∧(0:Int)≤23∧(23:Int)≤59)=True:=eq_true (by decide)
   have b2:((0:Int)≤1∧(1:Int)≤31∧(31:Int)≤59)=True:=eq_true (by decide)
   have b3:((0:Int)≤1∧(1:Int)≤12∧(12:Int)≤59)=True:=eq_true (by decide)
   have b4:((0:Int)≤0∧(0:Int)≤6∧(6:Int)≤59)=True:=eq_true (by decide)
   simp only [g0,g1,g2,g3,g4,Option.bind_some,ha,hb,hc,hd,he,b0,b1,b2,b3,b4,if_true]
   show (eW [(ab a 0 59).2,(ab b 0 23).2,(ab c 1 31).2,(ab d 1 12).2,(ab e 0 6).2] (9223372036854775802+6) 0).bind _=some (pg a b c d e)
   rw [FN]
   unfold pg
   cases (ab a 0 59).2<;>cases (ab b 0 23).2<;>cases (ab c 1 31).2<;>cases (ab d 1 12).2<;>cases (ab e 0 6).2<;>rfl
  ·have e5:(((aA s).1.length:Int) != 5)=true:=by rw [bne_iff_ne];omega
   rw [e5,cond_true,qA h];rfl
theorem Fb (s:ByteArray):jF s=some (am s):=by
 unfold jF am
 cases q:(aA s).2 with
 | false =>
  rw [ut q];rfl
 | true =>
  rw [cond_true]
  by_cases h:(aA s).1.length=5
  ·obtain ⟨a,b,c,d,e,hl⟩:=Em h
   have hm:∀ p∈[a,b,c,d,e],p.size≤2000000:=fun p hp=>by
    rw [← hl] at hp
    have:=oj hp
    omega
   have e5:((([a,b,c,d,e]:List ByteArray).length:Int) != 5)=false:=rfl
   rw [hl,e5,cond_false]
   have s0:∀ n v0 v1 v2 v3 v4,aC [a,b,c,d,e] (n+1) v0 v1 v2 v3 v4 0=cond (ab a 0 59).2 (aC [a,b,c,d,e] n (ab a 0 59).1 v1 v2 v3 v4 1) (some (.ret [] [] [] [] [] false)):=fun n v0 v1 v2 v3 v4=>by
    conv=>lhs;unfold aC
    show (if a.size≤2000000 then _ else none)=_
    rw [if_pos (hm a (by simp))];rfl
   have s1:∀ n v0 v1 v2 v3 v4,aC [a,b,c,d,e] (n+1) v0 v1 v2 v3 v4 1=cond (ab b 0 23).2 (aC [a,b,c,d,e] n v0 (ab b 0 23).1 v2 v3 v4 2) (some (.ret [] [] [] [] [] false)):=fun n v0 v1 v2 v3 v4=>by
    conv=>lhs;unfold aC
    show (if b.size≤2000000 then _ else none)=_
    rw [if_pos (hm b (by simp))];rfl
   have s2:∀ n v0 v1 v2 v3 v4,aC [a,b,c,d,e] (n+1) v0 v1 v2 v3 v4 2=cond (ab c 1 31).2 (aC [a,b,c,d,e] n v0 v1 (ab c 1 31).1 v3 v4 3) (some (.ret [] [] [] [] [] false)):=fun n v0 v1 v2 v3 v4=>by
    conv=>lhs;unfold aC
    show (if c.size≤2000000 then _ else none)=_
    rw [if_pos (hm c (by simp))];rfl
   have s3:∀ n v0 v1 v2 v3 v4,aC [a,b,c,d,e] (n+1) v0 v1 v2 v3 v4 3=cond (ab d 1 12).2 (aC [a,b,c,d,e] n v0 v1 v2 (ab d 1 12).1 v4 4) (some (.ret [] [] [] [] [] false)):=fun n v0 v1 v2 v3 v4=>by
    conv=>lhs;unfold aC
    show (if d.size≤2000000 then _ else none)=_
    rw [if_pos (hm d (by simp))];rfl
   have s4:∀ n v0 v1 v2 v3 v4,aC [a,b,c,d,e] (n+1) v0 v1 v2 v3 v4 4=cond (ab e 0 6).2 (aC [a,b,c,d,e] n v0 v1 v2 v3 (ab e 0 6).1 5) (some (.ret [] [] [] [] [] false)):=fun n v0 v1 v2 v3 v4=>by
    conv=>lhs;unfold aC
    show (if (4:Int)=4 then (if e.size≤2000000 then _ else none) else none)=_
    rw [if_pos rfl,if_pos (hm e (by simp))];rfl
   have s5:∀ n v0 v1 v2 v3 v4,aC [a,b,c,d,e] (n+1) v0 v1 v2 v3 v4 5=some (.x0 v0 v1 v2 v3 v4):=fun n v0 v1 v2 v3 v4=>rfl
   have st:aC [a,b,c,d,e] (9223372036854775802+6) [] [] [] [] [] 0=_:=s0 _ _ _ _ _ _
   rw [s1,s2,s3,s4,s5] at st
   refine (congrArg (Option.bind · _) st).trans ?_
   show _=some (pg a b c d e)
   unfold pg
   cases (ab a 0 59).2<;>cases (ab b 0 23).2<;>cases (ab c 1 31).2<;>cases (ab d 1 12).2<;>cases (ab e 0 6).2<;>rfl
  ·have e5:(((aA s).1.length:Int) != 5)=true:=by rw [bne_iff_ne];omega
   rw [e5,cond_true,qA h];rfl
theorem oI {lo hi:Int} {s:ByteArray} (hs:s.size≤2000000) (hb:0≤lo∧lo≤hi∧hi≤59):an.sm (ab s lo hi).1:=by
 rcases (sZ s lo hi hs hb).2.1 with h | h
 ·rw [h.2];exact ⟨by decide,fun y hy=>by cases hy⟩
 ·exact ⟨by have:=h.2.2.2.2;omega,fun y hy=>trivial⟩
theorem wh:an.sm noCron:=⟨⟨by decide,fun y hy=>by cases hy⟩,⟨by decide,fun y hy=>by cases hy⟩,⟨by decide,fun y hy=>by cases hy⟩,⟨by decide,fun y hy=>by cases hy⟩,⟨by decide,fun y hy=>by cases hy⟩⟩
theorem yK (s:ByteArray):an.sm (am s).1:=by
 unfold am
 by_cases h:(aA s).1.length=5
 ·obtain ⟨a,b,c,d,e,hl⟩:=Em h
  have hm:∀ p∈[a,b,c,d,e],p.size≤2000000:=fun p hp=>by
   rw [← hl] at hp
   have:=oj hp
   omega
  rw [hl]
  show an.sm (pg a b c d e).1
  unfold pg
  have:=oI (lo:=0) (hi:=59) (hm a (by simp)) (by decide)
  have:=oI (lo:=0) (hi:=23) (hm b (by simp)) (by decide)
  have:=oI (lo:=1) (hi:=31) (hm c (by simp)) (by decide)
  have:=oI (lo:=1) (hi:=12) (hm d (by simp)) (by decide)
  have:=oI (lo:=0) (hi:=6) (hm e (by simp)) (by decide)
  cases (ab a 0 59).2<;>cases (ab b 0 23).2<;>cases (ab c 1 31).2<;>cases (ab d 1 12).2<;>cases (ab e 0 6).2<;>first | exact wh | exact ⟨by assumption,by assumption,by assumption,by assumption,by assumption⟩
 ·rw [qA h];exact wh
theorem md (x0:ByteArray):Does E 55 [.one (tS x0)] [(true,GCron.t .own ((am x0).1)),(false,[tB ((am x0).2)])]:=by
 exact wK x0 _ (Fc x0)
theorem dA (x0:ByteArray) {bb:Bool} (hbb:(am x0).2=bb):Does E 55 [.one (tS x0)] [(true,GCron.t .own ((am x0).1)),(false,[tB bb])]:=by rw [← hbb];exact md x0
theorem wr (x0:ByteArray):Does E 68 [.one (tS x0)] [(true,GCron.t .own ((am x0).1)),(false,[tB ((am x0).2)])]:=by
 exact wC x0 _ (Fb x0)
theorem ny (x0:ByteArray) {bb:Bool} (hbb:(am x0).2=bb):Does E 68 [.one (tS x0)] [(true,GCron.t .own ((am x0).1)),(false,[tB bb])]:=by rw [← hbb];exact wr x0
end Go.Proofs.YtjfbofdmjihglaaGreatDoor.Am
namespace Go.Proofs.YtjfbofdmjihglaaGreatDoor.Am
open Go Go.Proofs Classical
set_option maxRecDepth 100000
set_option linter.unusedVariables false
set_option linter.unusedSimpArgs false
inductive uA where
 | ret (v4:Bool)
 | x0 
def jd (v0:List Int) (v1 v5:Int):US:=stL 18 [(0,.one (.s .far () 1 (v0.map etI))),(1,.one (tI v1)),(5,.one (tI v5))]
def mt (zv4:Bool):US:=stL 18 [(4,.one (tB zv4))]
def nk  : US:=stL 18 []
abbrev pL:US→Exit→US→Prop:=Round E 62 (au Tryz.f62 0)
def Cm (v0:List Int) (v1 v5:Int):uA→Prop
 | .ret zv4=>Loops E 62 (au Tryz.f62 0) (jd v0 v1 v5) .ret (mt zv4)
 | .x0=>Loops E 62 (au Tryz.f62 0) (jd v0 v1 v5) (.exit 0) (nk)
noncomputable def gD (v1:Int):List Int→Nat→Option uA
 | [],i=>some (.x0)
 | hd::rest,i=>cond (hd==v1)
  (some (.ret true))
  (gD v1 rest (i+1))
theorem Cl (v0:List Int) (v1:Int) (rest:List Int):∀ (i:Nat) ,(v0).drop i=rest→v0.length≤9223372036854775807→Ans (gD v1 rest i) (Cm v0 v1 (i:Int)):=by
 induction rest with
 | nil =>
  intro i hE hl
  have hb:=bq hE
  unfold gD
  exact Ib (Id (show pL (jd v0 v1 (i:Int)) (.exit 0) (nk) from RP [.val (.int .i64 (v0.length:Int)),.b false] (ALn v0 etI<|AC hb<|AN)) (by intro h;cases h))
 | cons hd rest ih =>
  intro i hE hl
  have hb:=a8 hE
  have hw:=ba hE hl
  have hE2:=aG hE
  have hg:=bd hE
  unfold gD
  apply Ie<;>intro h2
  ·exact Ib (Id (show pL (jd v0 v1 (i:Int)) .ret (mt true) from RP [.val (.int .i64 (v0.length:Int)),.b true,.row (etI hd),.b true] (ALn v0 etI<|AC hb<|AR etI hg<|AC h2<|AN)) (by intro h;cases h))
  ·exact (ih (i+1) hE2 hl).mono fun y hy=>by have r:pL (jd v0 v1 (i:Int)) .normal (jd v0 v1 (inc (i:Int))):=RP [.val (.int .i64 (v0.length:Int)),.b true,.row (etI hd),.b false] (ALn v0 etI<|AC hb<|AR etI hg<|AC h2<|AN);rw [hw] at r;cases y<;>exact Ic r hy
noncomputable def rE (x0:List Int) (x1:Int):Option (Bool) :=
  if x0.length≤9223372036854775807 then (gD x1 x0 0).bind fun y=>match y with
   | .ret w0_4=>(some (w0_4))
   | .x0=>(some (false)) else none
theorem Dz (x0:List Int) (x1:Int):Ans (rE x0 x1) (fun r=>Does E 62 [.one (.s .far () 1 (x0.map etI)),.one (tI x1)] [(false,[tB r])]):=by
 unfold rE
 refine Ig (fun hl1 => ?_)
 refine If (fun y hy => ?_)
 replace hy:=Cl x0 x1 x0 0 rfl hl1 y hy
 cases y with
 | ret w0_4 =>
  have h0:=hy
  exact Ib (DP Tryz.f62 [.lp .ret (mt w0_4)] (AL h0<|AN))
 | x0 =>
  have h0:=hy
  exact Ib (DP Tryz.f62 [.lp (.exit 0) (nk)] (AL h0<|AN))
def b7 (l:List Int) (x:Int):Bool:=l.any fun y=>y==x
theorem C6 (x:Int):∀ (rest:List Int) (i:Nat),gD x rest i=some (if b7 rest x=true then .ret true else .x0)
 | [],i=>rfl
 | y::rest,i=>by
  unfold gD
  rw [C6 x rest (i+1)]
  unfold b7
  rw [List.any_cons]
  cases y==x<;>rfl
theorem nC (x0:List Int) (x1:Int) (h:x0.length≤1050000):Does E 62 [.one (.s .far () 1 (x0.map etI)),.one (tI x1)] [(false,[tB (b7 x0 x1)])]:=by
 exact Dz x0 x1 _ (by
  unfold rE
  rw [if_pos (by omega),C6]
  cases q:b7 x0 x1<;>rfl)
inductive lc where
 | ret (v4:Int)
 | x0 
def cV (v0:List Int) (v1 v7 v8:Int):US:=stL 19 [(0,.one (.s .far () 1 (v0.map etI))),(1,.one (tI v1)),(7,.one (tI v7)),(8,.one (tI v8))]
def fN (zv4:Int):US:=stL 19 [(4,.one (tI zv4))]
def gi  : US:=stL 19 []
abbrev hY:US→Exit→US→Prop:=Round E 72 (au Tryz.f72 0)
def qo (v0:List Int) (v1 v7 v8:Int):lc→Prop
 | .ret zv4=>Loops E 72 (au Tryz.f72 0) (cV v0 v1 v7 v8) .ret (fN zv4)
 | .x0=>Loops E 72 (au Tryz.f72 0) (cV v0 v1 v7 v8) (.exit 0) (gi)
noncomputable def bY (v1:Int):List Int→Nat→Option lc
 | [],i=>some (.x0)
 | hd::rest,i=>cond (v1==hd)
  (some (.ret (i:Int)))
  (bY v1 rest (i+1))
theorem qn (v0:List Int) (v1:Int) (rest:List Int):∀ (i:Nat) ,(v0).drop i=rest→v0.length≤9223372036854775807→Ans (bY v1 rest i) (qo v0 v1 (v0.length:Int) (i:Int)):=by
 induction rest with
 | nil =>
  intro i hE hl
  have hb:=bq hE
  unfold bY
  exact Ib (Id (show hY (cV v0 v1 (v0.length:Int) (i:Int)) (.exit 0) (gi) from RP [.b false] (AC hb<|AN)) (by intro h;cases h))
 | cons hd rest ih =>
  intro i hE hl
  have hb:=a8 hE
  have hw:=ba hE hl
  have hE2:=aG hE
  have hg:=bd hE
  unfold bY
  apply Ie<;>intro h2
  ·exact Ib (Id (show hY (cV v0 v1 (v0.length:Int) (i:Int)) .ret (fN (i:Int)) from RP [.b true,.row (etI hd),.b true] (AC hb<|AR etI hg<|AC h2<|AN)) (by intro h;cases h))
  ·exact (ih (i+1) hE2 hl).mono fun y hy=>by have r:hY (cV v0 v1 (v0.length:Int) (i:Int)) .normal (cV v0 v1 (v0.length:Int) (inc (i:Int))):=RP [.b true,.row (etI hd),.b false] (AC hb<|AR etI hg<|AC h2<|AN);rw [hw] at r;cases y<;>exact Ic r hy
noncomputable def du (x0:List Int) (x1:Int):Option (Int) :=
  if x0.length≤9223372036854775807 then (bY x1 x0 0).bind fun y=>match y with
   | .ret w0_4=>(some (w0_4))
   | .x0=>(some ((-1:Int))) else none
theorem rL (x0:List Int) (x1:Int):Ans (du x0 x1) (fun r=>Does E 72 [.one (.s .far () 1 (x0.map etI)),.one (tI x1)] [(false,[tI r])]):=by
 unfold du
 refine Ig (fun hl1 => ?_)
 refine If (fun y hy => ?_)
 replace hy:=qn x0 x1 x0 0 rfl hl1 y hy
 cases y with
 | ret w0_4 =>
  have h0:=hy
  exact Ib (DP Tryz.f72 [.val (.int .i64 (x0.length:Int)),.lp .ret (fN w0_4)] (ALn x0 etI<|AL h0<|AN))
 | x0 =>
  have h0:=hy
  exact Ib (DP Tryz.f72 [.val (.int .i64 (x0.length:Int)),.lp (.exit 0) (gi)] (ALn x0 etI<|AL h0<|AN))
noncomputable def tc (l:List Int) (x:Int):Int:=(du l x).getD (-1)
theorem EL (x:Int):∀ (rest:List Int) (i:Nat),(∃ k:Nat,bY x rest i=some (.ret (k:Int))∧b7 rest x=true)∨bY x rest i=some .x0∧b7 rest x=false
 | [],i => .inr ⟨rfl,rfl⟩
 | y::rest,i=>by
  have e:(x==y)=(y==x):=by cases q:y==x with | true=>rw [eq_of_beq q];simp | false=>exact beq_eq_false_iff_ne.2 fun e=>by rw [e] at q;simp at q
  unfold bY b7
  rw [List.any_cons,e]
  cases y==x with
  | true=>exact .inl ⟨i,rfl,rfl⟩
  | false=>exact EL x rest (i+1)
theorem C3 (l:List Int) (x:Int) (h:l.length≤1050000):du l x=some (tc l x)∧decide (tc l x≥(0:Int))=b7 l x:=by
 have e:∃ r,du l x=some r∧decide (r≥(0:Int))=b7 l x:=by
  unfold du
  rw [if_pos (by omega)]
  rcases EL x l 0 with ⟨k,h1,h2⟩ | ⟨h1,h2⟩
  ·exact ⟨(k:Int),by rw [h1];rfl,by rw [h2];exact decide_eq_true (by omega)⟩
  ·exact ⟨-1,by rw [h1];rfl,by rw [h2];rfl⟩
 obtain ⟨r,h1,h2⟩:=e
 have p:tc l x=r:=by unfold tc;rw [h1];rfl
 rw [p];exact ⟨h1,h2⟩
theorem qu (x0:List Int) (x1:Int) (h:x0.length≤1050000):Does E 72 [.one (.s .far () 1 (x0.map etI)),.one (tI x1)] [(false,[tI (tc x0 x1)])]:=by
 exact rL x0 x1 _ (C3 x0 x1 h).1
noncomputable def gf (x0:List Int) (x1:Int):Option (Bool) :=
  if x0.length≤1050000 then some (decide ((tc x0 x1)≥(0:Int))) else none
theorem oX (x0:List Int) (x1:Int):Ans (gf x0 x1) (fun r=>Does E 51 [.one (.s .far () 1 (x0.map etI)),.one (tI x1)] [(false,[tB r])]):=by
 unfold gf
 refine Ig (fun h0 => ?_)
 exact Ib (DP Tryz.f51 [.ret [(false,[tI (tc x0 x1)])]] (AD (qu x0 x1 h0)<|AN))
theorem eo (x0:List Int) (x1:Int) (h:x0.length≤1050000):Does E 51 [.one (.s .far () 1 (x0.map etI)),.one (tI x1)] [(false,[tB (b7 x0 x1)])]:=by
 exact oX x0 x1 _ (by
  unfold gf
  try rw [if_pos h]
  rw [(C3 x0 x1 h).2])
inductive rG where
 | ret (v6:Bool)
 | x0 
def dL (v0:List Int) (v1 v2 v7:Int):US:=stL 41 [(0,.one (.s .far () 1 (v0.map etI))),(1,.one (tI v1)),(2,.one (tI v2)),(7,.one (tI v7))]
def ik (zv6:Bool):US:=stL 41 [(6,.one (tB zv6))]
def lC (v0:List Int):US:=stL 41 [(0,.one (.s .far () 1 (v0.map etI)))]
abbrev iH:US→Exit→US→Prop:=Round E 103 (au Tryz.f103 0)
def za (v0:List Int) (v1 v2 v7:Int):rG→Prop
 | .ret zv6=>Loops E 103 (au Tryz.f103 0) (dL v0 v1 v2 v7) .ret (ik zv6)
 | .x0=>Loops E 103 (au Tryz.f103 0) (dL v0 v1 v2 v7) (.exit 0) (lC v0)
noncomputable def eg (v0:List Int) (v1 v2:Int):List Int→Nat→Option rG
 | [],i=>some (.x0)
 | hd::rest,i=>cond (aB hd v1 v2)
  (cond (decide ((i:Int)>(0:Int)))
   ((aL v0 (IntKind.wrap .i64 ((i:Int)-(1:Int)))).bind fun g1=>cond (decide (g1≥hd))
    (some (.ret false))
    (eg v0 v1 v2 rest (i+1)))
   (eg v0 v1 v2 rest (i+1)))
  (some (.ret false))
theorem y9 (v0:List Int) (v1 v2:Int) (rest:List Int):∀ (i:Nat) ,(v0).drop i=rest→v0.length≤9223372036854775807→Ans (eg v0 v1 v2 rest i) (za v0 v1 v2 (i:Int)):=by
 induction rest with
 | nil =>
  intro i hE hl
  have hb:=bq hE
  unfold eg
  exact Ib (Id (show iH (dL v0 v1 v2 (i:Int)) (.exit 0) (lC v0) from RP [.val (.int .i64 (v0.length:Int)),.b false] (ALn v0 etI<|AC hb<|AN)) (by intro h;cases h))
 | cons hd rest ih =>
  intro i hE hl
  have hb:=a8 hE
  have hw:=ba hE hl
  have hE2:=aG hE
  have hg:=bd hE
  unfold eg
  apply Ie<;>intro h2
  ·apply Ie<;>intro h3
   ·refine If (fun g1 h4 => ?_)
    apply Ie<;>intro h5
    ·exact Ib (Id (show iH (dL v0 v1 v2 (i:Int)) .ret (ik false) from RP [.val (.int .i64 (v0.length:Int)),.b true,.row (etI hd),rT,.b true,.row (etI g1),.row (etI hd),.b true] (ALn v0 etI<|AC hb<|AR etI hg<|AD (Ij (bh hd v1 v2) h2)<|AC h3<|AR etI h4<|AR etI hg<|AC h5<|AN)) (by intro h;cases h))
    ·exact (ih (i+1) hE2 hl).mono fun y hy=>by have r:iH (dL v0 v1 v2 (i:Int)) .normal (dL v0 v1 v2 (inc (i:Int))):=RP [.val (.int .i64 (v0.length:Int)),.b true,.row (etI hd),rT,.b true,.row (etI g1),.row (etI hd),.b false] (ALn v0 etI<|AC hb<|AR etI hg<|AD (Ij (bh hd v1 v2) h2)<|AC h3<|AR etI h4<|AR etI hg<|AC h5<|AN);rw [hw] at r;cases y<;>exact Ic r hy
   ·exact (ih (i+1) hE2 hl).mono fun y hy=>by have r:iH (dL v0 v1 v2 (i:Int)) .normal (dL v0 v1 v2 (inc (i:Int))):=RP [.val (.int .i64 (v0.length:Int)),.b true,.row (etI hd),rT,.b false] (ALn v0 etI<|AC hb<|AR etI hg<|AD (Ij (bh hd v1 v2) h2)<|AC h3<|AN);rw [hw] at r;cases y<;>exact Ic r hy
  ·exact Ib (Id (show iH (dL v0 v1 v2 (i:Int)) .ret (ik false) from RP [.val (.int .i64 (v0.length:Int)),.b true,.row (etI hd),rF] (ALn v0 etI<|AC hb<|AR etI hg<|AD (Ij (bh hd v1 v2) h2)<|AN)) (by intro h;cases h))
noncomputable def oo (x0:List Int) (x1 x2:Int):Option (Bool) :=
  if x0.length≤9223372036854775807 then (eg x0 x1 x2 x0 0).bind fun y=>match y with
   | .ret w0_6=>(some (w0_6))
   | .x0=>(some (decide ((x0.length:Int)>(0:Int)))) else none
theorem AA (x0:List Int) (x1 x2:Int):Ans (oo x0 x1 x2) (fun r=>Does E 103 [.one (.s .far () 1 (x0.map etI)),.one (tI x1),.one (tI x2)] [(false,[tB r])]):=by
 unfold oo
 refine Ig (fun hl1 => ?_)
 refine If (fun y hy => ?_)
 replace hy:=y9 x0 x1 x2 x0 0 rfl hl1 y hy
 cases y with
 | ret w0_6 =>
  have h0:=hy
  exact Ib (DP Tryz.f103 [.lp .ret (ik w0_6)] (AL h0<|AN))
 | x0 =>
  have h0:=hy
  exact Ib (DP Tryz.f103 [.lp (.exit 0) (lC x0),.val (.int .i64 (x0.length:Int))] (AL h0<|ALn x0 etI<|AN))
def gM (a b:Int):List Int→Option Int→Bool
 | [],_=>true
 | x::l,p=>aB x a b&&(match p with | some y=>decide (y<x) | none=>true)&&gM a b l (some x)
def aM (l:List Int) (a b:Int):Bool:=gM a b l none&&decide ((l.length:Int)>0)
theorem A2 {aH rest:List Int} {x:Int} {i:Nat} (h:aH.drop i=x::rest):i=0∨∃ y,aH[i-1]?=some y:=by
 cases i with
 | zero=>exact .inl rfl
 | succ i =>
  right
  have:i<aH.length:=by
   rcases Nat.lt_or_ge i aH.length with g | g
   ·exact g
   ·rw [List.drop_eq_nil_of_le (by omega)] at h;cases h
  exact ⟨aH[i],by simp [this]⟩
def fC (aH:List Int) (i:Nat):Option Int:=if i=0 then none else aH[i-1]?
theorem wb {aH rest:List Int} {x:Int} {i:Nat} (h:aH.drop i=x::rest):fC aH (i+1)=some x:=by
 unfold fC
 rw [if_neg (by omega)]
 show aH[i]?=some x
 rw [← List.head?_drop,h];rfl
theorem Df (aH:List Int) (a b:Int) (hl:aH.length≤1050000):∀ (rest:List Int) (i:Nat),aH.drop i=rest→eg aH a b rest i=some (if gM a b rest (fC aH i)=true then .x0 else .ret false)
 | [],i,_=>rfl
 | x::rest,i,h=>by
  have ih:=Df aH a b hl rest (i+1) (aG h)
  rw [wb h] at ih
  have hi:i<aH.length:=by
   rcases Nat.lt_or_ge i aH.length with g | g
   ·exact g
   ·rw [List.drop_eq_nil_of_le g] at h;cases h
  unfold eg gM
  rw [ih]
  cases aB x a b with
  | false=>rfl
  | true =>
   rw [cond_true,Bool.true_and]
   rcases A2 h with rfl | ⟨y,hy⟩
   ·simp [fC]
   ·by_cases z:i=0
    ·subst z;simp [fC]
    ·have hp:fC aH i=some y:=by unfold fC;rw [if_neg z,hy]
     have hg:aL aH (IntKind.wrap .i64 ((i:Int)-1))=some y:=by
      rw [cW _ (by omega) (by omega)]
      have e:((i:Int)-1)=((i-1:Nat):Int):=by omega
      rw [e,fJ,hy]
     rw [hp,hg,decide_eq_true (by omega:(i:Int)>0),cond_true,Option.bind_some]
     simp only
     by_cases c:y≥x
     ·have yx:¬ y<x:=by omega
      rw [decide_eq_true c,cond_true];simp [yx]
     ·have yx:y<x:=by omega
      rw [decide_eq_false c,cond_false];simp [yx]
theorem bK (x0:List Int) (x1:Int) (x2:Int) (h:x0.length≤1050000):Does E 103 [.one (.s .far () 1 (x0.map etI)),.one (tI x1),.one (tI x2)] [(false,[tB (aM x0 x1 x2)])]:=by
 exact AA x0 x1 x2 _ (by
  unfold oo
  rw [if_pos (by omega),Df x0 x1 x2 h x0 0 rfl]
  unfold aM fC
  rw [if_pos rfl]
  cases gM x1 x2 x0 none<;>rfl)
noncomputable def pJ (x0:GCron):Option (Bool) :=
  if x0.f0.length≤1050000 then cond (aM x0.f0 (0:Int) (59:Int))
   (if x0.f1.length≤1050000 then cond (aM x0.f1 (0:Int) (23:Int))
    (if x0.f2.length≤1050000 then cond (aM x0.f2 (1:Int) (31:Int))
     (if x0.f3.length≤1050000 then cond (aM x0.f3 (1:Int) (12:Int))
      (if x0.f4.length≤1050000 then some (aM x0.f4 (0:Int) (6:Int)) else none)
      (some (false)) else none)
     (some (false)) else none)
    (some (false)) else none)
   (some (false)) else none
theorem Ch (x0:GCron):Ans (pJ x0) (fun r=>Does E 78 [.agg (GCron.t .far x0)] [(false,[tB r])]):=by
 unfold pJ
 refine Ig (fun h0 => ?_)
 apply Ie<;>intro h1
 ·refine Ig (fun h2 => ?_)
  apply Ie<;>intro h3
  ·refine Ig (fun h4 => ?_)
   apply Ie<;>intro h5
   ·refine Ig (fun h6 => ?_)
    apply Ie<;>intro h7
    ·refine Ig (fun h8 => ?_)
     exact Ib (DP Tryz.f78 [rT,rT,rT,rT,.ret [(false,[tB (aM x0.f4 (0:Int) (6:Int))])]] (AD (Ij (bK x0.f0 (0:Int) (59:Int) h0) h1)<|AD (Ij (bK x0.f1 (0:Int) (23:Int) h2) h3)<|AD (Ij (bK x0.f2 (1:Int) (31:Int) h4) h5)<|AD (Ij (bK x0.f3 (1:Int) (12:Int) h6) h7)<|AD (bK x0.f4 (0:Int) (6:Int) h8)<|AN))
    ·exact Ib (DP Tryz.f78 [rT,rT,rT,rF] (AD (Ij (bK x0.f0 (0:Int) (59:Int) h0) h1)<|AD (Ij (bK x0.f1 (0:Int) (23:Int) h2) h3)<|AD (Ij (bK x0.f2 (1:Int) (31:Int) h4) h5)<|AD (Ij (bK x0.f3 (1:Int) (12:Int) h6) h7)<|AN))
   ·exact Ib (DP Tryz.f78 [rT,rT,rF] (AD (Ij (bK x0.f0 (0:Int) (59:Int) h0) h1)<|AD (Ij (bK x0.f1 (0:Int) (23:Int) h2) h3)<|AD (Ij (bK x0.f2 (1:Int) (31:Int) h4) h5)<|AN))
  ·exact Ib (DP Tryz.f78 [rT,rF] (AD (Ij (bK x0.f0 (0:Int) (59:Int) h0) h1)<|AD (Ij (bK x0.f1 (0:Int) (23:Int) h2) h3)<|AN))
 ·exact Ib (DP Tryz.f78 [rF] (AD (Ij (bK x0.f0 (0:Int) (59:Int) h0) h1)<|AN))
def fq (c:GCron):Bool:=aM c.f0 0 59&&(aM c.f1 0 23&&(aM c.f2 1 31&&(aM c.f3 1 12&&aM c.f4 0 6)))
theorem tJ (x0:GCron) (h:an.sm x0):Does E 78 [.agg (GCron.t .far x0)] [(false,[tB (fq x0)])]:=by
 exact Ch x0 _ (by
  have h0:=h.1.1
  have h1:=h.2.1.1
  have h2:=h.2.2.1.1
  have h3:=h.2.2.2.1.1
  have h4:=h.2.2.2.2.1
  unfold pJ fq
  simp only [h0,h1,h2,h3,h4,if_true]
  cases aM x0.f0 0 59<;>cases aM x0.f1 0 23<;>cases aM x0.f2 1 31<;>cases aM x0.f3 1 12<;>rfl)
inductive sv where
 | ret (v2:Bool)
 | x2 
def dX (v1_0 v1_1 v1_2 v1_3 v1_4:List Int) (v5 v6:Int) (v7:List Int) (v11:Int) (v23:List Int) (v24 v25:Int):US:=stL 53 [(1,.box () [.s .far () 1 (v1_0.map etI),.s .far () 1 (v1_1.map etI),.s .far () 1 (v1_2.map etI),.s .far () 1 (v1_3.map etI),.s .far () 1 (v1_4.map etI)]),(5,.one (tI v5)),(6,.one (tI v6)),(7,.one (.s .far () 1 (v7.map etI))),(10,.clo (.arr [0,1,2,3,4]) [1,1,1,1,1]),(11,.one (tI v11)),(23,.one (.s .far () 1 (v23.map etI))),(24,.one (tI v24)),(25,.one (tI v25))]
def dp (zv2:Bool):US:=stL 53 [(2,.one (tB zv2))]
def bZ (v1_0 v1_1 v1_2 v1_3 v1_4 v7:List Int) (v11:Int):US:=stL 53 [(1,.box () [.s .far () 1 (v1_0.map etI),.s .far () 1 (v1_1.map etI),.s .far () 1 (v1_2.map etI),.s .far () 1 (v1_3.map etI),.s .far () 1 (v1_4.map etI)]),(7,.one (.s .far () 1 (v7.map etI))),(10,.clo (.arr [0,1,2,3,4]) [1,1,1,1,1]),(11,.one (tI v11))]
abbrev jv:US→Exit→US→Prop:=Round E 88 (au Tryz.f88 1)
def Aa (v1_0 v1_1 v1_2 v1_3 v1_4:List Int) (v5 v6:Int) (v7:List Int) (v11:Int) (v23:List Int) (v24 v25:Int):sv→Prop
 | .ret zv2=>Loops E 88 (au Tryz.f88 1) (dX v1_0 v1_1 v1_2 v1_3 v1_4 v5 v6 v7 v11 v23 v24 v25) .ret (dp zv2)
 | .x2=>Loops E 88 (au Tryz.f88 1) (dX v1_0 v1_1 v1_2 v1_3 v1_4 v5 v6 v7 v11 v23 v24 v25) (.exit 2) (bZ v1_0 v1_1 v1_2 v1_3 v1_4 v7 v11)
noncomputable def cm (v5 v6:Int) (v7:List Int):List Int→Nat→Option sv
 | [],i=>some (.x2)
 | hd::rest,i=>cond (aB hd v5 v6)
  (cond (decide ((i:Int)>(0:Int)))
   ((aL v7 (IntKind.wrap .i64 ((i:Int)-(1:Int)))).bind fun g1=>cond (decide (hd≤g1))
    (some (.ret false))
    (cm v5 v6 v7 rest (i+1)))
   (cm v5 v6 v7 rest (i+1)))
  (some (.ret false))
theorem jw (v1_0 v1_1 v1_2 v1_3 v1_4:List Int) (v5 v6:Int) (v7:List Int) (v11:Int) (v23:List Int) (rest:List Int):∀ (i:Nat) ,(v23).drop i=rest→v23.length≤9223372036854775807→Ans (cm v5 v6 v7 rest i) (Aa v1_0 v1_1 v1_2 v1_3 v1_4 v5 v6 v7 v11 v23 (v23.length:Int) (i:Int)):=by
 induction rest with
 | nil =>
  intro i hE hl
  have hb:=bq hE
  unfold cm
  exact Ib (Id (show jv (dX v1_0 v1_1 v1_2 v1_3 v1_4 v5 v6 v7 v11 v23 (v23.length:Int) (i:Int)) (.exit 2) (bZ v1_0 v1_1 v1_2 v1_3 v1_4 v7 v11) from RP [.b false] (AC hb<|AN)) (by intro h;cases h))
 | cons hd rest ih =>
  intro i hE hl
  have hb:=a8 hE
  have hw:=ba hE hl
  have hE2:=aG hE
  have hg:=bd hE
  unfold cm
  apply Ie<;>intro h2
  ·apply Ie<;>intro h3
   ·refine If (fun g1 h4 => ?_)
    apply Ie<;>intro h5
    ·exact Ib (Id (show jv (dX v1_0 v1_1 v1_2 v1_3 v1_4 v5 v6 v7 v11 v23 (v23.length:Int) (i:Int)) .ret (dp false) from RP [.b true,.row (etI hd),rT,.b true,.row (etI g1),.b true] (AC hb<|AR etI hg<|AD (Ij (cC hd v5 v6) h2)<|AC h3<|AR etI h4<|AC h5<|AN)) (by intro h;cases h))
    ·exact (ih (i+1) hE2 hl).mono fun y hy=>by have r:jv (dX v1_0 v1_1 v1_2 v1_3 v1_4 v5 v6 v7 v11 v23 (v23.length:Int) (i:Int)) .normal (dX v1_0 v1_1 v1_2 v1_3 v1_4 v5 v6 v7 v11 v23 (v23.length:Int) (inc (i:Int))):=RP [.b true,.row (etI hd),rT,.b true,.row (etI g1),.b false] (AC hb<|AR etI hg<|AD (Ij (cC hd v5 v6) h2)<|AC h3<|AR etI h4<|AC h5<|AN);rw [hw] at r;cases y<;>exact Ic r hy
   ·exact (ih (i+1) hE2 hl).mono fun y hy=>by have r:jv (dX v1_0 v1_1 v1_2 v1_3 v1_4 v5 v6 v7 v11 v23 (v23.length:Int) (i:Int)) .normal (dX v1_0 v1_1 v1_2 v1_3 v1_4 v5 v6 v7 v11 v23 (v23.length:Int) (inc (i:Int))):=RP [.b true,.row (etI hd),rT,.b false] (AC hb<|AR etI hg<|AD (Ij (cC hd v5 v6) h2)<|AC h3<|AN);rw [hw] at r;cases y<;>exact Ic r hy
  ·exact Ib (Id (show jv (dX v1_0 v1_1 v1_2 v1_3 v1_4 v5 v6 v7 v11 v23 (v23.length:Int) (i:Int)) .ret (dp false) from RP [.b true,.row (etI hd),rF] (AC hb<|AR etI hg<|AD (Ij (cC hd v5 v6) h2)<|AN)) (by intro h;cases h))
inductive ob where
 | ret (v2:Bool)
 | x0 
def aX (v1_0 v1_1 v1_2 v1_3 v1_4:List Int) (v11:Int):US:=stL 53 [(1,.box () [.s .far () 1 (v1_0.map etI),.s .far () 1 (v1_1.map etI),.s .far () 1 (v1_2.map etI),.s .far () 1 (v1_3.map etI),.s .far () 1 (v1_4.map etI)]),(10,.clo (.arr [0,1,2,3,4]) [1,1,1,1,1]),(11,.one (tI v11))]
def bG (zv2:Bool):US:=stL 53 [(2,.one (tB zv2))]
def me  : US:=stL 53 []
abbrev bE:US→Exit→US→Prop:=Round E 88 (au Tryz.f88 0)
def z8 (v1_0 v1_1 v1_2 v1_3 v1_4:List Int) (v11:Int):ob→Prop
 | .ret zv2=>Loops E 88 (au Tryz.f88 0) (aX v1_0 v1_1 v1_2 v1_3 v1_4 v11) .ret (bG zv2)
 | .x0=>Loops E 88 (au Tryz.f88 0) (aX v1_0 v1_1 v1_2 v1_3 v1_4 v11) (.exit 0) (me)
noncomputable def be (v1_0 v1_1 v1_2 v1_3 v1_4:List Int):Nat→Int→Option ob
 | 0,_=>none
 | n+1,v11=>cond (decide (v11<(5:Int)))
  (cond (v11==(0:Int))
   (if v1_0.length≤9223372036854775807 then (cm ((aw v11).1) ((aw v11).2) v1_0 v1_0 0).bind fun y=>match y with
    | .ret w0_2=>(some (.ret w0_2))
    | .x2=>(cond ((v1_0.length:Int)==(0:Int))
     (some (.ret false))
     (be v1_0 v1_1 v1_2 v1_3 v1_4 n (inc v11))) else none)
   (cond (v11==(1:Int))
    (if v1_1.length≤9223372036854775807 then (cm ((aw v11).1) ((aw v11).2) v1_1 v1_1 0).bind fun y=>match y with
     | .ret w0_2=>(some (.ret w0_2))
     | .x2=>(cond ((v1_1.length:Int)==(0:Int))
      (some (.ret false))
      (be v1_0 v1_1 v1_2 v1_3 v1_4 n (inc v11))) else none)
    (cond (v11==(2:Int))
     (if v1_2.length≤9223372036854775807 then (cm ((aw v11).1) ((aw v11).2) v1_2 v1_2 0).bind fun y=>match y with
      | .ret w0_2=>(some (.ret w0_2))
      | .x2=>(cond ((v1_2.length:Int)==(0:Int))
       (some (.ret false))
       (be v1_0 v1_1 v1_2 v1_3 v1_4 n (inc v11))) else none)
     (cond (v11==(3:Int))
      (if v1_3.length≤9223372036854775807 then (cm ((aw v11).1) ((aw v11).2) v1_3 v1_3 0).bind fun y=>match y with
       | .ret w0_2=>(some (.ret w0_2))
       | .x2=>(cond ((v1_3.length:Int)==(0:Int))
        (some (.ret false))
        (be v1_0 v1_1 v1_2 v1_3 v1_4 n (inc v11))) else none)
      (if v11=(4:Int) then if v1_4.length≤9223372036854775807 then (cm ((aw v11).1) ((aw v11).2) v1_4 v1_4 0).bind fun y=>match y with
       | .ret w0_2=>(some (.ret w0_2))
       | .x2=>(cond ((v1_4.length:Int)==(0:Int))
        (some (.ret false))
        (be v1_0 v1_1 v1_2 v1_3 v1_4 n (inc v11))) else none else none)))))
  (some (.x0))
theorem z7 (v1_0 v1_1 v1_2 v1_3 v1_4:List Int) (n:Nat):∀ (v11:Int),Ans (be v1_0 v1_1 v1_2 v1_3 v1_4 n v11) (z8 v1_0 v1_1 v1_2 v1_3 v1_4 v11):=by
 induction n with
 | zero=>intros;exact Ans.none
 | succ n ih =>
  intro v11
  unfold be
  apply Ie<;>intro h0
  ·apply Ie<;>intro h1
   ·refine Ig (fun hl4 => ?_)
    refine If (fun y hy => ?_)
    replace hy:=jw v1_0 v1_1 v1_2 v1_3 v1_4 ((aw v11).1) ((aw v11).2) v1_0 v11 v1_0 v1_0 0 rfl hl4 y hy
    cases y with
    | ret w0_2 =>
     have h2:=hy
     exact Ib (Id (show bE (aX v1_0 v1_1 v1_2 v1_3 v1_4 v11) .ret (bG w0_2) from RP [.b true,.val (.int .i64 0),.ret [(false,[tI ((aw v11).1)]),(false,[tI ((aw v11).2)])],.val (.int .i64 (v1_0.length:Int)),.lp .ret (dp w0_2)] (AC h0<|AC (p:=v11=(0:Int)) (eq_of_beq h1)<|AD (bC v11)<|ALn v1_0 etI<|AL h2<|AN)) (by intro h;cases h))
    | x2 =>
     have h2:=hy
     apply Ie<;>intro h3
     ·exact Ib (Id (show bE (aX v1_0 v1_1 v1_2 v1_3 v1_4 v11) .ret (bG false) from RP [.b true,.val (.int .i64 0),.ret [(false,[tI ((aw v11).1)]),(false,[tI ((aw v11).2)])],.val (.int .i64 (v1_0.length:Int)),.lp (.exit 2) (bZ v1_0 v1_1 v1_2 v1_3 v1_4 v1_0 v11),.val (.int .i64 (v1_0.length:Int)),.b true] (AC h0<|AC (p:=v11=(0:Int)) (eq_of_beq h1)<|AD (bC v11)<|ALn v1_0 etI<|AL h2<|ALn v1_0 etI<|AC h3<|AN)) (by intro h;cases h))
     ·have r:bE (aX v1_0 v1_1 v1_2 v1_3 v1_4 v11) .normal (aX v1_0 v1_1 v1_2 v1_3 v1_4 (inc v11)):=RP [.b true,.val (.int .i64 0),.ret [(false,[tI ((aw v11).1)]),(false,[tI ((aw v11).2)])],.val (.int .i64 (v1_0.length:Int)),.lp (.exit 2) (bZ v1_0 v1_1 v1_2 v1_3 v1_4 v1_0 v11),.val (.int .i64 (v1_0.length:Int)),.b false] (AC h0<|AC (p:=v11=(0:Int)) (eq_of_beq h1)<|AD (bC v11)<|ALn v1_0 etI<|AL h2<|ALn v1_0 etI<|AC h3<|AN);exact (ih (inc v11)).mono fun y hy=>by cases y<;>exact Ic r hy
   ·apply Ie<;>intro h2
    ·refine Ig (fun hl5 => ?_)
     refine If (fun y hy => ?_)
     replace hy:=jw v1_0 v1_1 v1_2 v1_3 v1_4 ((aw v11).1) ((aw v11).2) v1_1 v11 v1_1 v1_1 0 rfl hl5 y hy
     cases y with
     | ret w0_2 =>
      have h3:=hy
      exact Ib (Id (show bE (aX v1_0 v1_1 v1_2 v1_3 v1_4 v11) .ret (bG w0_2) from RP [.b true,.val (.int .i64 1),.ret [(false,[tI ((aw v11).1)]),(false,[tI ((aw v11).2)])],.val (.int .i64 (v1_1.length:Int)),.lp .ret (dp w0_2)] (AC h0<|AC (p:=v11=(1:Int)) (eq_of_beq h2)<|AD (bC v11)<|ALn v1_1 etI<|AL h3<|AN)) (by intro h;cases h))
     | x2 =>
      have h3:=hy
      apply Ie<;>intro h4
      ·exact Ib (Id (show bE (aX v1_0 v1_1 v1_2 v1_3 v1_4 v11) .ret (bG false) from RP [.b true,.val (.int .i64 1),.ret [(false,[tI ((aw v11).1)]),(false,[tI ((aw v11).2)])],.val (.int .i64 (v1_1.length:Int)),.lp (.exit 2) (bZ v1_0 v1_1 v1_2 v1_3 v1_4 v1_1 v11),.val (.int .i64 (v1_1.length:Int)),.b true] (AC h0<|AC (p:=v11=(1:Int)) (eq_of_beq h2)<|AD (bC v11)<|ALn v1_1 etI<|AL h3<|ALn v1_1 etI<|AC h4<|AN)) (by intro h;cases h))
      ·have r:bE (aX v1_0 v1_1 v1_2 v1_3 v1_4 v11) .normal (aX v1_0 v1_1 v1_2 v1_3 v1_4 (inc v11)):=RP [.b true,.val (.int .i64 1),.ret [(false,[tI ((aw v11).1)]),(false,[tI ((aw v11).2)])],.val (.int .i64 (v1_1.length:Int)),.lp (.exit 2) (bZ v1_0 v1_1 v1_2 v1_3 v1_4 v1_1 v11),.val (.int .i64 (v1_1.length:Int)),.b false] (AC h0<|AC (p:=v11=(1:Int)) (eq_of_beq h2)<|AD (bC v11)<|ALn v1_1 etI<|AL h3<|ALn v1_1 etI<|AC h4<|AN);exact (ih (inc v11)).mono fun y hy=>by cases y<;>exact Ic r hy
    ·apply Ie<;>intro h3
     ·refine Ig (fun hl6 => ?_)
      refine If (fun y hy => ?_)
      replace hy:=jw v1_0 v1_1 v1_2 v1_3 v1_4 ((aw v11).1) ((aw v11).2) v1_2 v11 v1_2 v1_2 0 rfl hl6 y hy
      cases y with
      | ret w0_2 =>
       have h4:=hy
       exact Ib (Id (show bE (aX v1_0 v1_1 v1_2 v1_3 v1_4 v11) .ret (bG w0_2) from RP [.b true,.val (.int .i64 2),.ret [(false,[tI ((aw v11).1)]),(false,[tI ((aw v11).2)])],.val (.int .i64 (v1_2.length:Int)),.lp .ret (dp w0_2)] (AC h0<|AC (p:=v11=(2:Int)) (eq_of_beq h3)<|AD (bC v11)<|ALn v1_2 etI<|AL h4<|AN)) (by intro h;cases h))
      | x2 =>
       have h4:=hy
       apply Ie<;>intro h5
       ·exact Ib (Id (show bE (aX v1_0 v1_1 v1_2 v1_3 v1_4 v11) .ret (bG false) from RP [.b true,.val (.int .i64 2),.ret [(false,[tI ((aw v11).1)]),(false,[tI ((aw v11).2)])],.val (.int .i64 (v1_2.length:Int)),.lp (.exit 2) (bZ v1_0 v1_1 v1_2 v1_3 v1_4 v1_2 v11),.val (.int .i64 (v1_2.length:Int)),.b true] (AC h0<|AC (p:=v11=(2:Int)) (eq_of_beq h3)<|AD (bC v11)<|ALn v1_2 etI<|AL h4<|ALn v1_2 etI<|AC h5<|AN)) (by intro h;cases h))
       ·have r:bE (aX v1_0 v1_1 v1_2 v1_3 v1_4 v11) .normal (aX v1_0 v1_1 v1_2 v1_3 v1_4 (inc v11)):=RP [.b true,.val (.int .i64 2),.ret [(false,[tI ((aw v11).1)]),(false,[tI ((aw v11).2)])],.val (.int .i64 (v1_2.length:Int)),.lp (.exit 2) (bZ v1_0 v1_1 v1_2 v1_3 v1_4 v1_2 v11),.val (.int .i64 (v1_2.length:Int)),.b false] (AC h0<|AC (p:=v11=(2:Int)) (eq_of_beq h3)<|AD (bC v11)<|ALn v1_2 etI<|AL h4<|ALn v1_2 etI<|AC h5<|AN);exact (ih (inc v11)).mono fun y hy=>by cases y<;>exact Ic r hy
     ·apply Ie<;>intro h4
      ·refine Ig (fun hl7 => ?_)
       refine If (fun y hy => ?_)
       replace hy:=jw v1_0 v1_1 v1_2 v1_3 v1_4 ((aw v11).1) ((aw v11).2) v1_3 v11 v1_3 v1_3 0 rfl hl7 y hy
       cases y with
       | ret w0_2 =>
        have h5:=hy
        exact Ib (Id (show bE (aX v1_0 v1_1 v1_2 v1_3 v1_4 v11) .ret (bG w0_2) from RP [.b true,.val (.int .i64 3),.ret [(false,[tI ((aw v11).1)]),(false,[tI ((aw v11).2)])],.val (.int .i64 (v1_3.length:Int)),.lp .ret (dp w0_2)] (AC h0<|AC (p:=v11=(3:Int)) (eq_of_beq h4)<|AD (bC v11)<|ALn v1_3 etI<|AL h5<|AN)) (by intro h;cases h))
       | x2 =>
        have h5:=hy
        apply Ie<;>intro h6
        ·exact Ib (Id (show bE (aX v1_0 v1_1 v1_2 v1_3 v1_4 v11) .ret (bG false) from RP [.b true,.val (.int .i64 3),.ret [(false,[tI ((aw v11).1)]),(false,[tI ((aw v11).2)])],.val (.int .i64 (v1_3.length:Int)),.lp (.exit 2) (bZ v1_0 v1_1 v1_2 v1_3 v1_4 v1_3 v11),.val (.int .i64 (v1_3.length:Int)),.b true] (AC h0<|AC (p:=v11=(3:Int)) (eq_of_beq h4)<|AD (bC v11)<|ALn v1_3 etI<|AL h5<|ALn v1_3 etI<|AC h6<|AN)) (by intro h;cases h))
        ·have r:bE (aX v1_0 v1_1 v1_2 v1_3 v1_4 v11) .normal (aX v1_0 v1_1 v1_2 v1_3 v1_4 (inc v11)):=RP [.b true,.val (.int .i64 3),.ret [(false,[tI ((aw v11).1)]),(false,[tI ((aw v11).2)])],.val (.int .i64 (v1_3.length:Int)),.lp (.exit 2) (bZ v1_0 v1_1 v1_2 v1_3 v1_4 v1_3 v11),.val (.int .i64 (v1_3.length:Int)),.b false] (AC h0<|AC (p:=v11=(3:Int)) (eq_of_beq h4)<|AD (bC v11)<|ALn v1_3 etI<|AL h5<|ALn v1_3 etI<|AC h6<|AN);exact (ih (inc v11)).mono fun y hy=>by cases y<;>exact Ic r hy
      ·refine Ig (fun h5 => ?_)
       refine Ig (fun hl7 => ?_)
       refine If (fun y hy => ?_)
       replace hy:=jw v1_0 v1_1 v1_2 v1_3 v1_4 ((aw v11).1) ((aw v11).2) v1_4 v11 v1_4 v1_4 0 rfl hl7 y hy
       cases y with
       | ret w0_2 =>
        have h6:=hy
        exact Ib (Id (show bE (aX v1_0 v1_1 v1_2 v1_3 v1_4 v11) .ret (bG w0_2) from RP [.b true,.val (.int .i64 4),.ret [(false,[tI ((aw v11).1)]),(false,[tI ((aw v11).2)])],.val (.int .i64 (v1_4.length:Int)),.lp .ret (dp w0_2)] (AC h0<|AC h5<|AD (bC v11)<|ALn v1_4 etI<|AL h6<|AN)) (by intro h;cases h))
       | x2 =>
        have h6:=hy
        apply Ie<;>intro h7
        ·exact Ib (Id (show bE (aX v1_0 v1_1 v1_2 v1_3 v1_4 v11) .ret (bG false) from RP [.b true,.val (.int .i64 4),.ret [(false,[tI ((aw v11).1)]),(false,[tI ((aw v11).2)])],.val (.int .i64 (v1_4.length:Int)),.lp (.exit 2) (bZ v1_0 v1_1 v1_2 v1_3 v1_4 v1_4 v11),.val (.int .i64 (v1_4.length:Int)),.b true] (AC h0<|AC h5<|AD (bC v11)<|ALn v1_4 etI<|AL h6<|ALn v1_4 etI<|AC h7<|AN)) (by intro h;cases h))
        ·have r:bE (aX v1_0 v1_1 v1_2 v1_3 v1_4 v11) .normal (aX v1_0 v1_1 v1_2 v1_3 v1_4 (inc v11)):=RP [.b true,.val (.int .i64 4),.ret [(false,[tI ((aw v11).1)]),(false,[tI ((aw v11).2)])],.val (.int .i64 (v1_4.length:Int)),.lp (.exit 2) (bZ v1_0 v1_1 v1_2 v1_3 v1_4 v1_4 v11),.val (.int .i64 (v1_4.length:Int)),.b false] (AC h0<|AC h5<|AD (bC v11)<|ALn v1_4 etI<|AL h6<|ALn v1_4 etI<|AC h7<|AN);exact (ih (inc v11)).mono fun y hy=>by cases y<;>exact Ic r hy
  ·exact Ib (Id (show bE (aX v1_0 v1_1 v1_2 v1_3 v1_4 v11) (.exit 0) (me) from RP [.b false] (AC h0<|AN)) (by intro h;cases h))
noncomputable def mB (x0:GCron):Option (Bool) :=
  (be x0.f0 x0.f1 x0.f2 x0.f3 x0.f4 9223372036854775808 (0:Int)).bind fun y=>match y with
   | .ret w0_2=>(some (w0_2))
   | .x0=>(some (true))
theorem BS (x0:GCron):Ans (mB x0) (fun r=>Does E 88 [.agg (GCron.t .far x0)] [(false,[tB r])]):=by
 unfold mB
 refine If (fun y hy => ?_)
 replace hy:=z7 x0.f0 x0.f1 x0.f2 x0.f3 x0.f4 9223372036854775808 (0:Int) y hy
 cases y with
 | ret w0_2 =>
  have h0:=hy
  exact Ib (DP Tryz.f88 [.lp .ret (bG w0_2)] (AL h0<|AN))
 | x0 =>
  have h0:=hy
  exact Ib (DP Tryz.f88 [.lp (.exit 0) (me)] (AL h0<|AN))
theorem CC (aH:List Int) (a b:Int) (hl:aH.length≤1050000):∀ (rest:List Int) (i:Nat),aH.drop i=rest→cm a b aH rest i=some (if gM a b rest (fC aH i)=true then .x2 else .ret false)
 | [],i,_=>rfl
 | x::rest,i,h=>by
  have ih:=CC aH a b hl rest (i+1) (aG h)
  rw [wb h] at ih
  have hi:i<aH.length:=by
   rcases Nat.lt_or_ge i aH.length with g | g
   ·exact g
   ·rw [List.drop_eq_nil_of_le g] at h;cases h
  unfold cm gM
  rw [ih]
  cases aB x a b with
  | false=>rfl
  | true =>
   rw [cond_true,Bool.true_and]
   rcases A2 h with rfl | ⟨y,hy⟩
   ·simp [fC]
   ·by_cases z:i=0
    ·subst z;simp [fC]
    ·have hp:fC aH i=some y:=by unfold fC;rw [if_neg z,hy]
     have hg:aL aH (IntKind.wrap .i64 ((i:Int)-1))=some y:=by
      rw [cW _ (by omega) (by omega)]
      have e:((i:Int)-1)=((i-1:Nat):Int):=by omega
      rw [e,fJ,hy]
     rw [hp,hg,decide_eq_true (by omega:(i:Int)>0),cond_true,Option.bind_some]
     simp only
     by_cases c:y≥x
     ·have yx:¬ y<x:=by omega
      rw [decide_eq_true (show x≤y from c),cond_true];simp [yx]
     ·have yx:y<x:=by omega
      rw [decide_eq_false (show ¬ x≤y from c),cond_false];simp [yx]
theorem kw (l:List Int) (a b:Int) (hl:l.length≤1050000) (K:Option ob) :
  ((cm a b l l 0).bind fun y=>match y with
    | .ret w=>some (.ret w)
    | .x2=>cond ((l.length:Int)==(0:Int)) (some (.ret false)) K)=(cond (aM l a b) K (some (.ret false))):=by
 rw [CC l a b hl l 0 rfl]
 unfold aM fC
 rw [if_pos rfl]
 cases gM a b l none with
 | false=>rfl
 | true =>
  simp only [if_true,Option.bind_some,Bool.true_and]
  cases l with
  | nil=>rfl
  | cons x l =>
   rw [show (((x::l).length:Int)==(0:Int))=false from beq_eq_false_iff_ne.2 (by simp<;>omega),decide_eq_true (by simp<;>omega)]
   rfl
theorem DX (c:GCron) (h:an.sm c):mB c=some (fq c):=by
 have h0:=h.1.1
 have h1:=h.2.1.1
 have h2:=h.2.2.1.1
 have h3:=h.2.2.2.1.1
 have h4:=h.2.2.2.2.1
 unfold mB
 have e0:∀ n,be c.f0 c.f1 c.f2 c.f3 c.f4 (n+6) 0=some (if fq c=true then .x0 else .ret false):=by
  intro n
  have s5:be c.f0 c.f1 c.f2 c.f3 c.f4 (n+1) (inc (inc (inc (inc (inc 0)))))=some .x0:=rfl
  have s4:be c.f0 c.f1 c.f2 c.f3 c.f4 (n+2) (inc (inc (inc (inc 0))))=cond (aM c.f4 0 6) (some .x0) (some (.ret false)):=by
   rw [← kw c.f4 0 6 h4, ← s5]
   conv=>lhs;unfold be
   show (if inc (inc (inc (inc 0)))=4 then (if c.f4.length≤9223372036854775807 then _ else none) else none)=_
   rw [if_pos (by rfl),if_pos (by omega)]
   rfl
  have s3:be c.f0 c.f1 c.f2 c.f3 c.f4 (n+3) (inc (inc (inc 0)))=cond (aM c.f3 1 12) (cond (aM c.f4 0 6) (some .x0) (some (.ret false))) (some (.ret false)):=by
   rw [← kw c.f3 1 12 h3, ← s4]
   conv=>lhs;unfold be
   show (if c.f3.length≤9223372036854775807 then _ else none)=_
   rw [if_pos (by omega)]
   rfl
  have s2:be c.f0 c.f1 c.f2 c.f3 c.f4 (n+4) (inc (inc 0))=cond (aM c.f2 1 31) (cond (aM c.f3 1 12) (cond (aM c.f4 0 6) (some .x0) (some (.ret false))) (some (.ret false))) (some (.ret false)):=by
   rw [← kw c.f2 1 31 h2, ← s3]
   conv=>lhs;unfold be
   show (if c.f2.length≤9223372036854775807 then _ else none)=_
   rw [if_pos (by omega)]
   rfl
  have s1:be c.f0 c.f1 c.f2 c.f3 c.f4 (n+5) (inc 0)=cond (aM c.f1 0 23) (cond (aM c.f2 1 31) (cond (aM c.f3 1 12) (cond (aM c.f4 0 6) (some .x0) (some (.ret false))) (some (.ret false))) (some (.ret false))) (some (.ret false)):=by
   rw [← kw c.f1 0 23 h1, ← s2]
   conv=>lhs;unfold be
   show (if c.f1.length≤9223372036854775807 then _ else none)=_
   rw [if_pos (by omega)]
   rfl
  have s0:be c.f0 c.f1 c.f2 c.f3 c.f4 (n+6) 0=cond (aM c.f0 0 59) (cond (aM c.f1 0 23) (cond (aM c.f2 1 31) (cond (aM c.f3 1 12) (cond (aM c.f4 0 6) (some .x0) (some (.ret false))) (some (.ret false))) (some (.ret false))) (some (.ret false))) (some (.ret false)):=by
   rw [← kw c.f0 0 59 h0, ← s1]
   conv=>lhs;unfold be
   show (if c.f0.length≤9223372036854775807 then _ else none)=_
   rw [if_pos (by omega)]
   rfl
  rw [s0]
  unfold fq
  cases aM c.f0 0 59<;>cases aM c.f1 0 23<;>cases aM c.f2 1 31<;>cases aM c.f3 1 12<;>cases aM c.f4 0 6<;>rfl
 rw [e0 9223372036854775802]
 cases fq c<;>rfl
theorem tF (x0:GCron) (h:an.sm x0):Does E 88 [.agg (GCron.t .far x0)] [(false,[tB (fq x0)])]:=by
 exact BS x0 _ (DX x0 h)
noncomputable def q9 (x0:List Int) (x1:Int):Option (Bool) :=
  some ((x0.length:Int)==(inc (IntKind.wrap .i64 (((aw x1).2)-((aw x1).1)))))
theorem C2 (x0:List Int) (x1:Int):Ans (q9 x0 x1) (fun r=>Does E 89 [.one (.s .far () 1 (x0.map etI)),.one (tI x1)] [(false,[tB r])]):=by
 unfold q9
 exact Ib (DP Tryz.f89 [.ret [(false,[tI ((aw x1).1)]),(false,[tI ((aw x1).2)])],.val (.int .i64 (x0.length:Int))] (AD (bC x1)<|ALn x0 etI<|AN))
noncomputable def kI (l:List Int) (i:Int):Bool:=(q9 l i).getD false
theorem eI (x0:List Int) (x1:Int):Does E 89 [.one (.s .far () 1 (x0.map etI)),.one (tI x1)] [(false,[tB (kI x0 x1)])]:=by
 exact C2 x0 x1 _ rfl
end Go.Proofs.YtjfbofdmjihglaaGreatDoor.Am
namespace Go.Proofs.YtjfbofdmjihglaaGreatDoor.Am
open Go Go.Proofs Classical
set_option maxRecDepth 100000
set_option linter.unusedVariables false
set_option linter.unusedSimpArgs false
inductive rH where
 | x0 (v5:ByteArray)
def fZ (v0:List Int) (v5:ByteArray) (v6:Int):US:=stL 29 [(0,.one (.s .far () 1 (v0.map etI))),(5,.one (tS v5)),(6,.one (tI v6))]
def lD (zv5:ByteArray):US:=stL 29 [(5,.one (tS zv5))]
abbrev nl:US→Exit→US→Prop:=Round E 79 (au Tryz.f79 0)
def zd (v0:List Int) (v5:ByteArray) (v6:Int):rH→Prop
 | .x0 zv5=>Loops E 79 (au Tryz.f79 0) (fZ v0 v5 v6) (.exit 0) (lD zv5)
noncomputable def c9  : List Int→Nat→ByteArray→Option rH
 | [],i,v5=>some (.x0 v5)
 | hd::rest,i,v5=>cond (decide ((i:Int)>(0:Int)))
  (if v5.size+(⟨#[44]⟩:ByteArray).size≤ak then if -9223372036854775808≤hd∧hd≤9223372036854775807 then if (v5++(⟨#[44]⟩:ByteArray)).size+(af hd).size≤ak then c9 rest (i+1) ((v5++(⟨#[44]⟩:ByteArray))++(af hd)) else none else none else none)
  (if -9223372036854775808≤hd∧hd≤9223372036854775807 then if v5.size+(af hd).size≤ak then c9 rest (i+1) (v5++(af hd)) else none else none)
theorem zc (v0:List Int) (rest:List Int):∀ (i:Nat) (v5:ByteArray),(v0).drop i=rest→v0.length≤9223372036854775807→Ans (c9 rest i v5) (zd v0 v5 (i:Int)):=by
 induction rest with
 | nil =>
  intro i v5 hE hl
  have hb:=bq hE
  unfold c9
  exact Ib (Id (show nl (fZ v0 v5 (i:Int)) (.exit 0) (lD v5) from RP [.val (.int .i64 (v0.length:Int)),.b false] (ALn v0 etI<|AC hb<|AN)) (by intro h;cases h))
 | cons hd rest ih =>
  intro i v5 hE hl
  have hb:=a8 hE
  have hw:=ba hE hl
  have hE2:=aG hE
  have hg:=bd hE
  unfold c9
  apply Ie<;>intro h1
  ·refine Ig (fun h2 => ?_)
   refine Ig (fun h4 => ?_)
   refine Ig (fun h5 => ?_)
   exact (ih (i+1) ((v5++(⟨#[44]⟩:ByteArray))++(af hd)) hE2 hl).mono fun y hy=>by have r:nl (fZ v0 v5 (i:Int)) .normal (fZ v0 ((v5++(⟨#[44]⟩:ByteArray))++(af hd)) (inc (i:Int))):=RP [.val (.int .i64 (v0.length:Int)),.b true,.b true,.val (.string (v5++(⟨#[44]⟩:ByteArray))),.row (etI hd),.ret [(false,[tS (af hd)])],.val (.string ((v5++(⟨#[44]⟩:ByteArray))++(af hd)))] (ALn v0 etI<|AC hb<|AC h1<|AC (ai (tab:=E.tab) (t:=9) h2)<|AR etI hg<|AD (cD hd h4)<|AC (ai (tab:=E.tab) (t:=9) h5)<|AN);rw [hw] at r;cases y<;>exact Ic r hy
  ·refine Ig (fun h3 => ?_)
   refine Ig (fun h4 => ?_)
   exact (ih (i+1) (v5++(af hd)) hE2 hl).mono fun y hy=>by have r:nl (fZ v0 v5 (i:Int)) .normal (fZ v0 (v5++(af hd)) (inc (i:Int))):=RP [.val (.int .i64 (v0.length:Int)),.b true,.b false,.row (etI hd),.ret [(false,[tS (af hd)])],.val (.string (v5++(af hd)))] (ALn v0 etI<|AC hb<|AC h1<|AR etI hg<|AD (cD hd h3)<|AC (ai (tab:=E.tab) (t:=9) h4)<|AN);rw [hw] at r;cases y<;>exact Ic r hy
noncomputable def lV (x0:List Int) (x1:Int):Option (ByteArray) :=
  cond ((x0.length:Int)==x1)
   (some ((⟨#[42]⟩:ByteArray)))
   (if x0.length≤9223372036854775807 then (c9 x0 0 ByteArray.empty).bind fun y=>match y with
    | .x0 w0_5=>(some (w0_5)) else none)
theorem AB (x0:List Int) (x1:Int):Ans (lV x0 x1) (fun r=>Does E 79 [.one (.s .far () 1 (x0.map etI)),.one (tI x1)] [(false,[tS r])]):=by
 unfold lV
 apply Ie<;>intro h0
 ·exact Ib (DP Tryz.f79 [.val (.int .i64 (x0.length:Int)),.b true] (ALn x0 etI<|AC h0<|AN))
 ·refine Ig (fun hl2 => ?_)
  refine If (fun y hy => ?_)
  replace hy:=zc x0 x0 0 ByteArray.empty rfl hl2 y hy
  cases y with
  | x0 w0_5 =>
   have h1:=hy
   exact Ib (DP Tryz.f79 [.val (.int .i64 (x0.length:Int)),.b false,.lp (.exit 0) (lD w0_5)] (ALn x0 etI<|AC h0<|AL h1<|AN))
def dT (c:UInt8):List (List UInt8)→List UInt8
 | []=>[]
 | x::xs=>x++(xs.map fun y=>c::y).flatten
theorem rh (c:UInt8):∀ xs:List (List UInt8),Lib.join xs [c]=dT c xs
 | []=>rfl
 | [x]=>by simp [Lib.join,List.intercalate,dT]
 | x::y::xs=>by
  have ih:=rh c (y::xs)
  unfold Lib.join List.intercalate at ih ⊢
  rw [List.intersperse_cons_cons,List.flatten_cons,List.flatten_cons,ih]
  simp [dT]
theorem mm (xs:List (List UInt8)) (c:UInt8):ax (xs.map ofTx) ⟨#[c]⟩=ofTx (dT c xs):=by
 unfold ax
 have:(xs.map ofTx).map (fun s:ByteArray=>s.data.toList)=xs:=by
  rw [List.map_map]
  conv=>rhs;rw [← List.map_id xs]
  rfl
 rw [this]
 show ofTx (Lib.join xs [c])=_
 rw [rh]
theorem nW (c:UInt8) (k:Nat):∀ xs:List (List UInt8),(∀ x∈xs,x.length≤k)→(dT c xs).length≤xs.length*(k+1)
 | [],_=>by simp [dT]
 | x::xs,h=>by
  have hx:=h x (by simp)
  have:∀ ys:List (List UInt8),(∀ y∈ys,y.length≤k)→((ys.map fun y=>c::y).flatten).length≤ys.length*(k+1):=by
   intro ys
   induction ys with
   | nil=>intro _;simp
   | cons y ys ih =>
    intro h
    have:=ih fun z hz=>h z (by simp [hz])
    have:=h y (by simp)
    simp [Nat.add_mul] at *
    omega
  have:=this xs fun y hy=>h y (by simp [hy])
  simp only [dT,List.length_append,List.length_cons,Nat.add_mul]
  omega
theorem px {x:Int} (h:0≤x∧x≤59):(tx (af x)).length≤2:=by
 show (Lib.itoa x).length≤2
 unfold Lib.itoa
 rw [if_neg (by omega)]
 exact mA 1 _ (by omega)
noncomputable def av (l:List Int) (size:Int):ByteArray:=cond ((l.length:Int)==size) ⟨#[42]⟩ (ofTx (dT 44 (l.map fun x=>tx (af x))))
theorem ek {l:List Int} (hl:l.length≤60) (h:∀ z∈l,0≤z∧z≤59) (n:Int):(av l n).size≤200:=by
 unfold av
 cases (l.length:Int)==n with
 | true=>exact (by decide:(⟨#[42]⟩:ByteArray).size≤200)
 | false =>
  rw [cond_false,kk]
  have:=nW 44 2 (l.map fun x=>tx (af x)) (fun y hy=>by
   obtain ⟨x,hx,rfl⟩:=List.mem_map.1 hy
   exact px (h x hx))
  rw [List.length_map] at this
  omega
theorem DB:∀ (l:List Int) (i:Nat) (v:List UInt8),(∀ z∈l,0≤z∧z≤59)→0<i→v.length+l.length*3≤1000→c9 l i (ofTx v)=some (.x0 (ofTx (v++((l.map fun x=>44::tx (af x)).flatten))))
 | [],i,v,_,_,_=>by unfold c9;simp
 | x::l,i,v,h,hi,hl=>by
  have hx:=h x (by simp)
  have hz:=px hx
  have e44:(⟨#[44]⟩:ByteArray)=ofTx [44]:=rfl
  simp only [List.length_cons] at hl
  unfold c9
  rw [decide_eq_true (by omega),cond_true,e44,lr, ← oR (af x),lr]
  simp only [kk,hU]
  rw [if_pos (by simp [ak];omega),if_pos (by omega),if_pos (by simp [ak];omega),DB l (i+1) _ (fun z hz=>h z (by simp [hz])) (by omega) (by simp;omega)]
  simp
theorem Ff (l:List Int) (n:Int) (hl:l.length≤60) (h:∀ z∈l,0≤z∧z≤59):lV l n=some (av l n):=by
 unfold lV av
 cases (l.length:Int)==n with
 | true=>rfl
 | false =>
  rw [cond_false,cond_false,if_pos (by omega)]
  cases l with
  | nil=>rfl
  | cons x l =>
   have hx:=h x (by simp)
   have hz:=px hx
   simp only [List.length_cons] at hl
   unfold c9
   have e:ByteArray.empty++af x=ofTx (tx (af x)):=by
    show ofTx []++ofTx (tx (af x))=_
    rw [lr];rfl
   have hz':(af x).size≤2:=by rw [br];exact hz
   have e0:ByteArray.empty.size=0:=rfl
   rw [decide_eq_false (by omega),cond_false,if_pos (by omega),if_pos (by rw [e0];unfold ak;omega),e,DB l _ _ (fun z hz=>h z (by simp [hz])) (by omega) (by omega),Option.bind_some]
   simp only [List.map_cons,dT,List.map_map]
   rfl
theorem jr (x0:List Int) (x1:Int) (h1:x0.length≤60) (h2:∀ z∈x0,0≤z∧z≤59):Does E 79 [.one (.s .far () 1 (x0.map etI)),.one (tI x1)] [(false,[tS (av x0 x1)])]:=by
 exact AB x0 x1 _ (Ff x0 x1 h1 h2)
noncomputable def kV (x0:GCron):Option (ByteArray×Bool) :=
  if an.sm x0 then cond (fq x0)
   (if x0.f0.length≤60 then if ∀ z∈x0.f0,0≤z∧z≤59 then if (av x0.f0 (60:Int)).size+(⟨#[32]⟩:ByteArray).size≤ak then if x0.f1.length≤60 then if ∀ z∈x0.f1,0≤z∧z≤59 then if ((av x0.f0 (60:Int))++(⟨#[32]⟩:ByteArray)).size+(av x0.f1 (24:Int)).size≤ak then if (((av x0.f0 (60:Int))++(⟨#[32]⟩:ByteArray))++(av x0.f1 (24:Int))).size+(⟨#[32]⟩:ByteArray).size≤ak then if x0.f2.length≤60 then if ∀ z∈x0.f2,0≤z∧z≤59 then if ((((av x0.f0 (60:Int))++(⟨#[32]⟩:ByteArray))++(av x0.f1 (24:Int)))++(⟨#[32]⟩:ByteArray)).size+(av x0.f2 (31:Int)).size≤ak then if (((((av x0.f0 (60:Int))++(⟨#[32]⟩:ByteArray))++(av x0.f1 (24:Int)))++(⟨#[32]⟩:ByteArray))++(av x0.f2 (31:Int))).size+(⟨#[32]⟩:ByteArray).size≤ak then if x0.f3.length≤60 then if ∀ z∈x0.f3,0≤z∧z≤59 then if ((((((av x0.f0 (60:Int))++(⟨#[32]⟩:ByteArray))++(av x0.f1 (24:Int)))++(⟨#[32]⟩:ByteArray))++(av x0.f2 (31:Int)))++(⟨#[32]⟩:ByteArray)).size+(av x0.f3 (12:Int)).size≤ak then if (((((((av x0.f0 (60:Int))++(⟨#[32]⟩:ByteArray))++(av x0.f1 (24:Int)))++(⟨#[32]⟩:ByteArray))++(av x0.f2 (31:Int)))++(⟨#[32]⟩:ByteArray))++(av x0.f3 (12:Int))).size+(⟨#[32]⟩:ByteArray).size≤ak then if x0.f4.length≤60 then if ∀ z∈x0.f4,0≤z∧z≤59 then if ((((((((av x0.f0 (60:Int))++(⟨#[32]⟩:ByteArray))++(av x0.f1 (24:Int)))++(⟨#[32]⟩:ByteArray))++(av x0.f2 (31:Int)))++(⟨#[32]⟩:ByteArray))++(av x0.f3 (12:Int)))++(⟨#[32]⟩:ByteArray)).size+(av x0.f4 (7:Int)).size≤ak then some (((((((((av x0.f0 (60:Int))++(⟨#[32]⟩:ByteArray))++(av x0.f1 (24:Int)))++(⟨#[32]⟩:ByteArray))++(av x0.f2 (31:Int)))++(⟨#[32]⟩:ByteArray))++(av x0.f3 (12:Int)))++(⟨#[32]⟩:ByteArray))++(av x0.f4 (7:Int)),true) else none else none else none else none else none else none else none else none else none else none else none else none else none else none else none else none else none else none)
   (some (ByteArray.empty,false)) else none
theorem yY (x0:GCron):Ans (kV x0) (fun r=>Does E 56 [.agg (GCron.t .far x0)] [(false,[tS r.1]),(false,[tB r.2])]):=by
 unfold kV
 refine Ig (fun h0 => ?_)
 apply Ie<;>intro h1
 ·refine Ig (fun h2 => ?_)
  refine Ig (fun h3 => ?_)
  refine Ig (fun h4 => ?_)
  refine Ig (fun h5 => ?_)
  refine Ig (fun h6 => ?_)
  refine Ig (fun h7 => ?_)
  refine Ig (fun h8 => ?_)
  refine Ig (fun h9 => ?_)
  refine Ig (fun h10 => ?_)
  refine Ig (fun h11 => ?_)
  refine Ig (fun h12 => ?_)
  refine Ig (fun h13 => ?_)
  refine Ig (fun h14 => ?_)
  refine Ig (fun h15 => ?_)
  refine Ig (fun h16 => ?_)
  refine Ig (fun h17 => ?_)
  refine Ig (fun h18 => ?_)
  refine Ig (fun h19 => ?_)
  exact Ib (DP Tryz.f56 [rT,.ret [(false,[tS (av x0.f0 (60:Int))])],.val (.string ((av x0.f0 (60:Int))++(⟨#[32]⟩:ByteArray))),.ret [(false,[tS (av x0.f1 (24:Int))])],.val (.string (((av x0.f0 (60:Int))++(⟨#[32]⟩:ByteArray))++(av x0.f1 (24:Int)))),.val (.string ((((av x0.f0 (60:Int))++(⟨#[32]⟩:ByteArray))++(av x0.f1 (24:Int)))++(⟨#[32]⟩:ByteArray))),.ret [(false,[tS (av x0.f2 (31:Int))])],.val (.string (((((av x0.f0 (60:Int))++(⟨#[32]⟩:ByteArray))++(av x0.f1 (24:Int)))++(⟨#[32]⟩:ByteArray))++(av x0.f2 (31:Int)))),.val (.string ((((((av x0.f0 (60:Int))++(⟨#[32]⟩:ByteArray))++(av x0.f1 (24:Int)))++(⟨#[32]⟩:ByteArray))++(av x0.f2 (31:Int)))++(⟨#[32]⟩:ByteArray))),.ret [(false,[tS (av x0.f3 (12:Int))])],.val (.string (((((((av x0.f0 (60:Int))++(⟨#[32]⟩:ByteArray))++(av x0.f1 (24:Int)))++(⟨#[32]⟩:ByteArray))++(av x0.f2 (31:Int)))++(⟨#[32]⟩:ByteArray))++(av x0.f3 (12:Int)))),.val (.string ((((((((av x0.f0 (60:Int))++(⟨#[32]⟩:ByteArray))++(av x0.f1 (24:Int)))++(⟨#[32]⟩:ByteArray))++(av x0.f2 (31:Int)))++(⟨#[32]⟩:ByteArray))++(av x0.f3 (12:Int)))++(⟨#[32]⟩:ByteArray))),.ret [(false,[tS (av x0.f4 (7:Int))])],.val (.string (((((((((av x0.f0 (60:Int))++(⟨#[32]⟩:ByteArray))++(av x0.f1 (24:Int)))++(⟨#[32]⟩:ByteArray))++(av x0.f2 (31:Int)))++(⟨#[32]⟩:ByteArray))++(av x0.f3 (12:Int)))++(⟨#[32]⟩:ByteArray))++(av x0.f4 (7:Int))))] (AD (Ij (tJ x0 h0) h1)<|AD (jr x0.f0 (60:Int) h2 h3)<|AC (ai (tab:=E.tab) (t:=9) h4)<|AD (jr x0.f1 (24:Int) h5 h6)<|AC (ai (tab:=E.tab) (t:=9) h7)<|AC (ai (tab:=E.tab) (t:=9) h8)<|AD (jr x0.f2 (31:Int) h9 h10)<|AC (ai (tab:=E.tab) (t:=9) h11)<|AC (ai (tab:=E.tab) (t:=9) h12)<|AD (jr x0.f3 (12:Int) h13 h14)<|AC (ai (tab:=E.tab) (t:=9) h15)<|AC (ai (tab:=E.tab) (t:=9) h16)<|AD (jr x0.f4 (7:Int) h17 h18)<|AC (ai (tab:=E.tab) (t:=9) h19)<|AN))
 ·exact Ib (DP Tryz.f56 [rF] (AD (Ij (tJ x0 h0) h1)<|AN))
inductive pZ where
 | x2 (v7:List ByteArray)
def jE (v1_0 v1_1 v1_2 v1_3 v1_4:List Int) (v4 v7:List ByteArray) (v14:Int) (v28:List Int) (v29 v30:Int):US:=stL 48 [(1,.box () [.s .far () 1 (v1_0.map etI),.s .far () 1 (v1_1.map etI),.s .far () 1 (v1_2.map etI),.s .far () 1 (v1_3.map etI),.s .far () 1 (v1_4.map etI)]),(4,.one (.s .own () 1 (v4.map etS))),(7,.one (.s .own () 1 (v7.map etS))),(13,.clo (.arr [0,1,2,3,4]) [1,1,1,1,1]),(14,.one (tI v14)),(28,.one (.s .far () 1 (v28.map etI))),(29,.one (tI v29)),(30,.one (tI v30))]
def dD (v1_0 v1_1 v1_2 v1_3 v1_4:List Int) (v4:List ByteArray) (v14:Int) (zv7:List ByteArray):US:=stL 48 [(1,.box () [.s .far () 1 (v1_0.map etI),.s .far () 1 (v1_1.map etI),.s .far () 1 (v1_2.map etI),.s .far () 1 (v1_3.map etI),.s .far () 1 (v1_4.map etI)]),(4,.one (.s .own () 1 (v4.map etS))),(7,.one (.s .own () 1 (zv7.map etS))),(13,.clo (.arr [0,1,2,3,4]) [1,1,1,1,1]),(14,.one (tI v14))]
abbrev pY:US→Exit→US→Prop:=Round E 69 (au Tryz.f69 1)
def wB (v1_0 v1_1 v1_2 v1_3 v1_4:List Int) (v4 v7:List ByteArray) (v14:Int) (v28:List Int) (v29 v30:Int):pZ→Prop
 | .x2 zv7=>Loops E 69 (au Tryz.f69 1) (jE v1_0 v1_1 v1_2 v1_3 v1_4 v4 v7 v14 v28 v29 v30) (.exit 2) (dD v1_0 v1_1 v1_2 v1_3 v1_4 v4 v14 zv7)
noncomputable def bH  : List Int→Nat→(List ByteArray)→Option pZ
 | [],i,v7=>some (.x2 v7)
 | hd::rest,i,v7=>if -9223372036854775808≤hd∧hd≤9223372036854775807 then if (v7.length+([af hd]).length)*16≤140737488355328∧v7.length+([af hd]).length≤4611686018427387904 then bH rest (i+1) (v7++([af hd])) else none else none
theorem gJ (v1_0 v1_1 v1_2 v1_3 v1_4:List Int) (v4:List ByteArray) (v14:Int) (v28:List Int) (rest:List Int):∀ (i:Nat) (v7:List ByteArray),(v28).drop i=rest→v28.length≤9223372036854775807→Ans (bH rest i v7) (wB v1_0 v1_1 v1_2 v1_3 v1_4 v4 v7 v14 v28 (v28.length:Int) (i:Int)):=by
 induction rest with
 | nil =>
  intro i v7 hE hl
  have hb:=bq hE
  unfold bH
  exact Ib (Id (show pY (jE v1_0 v1_1 v1_2 v1_3 v1_4 v4 v7 v14 v28 (v28.length:Int) (i:Int)) (.exit 2) (dD v1_0 v1_1 v1_2 v1_3 v1_4 v4 v14 v7) from RP [.b false] (AC hb<|AN)) (by intro h;cases h))
 | cons hd rest ih =>
  intro i v7 hE hl
  have hb:=a8 hE
  have hw:=ba hE hl
  have hE2:=aG hE
  have hg:=bd hE
  unfold bH
  refine Ig (fun h2 => ?_)
  refine Ig (fun h3 => ?_)
  exact (ih (i+1) (v7++([af hd])) hE2 hl).mono fun y hy=>by have r:pY (jE v1_0 v1_1 v1_2 v1_3 v1_4 v4 v7 v14 v28 (v28.length:Int) (i:Int)) .normal (jE v1_0 v1_1 v1_2 v1_3 v1_4 v4 (v7++([af hd])) v14 v28 (v28.length:Int) (inc (i:Int))):=RP [.b true,.row (etI hd),.ret [(false,[tS (af hd)])],.rows ((v7++([af hd])).map etS)] (AC hb<|AR etI hg<|AD (cY hd h2)<|AAp etS (fun _=>rfl) h3<|AN);rw [hw] at r;cases y<;>exact Ic r hy
inductive mf where
 | x0 (v4:List ByteArray)
def aO (v1_0 v1_1 v1_2 v1_3 v1_4:List Int) (v4:List ByteArray) (v14:Int):US:=stL 48 [(1,.box () [.s .far () 1 (v1_0.map etI),.s .far () 1 (v1_1.map etI),.s .far () 1 (v1_2.map etI),.s .far () 1 (v1_3.map etI),.s .far () 1 (v1_4.map etI)]),(4,.one (.s .own () 1 (v4.map etS))),(13,.clo (.arr [0,1,2,3,4]) [1,1,1,1,1]),(14,.one (tI v14))]
def kz (zv4:List ByteArray):US:=stL 48 [(4,.one (.s .own () 1 (zv4.map etS)))]
abbrev ce:US→Exit→US→Prop:=Round E 69 (au Tryz.f69 0)
def wA (v1_0 v1_1 v1_2 v1_3 v1_4:List Int) (v4:List ByteArray) (v14:Int):mf→Prop
 | .x0 zv4=>Loops E 69 (au Tryz.f69 0) (aO v1_0 v1_1 v1_2 v1_3 v1_4 v4 v14) (.exit 0) (kz zv4)
noncomputable def az (v1_0 v1_1 v1_2 v1_3 v1_4:List Int):Nat→(List ByteArray)→Int→Option mf
 | 0,_,_=>none
 | n+1,v4,v14=>cond (decide (v14<(5:Int)))
  (cond (v14==(0:Int))
   (cond (kI v1_0 v14)
    (if (v4.length+([(⟨#[42]⟩:ByteArray)]).length)*16≤140737488355328∧v4.length+([(⟨#[42]⟩:ByteArray)]).length≤4611686018427387904 then az v1_0 v1_1 v1_2 v1_3 v1_4 n (v4++([(⟨#[42]⟩:ByteArray)])) (inc v14) else none)
    (if v1_0.length≤9223372036854775807 then (bH v1_0 0 ([])).bind fun y=>match y with
     | .x2 w0_7=>(if w0_7.length≤140737488355328∧(ax w0_7 (⟨#[44]⟩:ByteArray)).size≤140737488355328 then if (v4.length+([ax w0_7 (⟨#[44]⟩:ByteArray)]).length)*16≤140737488355328∧v4.length+([ax w0_7 (⟨#[44]⟩:ByteArray)]).length≤4611686018427387904 then az v1_0 v1_1 v1_2 v1_3 v1_4 n (v4++([ax w0_7 (⟨#[44]⟩:ByteArray)])) (inc v14) else none else none) else none))
   (cond (v14==(1:Int))
    (cond (kI v1_1 v14)
     (if (v4.length+([(⟨#[42]⟩:ByteArray)]).length)*16≤140737488355328∧v4.length+([(⟨#[42]⟩:ByteArray)]).length≤4611686018427387904 then az v1_0 v1_1 v1_2 v1_3 v1_4 n (v4++([(⟨#[42]⟩:ByteArray)])) (inc v14) else none)
     (if v1_1.length≤9223372036854775807 then (bH v1_1 0 ([])).bind fun y=>match y with
      | .x2 w0_7=>(if w0_7.length≤140737488355328∧(ax w0_7 (⟨#[44]⟩:ByteArray)).size≤140737488355328 then if (v4.length+([ax w0_7 (⟨#[44]⟩:ByteArray)]).length)*16≤140737488355328∧v4.length+([ax w0_7 (⟨#[44]⟩:ByteArray)]).length≤4611686018427387904 then az v1_0 v1_1 v1_2 v1_3 v1_4 n (v4++([ax w0_7 (⟨#[44]⟩:ByteArray)])) (inc v14) else none else none) else none))
    (cond (v14==(2:Int))
     (cond (kI v1_2 v14)
      (if (v4.length+([(⟨#[42]⟩:ByteArray)]).length)*16≤140737488355328∧v4.length+([(⟨#[42]⟩:ByteArray)]).length≤4611686018427387904 then az v1_0 v1_1 v1_2 v1_3 v1_4 n (v4++([(⟨#[42]⟩:ByteArray)])) (inc v14) else none)
      (if v1_2.length≤9223372036854775807 then (bH v1_2 0 ([])).bind fun y=>match y with
       | .x2 w0_7=>(if w0_7.length≤140737488355328∧(ax w0_7 (⟨#[44]⟩:ByteArray)).size≤140737488355328 then if (v4.length+([ax w0_7 (⟨#[44]⟩:ByteArray)]).length)*16≤140737488355328∧v4.length+([ax w0_7 (⟨#[44]⟩:ByteArray)]).length≤4611686018427387904 then az v1_0 v1_1 v1_2 v1_3 v1_4 n (v4++([ax w0_7 (⟨#[44]⟩:ByteArray)])) (inc v14) else none else none) else none))
     (cond (v14==(3:Int))
      (cond (kI v1_3 v14)
       (if (v4.length+([(⟨#[42]⟩:ByteArray)]).length)*16≤140737488355328∧v4.length+([(⟨#[42]⟩:ByteArray)]).length≤4611686018427387904 then az v1_0 v1_1 v1_2 v1_3 v1_4 n (v4++([(⟨#[42]⟩:ByteArray)])) (inc v14) else none)
       (if v1_3.length≤9223372036854775807 then (bH v1_3 0 ([])).bind fun y=>match y with
        | .x2 w0_7=>(if w0_7.length≤140737488355328∧(ax w0_7 (⟨#[44]⟩:ByteArray)).size≤140737488355328 then if (v4.length+([ax w0_7 (⟨#[44]⟩:ByteArray)]).length)*16≤140737488355328∧v4.length+([ax w0_7 (⟨#[44]⟩:ByteArray)]).length≤4611686018427387904 then az v1_0 v1_1 v1_2 v1_3 v1_4 n (v4++([ax w0_7 (⟨#[44]⟩:ByteArray)])) (inc v14) else none else none) else none))
      (if v14=(4:Int) then cond (kI v1_4 v14)
       (if (v4.length+([(⟨#[42]⟩:ByteArray)]).length)*16≤140737488355328∧v4.length+([(⟨#[42]⟩:ByteArray)]).length≤4611686018427387904 then az v1_0 v1_1 v1_2 v1_3 v1_4 n (v4++([(⟨#[42]⟩:ByteArray)])) (inc v14) else none)
       (if v1_4.length≤9223372036854775807 then (bH v1_4 0 ([])).bind fun y=>match y with
        | .x2 w0_7=>(if w0_7.length≤140737488355328∧(ax w0_7 (⟨#[44]⟩:ByteArray)).size≤140737488355328 then if (v4.length+([ax w0_7 (⟨#[44]⟩:ByteArray)]).length)*16≤140737488355328∧v4.length+([ax w0_7 (⟨#[44]⟩:ByteArray)]).length≤4611686018427387904 then az v1_0 v1_1 v1_2 v1_3 v1_4 n (v4++([ax w0_7 (⟨#[44]⟩:ByteArray)])) (inc v14) else none else none) else none) else none)))))
  (some (.x0 v4))
theorem wz (v1_0 v1_1 v1_2 v1_3 v1_4:List Int) (n:Nat):∀ (v4:List ByteArray) (v14:Int),Ans (az v1_0 v1_1 v1_2 v1_3 v1_4 n v4 v14) (wA v1_0 v1_1 v1_2 v1_3 v1_4 v4 v14):=by
 induction n with
 | zero=>intros;exact Ans.none
 | succ n ih =>
  intro v4 v14
  unfold az
  apply Ie<;>intro h0
  ·apply Ie<;>intro h1
   ·apply Ie<;>intro h2
    ·refine Ig (fun h3 => ?_)
     have r:ce (aO v1_0 v1_1 v1_2 v1_3 v1_4 v4 v14) .normal (aO v1_0 v1_1 v1_2 v1_3 v1_4 (v4++([(⟨#[42]⟩:ByteArray)])) (inc v14)):=RP [.b true,.val (.int .i64 0),rT,.rows ((v4++([(⟨#[42]⟩:ByteArray)])).map etS)] (AC h0<|AC (p:=v14=(0:Int)) (eq_of_beq h1)<|AD (Ij (eI v1_0 v14) h2)<|AAp etS (fun _=>rfl) h3<|AN);exact (ih (v4++([(⟨#[42]⟩:ByteArray)])) (inc v14)).mono fun y hy=>by cases y<;>exact Ic r hy
    ·refine Ig (fun hl5 => ?_)
     refine If (fun y hy => ?_)
     replace hy:=gJ v1_0 v1_1 v1_2 v1_3 v1_4 v4 v14 v1_0 v1_0 0 ([]) rfl hl5 y hy
     cases y with
     | x2 w0_7 =>
      have h3:=hy
      refine Ig (fun h4 => ?_)
      refine Ig (fun h5 => ?_)
      have r:ce (aO v1_0 v1_1 v1_2 v1_3 v1_4 v4 v14) .normal (aO v1_0 v1_1 v1_2 v1_3 v1_4 (v4++([ax w0_7 (⟨#[44]⟩:ByteArray)])) (inc v14)):=RP [.b true,.val (.int .i64 0),rF,.val (.int .i64 (v1_0.length:Int)),.lp (.exit 2) (dD v1_0 v1_1 v1_2 v1_3 v1_4 v4 v14 w0_7),.ret [(false,[tS (ax w0_7 (⟨#[44]⟩:ByteArray))])],.rows ((v4++([ax w0_7 (⟨#[44]⟩:ByteArray)])).map etS)] (AC h0<|AC (p:=v14=(0:Int)) (eq_of_beq h1)<|AD (Ij (eI v1_0 v14) h2)<|ALn v1_0 etI<|AL h3<|AV (ψ:=fun k=>E.C k 61 [.one (.s .far () 1 (((w0_7.map etS).drop 0).take (w0_7.map etS).length)),.one (tS (⟨#[44]⟩:ByteArray))]=some [(false,[tS (ax w0_7 (⟨#[44]⟩:ByteArray))])]) (Ii (by simp only [List.take_length,List.drop_zero]) (dn w0_7 (⟨#[44]⟩:ByteArray) h4))<|AAp etS (fun _=>rfl) h5<|AN);exact (ih (v4++([ax w0_7 (⟨#[44]⟩:ByteArray)])) (inc v14)).mono fun y hy=>by cases y<;>exact Ic r hy
   ·apply Ie<;>intro h2
    ·apply Ie<;>intro h3
     ·refine Ig (fun h4 => ?_)
      have r:ce (aO v1_0 v1_1 v1_2 v1_3 v1_4 v4 v14) .normal (aO v1_0 v1_1 v1_2 v1_3 v1_4 (v4++([(⟨#[42]⟩:ByteArray)])) (inc v14)):=RP [.b true,.val (.int .i64 1),rT,.rows ((v4++([(⟨#[42]⟩:ByteArray)])).map etS)] (AC h0<|AC (p:=v14=(1:Int)) (eq_of_beq h2)<|AD (Ij (eI v1_1 v14) h3)<|AAp etS (fun _=>rfl) h4<|AN);exact (ih (v4++([(⟨#[42]⟩:ByteArray)])) (inc v14)).mono fun y hy=>by cases y<;>exact Ic r hy
     ·refine Ig (fun hl6 => ?_)
      refine If (fun y hy => ?_)
      replace hy:=gJ v1_0 v1_1 v1_2 v1_3 v1_4 v4 v14 v1_1 v1_1 0 ([]) rfl hl6 y hy
      cases y with
      | x2 w0_7 =>
       have h4:=hy
       refine Ig (fun h5 => ?_)
       refine Ig (fun h6 => ?_)
       have r:ce (aO v1_0 v1_1 v1_2 v1_3 v1_4 v4 v14) .normal (aO v1_0 v1_1 v1_2 v1_3 v1_4 (v4++([ax w0_7 (⟨#[44]⟩:ByteArray)])) (inc v14)):=RP [.b true,.val (.int .i64 1),rF,.val (.int .i64 (v1_1.length:Int)),.lp (.exit 2) (dD v1_0 v1_1 v1_2 v1_3 v1_4 v4 v14 w0_7),.ret [(false,[tS (ax w0_7 (⟨#[44]⟩:ByteArray))])],.rows ((v4++([ax w0_7 (⟨#[44]⟩:ByteArray)])).map etS)] (AC h0<|AC (p:=v14=(1:Int)) (eq_of_beq h2)<|AD (Ij (eI v1_1 v14) h3)<|ALn v1_1 etI<|AL h4<|AV (ψ:=fun k=>E.C k 61 [.one (.s .far () 1 (((w0_7.map etS).drop 0).take (w0_7.map etS).length)),.one (tS (⟨#[44]⟩:ByteArray))]=some [(false,[tS (ax w0_7 (⟨#[44]⟩:ByteArray))])]) (Ii (by simp only [List.take_length,List.drop_zero]) (dn w0_7 (⟨#[44]⟩:ByteArray) h5))<|AAp etS (fun _=>rfl) h6<|AN);exact (ih (v4++([ax w0_7 (⟨#[44]⟩:ByteArray)])) (inc v14)).mono fun y hy=>by cases y<;>exact Ic r hy
    ·apply Ie<;>intro h3
     ·apply Ie<;>intro h4
      ·refine Ig (fun h5 => ?_)
       have r:ce (aO v1_0 v1_1 v1_2 v1_3 v1_4 v4 v14) .normal (aO v1_0 v1_1 v1_2 v1_3 v1_4 (v4++([(⟨#[42]⟩:ByteArray)])) (inc v14)):=RP [.b true,.val (.int .i64 2),rT,.rows ((v4++([(⟨#[42]⟩:ByteArray)])).map etS)] (AC h0<|AC (p:=v14=(2:Int)) (eq_of_beq h3)<|AD (Ij (eI v1_2 v14) h4)<|AAp etS (fun _=>rfl) h5<|AN);exact (ih (v4++([(⟨#[42]⟩:ByteArray)])) (inc v14)).mono fun y hy=>by cases y<;>exact Ic r hy
      ·refine Ig (fun hl7 => ?_)
       refine If (fun y hy => ?_)
       replace hy:=gJ v1_0 v1_1 v1_2 v1_3 v1_4 v4 v14 v1_2 v1_2 0 ([]) rfl hl7 y hy
       cases y with
       | x2 w0_7 =>
        have h5:=hy
        refine Ig (fun h6 => ?_)
        refine Ig (fun h7 => ?_)
        have r:ce (aO v1_0 v1_1 v1_2 v1_3 v1_4 v4 v14) .normal (aO v1_0 v1_1 v1_2 v1_3 v1_4 (v4++([ax w0_7 (⟨#[44]⟩:ByteArray)])) (inc v14)):=RP [.b true,.val (.int .i64 2),rF,.val (.int .i64 (v1_2.length:Int)),.lp (.exit 2) (dD v1_0 v1_1 v1_2 v1_3 v1_4 v4 v14 w0_7),.ret [(false,[tS (ax w0_7 (⟨#[44]⟩:ByteArray))])],.rows ((v4++([ax w0_7 (⟨#[44]⟩:ByteArray)])).map etS)] (AC h0<|AC (p:=v14=(2:Int)) (eq_of_beq h3)<|AD (Ij (eI v1_2 v14) h4)<|ALn v1_2 etI<|AL h5<|AV (ψ:=fun k=>E.C k 61 [.one (.s .far () 1 (((w0_7.map etS).drop 0).take (w0_7.map etS).length)),.one (tS (⟨#[44]⟩:ByteArray))]=some [(false,[tS (ax w0_7 (⟨#[44]⟩:ByteArray))])]) (Ii (by simp only [List.take_length,List.drop_zero]) (dn w0_7 (⟨#[44]⟩:ByteArray) h6))<|AAp etS (fun _=>rfl) h7<|AN);exact (ih (v4++([ax w0_7 (⟨#[44]⟩:ByteArray)])) (inc v14)).mono fun y hy=>by cases y<;>exact Ic r hy
     ·apply Ie<;>intro h4
      ·apply Ie<;>intro h5
       ·refine Ig (fun h6 => ?_)
        have r:ce (aO v1_0 v1_1 v1_2 v1_3 v1_4 v4 v14) .normal (aO v1_0 v1_1 v1_2 v1_3 v1_4 (v4++([(⟨#[42]⟩:ByteArray)])) (inc v14)):=RP [.b true,.val (.int .i64 3),rT,.rows ((v4++([(⟨#[42]⟩:ByteArray)])).map etS)] (AC h0<|AC (p:=v14=(3:Int)) (eq_of_beq h4)<|AD (Ij (eI v1_3 v14) h5)<|AAp etS (fun _=>rfl) h6<|AN);exact (ih (v4++([(⟨#[42]⟩:ByteArray)])) (inc v14)).mono fun y hy=>by cases y<;>exact Ic r hy
       ·refine Ig (fun hl8 => ?_)
        refine If (fun y hy => ?_)
        replace hy:=gJ v1_0 v1_1 v1_2 v1_3 v1_4 v4 v14 v1_3 v1_3 0 ([]) rfl hl8 y hy
        cases y with
        | x2 w0_7 =>
         have h6:=hy
         refine Ig (fun h7 => ?_)
         refine Ig (fun h8 => ?_)
         have r:ce (aO v1_0 v1_1 v1_2 v1_3 v1_4 v4 v14) .normal (aO v1_0 v1_1 v1_2 v1_3 v1_4 (v4++([ax w0_7 (⟨#[44]⟩:ByteArray)])) (inc v14)):=RP [.b true,.val (.int .i64 3),rF,.val (.int .i64 (v1_3.length:Int)),.lp (.exit 2) (dD v1_0 v1_1 v1_2 v1_3 v1_4 v4 v14 w0_7),.ret [(false,[tS (ax w0_7 (⟨#[44]⟩:ByteArray))])],.rows ((v4++([ax w0_7 (⟨#[44]⟩:ByteArray)])).map etS)] (AC h0<|AC (p:=v14=(3:Int)) (eq_of_beq h4)<|AD (Ij (eI v1_3 v14) h5)<|ALn v1_3 etI<|AL h6<|AV (ψ:=fun k=>E.C k 61 [.one (.s .far () 1 (((w0_7.map etS).drop 0).take (w0_7.map etS).length)),.one (tS (⟨#[44]⟩:ByteArray))]=some [(false,[tS (ax w0_7 (⟨#[44]⟩:ByteArray))])]) (Ii (by simp only [List.take_length,List.drop_zero]) (dn w0_7 (⟨#[44]⟩:ByteArray) h7))<|AAp etS (fun _=>rfl) h8<|AN);exact (ih (v4++([ax w0_7 (⟨#[44]⟩:ByteArray)])) (inc v14)).mono fun y hy=>by cases y<;>exact Ic r hy
      ·refine Ig (fun h5 => ?_)
       apply Ie<;>intro h6
       ·refine Ig (fun h7 => ?_)
        have r:ce (aO v1_0 v1_1 v1_2 v1_3 v1_4 v4 v14) .normal (aO v1_0 v1_1 v1_2 v1_3 v1_4 (v4++([(⟨#[42]⟩:ByteArray)])) (inc v14)):=RP [.b true,.val (.int .i64 4),rT,.rows ((v4++([(⟨#[42]⟩:ByteArray)])).map etS)] (AC h0<|AC h5<|AD (Ij (eI v1_4 v14) h6)<|AAp etS (fun _=>rfl) h7<|AN);exact (ih (v4++([(⟨#[42]⟩:ByteArray)])) (inc v14)).mono fun y hy=>by cases y<;>exact Ic r hy
       ·refine Ig (fun hl8 => ?_)
        refine If (fun y hy => ?_)
        replace hy:=gJ v1_0 v1_1 v1_2 v1_3 v1_4 v4 v14 v1_4 v1_4 0 ([]) rfl hl8 y hy
        cases y with
        | x2 w0_7 =>
         have h7:=hy
         refine Ig (fun h8 => ?_)
         refine Ig (fun h9 => ?_)
         have r:ce (aO v1_0 v1_1 v1_2 v1_3 v1_4 v4 v14) .normal (aO v1_0 v1_1 v1_2 v1_3 v1_4 (v4++([ax w0_7 (⟨#[44]⟩:ByteArray)])) (inc v14)):=RP [.b true,.val (.int .i64 4),rF,.val (.int .i64 (v1_4.length:Int)),.lp (.exit 2) (dD v1_0 v1_1 v1_2 v1_3 v1_4 v4 v14 w0_7),.ret [(false,[tS (ax w0_7 (⟨#[44]⟩:ByteArray))])],.rows ((v4++([ax w0_7 (⟨#[44]⟩:ByteArray)])).map etS)] (AC h0<|AC h5<|AD (Ij (eI v1_4 v14) h6)<|ALn v1_4 etI<|AL h7<|AV (ψ:=fun k=>E.C k 61 [.one (.s .far () 1 (((w0_7.map etS).drop 0).take (w0_7.map etS).length)),.one (tS (⟨#[44]⟩:ByteArray))]=some [(false,[tS (ax w0_7 (⟨#[44]⟩:ByteArray))])]) (Ii (by simp only [List.take_length,List.drop_zero]) (dn w0_7 (⟨#[44]⟩:ByteArray) h8))<|AAp etS (fun _=>rfl) h9<|AN);exact (ih (v4++([ax w0_7 (⟨#[44]⟩:ByteArray)])) (inc v14)).mono fun y hy=>by cases y<;>exact Ic r hy
  ·exact Ib (Id (show ce (aO v1_0 v1_1 v1_2 v1_3 v1_4 v4 v14) (.exit 0) (kz v4) from RP [.b false] (AC h0<|AN)) (by intro h;cases h))
noncomputable def kA (x0:GCron):Option (ByteArray×Bool) :=
  if an.sm x0 then cond (fq x0)
   ((az x0.f0 x0.f1 x0.f2 x0.f3 x0.f4 9223372036854775808 ([]) (0:Int)).bind fun y=>match y with
    | .x0 w0_4=>(if w0_4.length≤140737488355328∧(ax w0_4 (⟨#[32]⟩:ByteArray)).size≤140737488355328 then some (ax w0_4 (⟨#[32]⟩:ByteArray),true) else none))
   (some (ByteArray.empty,false)) else none
theorem ya (x0:GCron):Ans (kA x0) (fun r=>Does E 69 [.agg (GCron.t .far x0)] [(false,[tS r.1]),(false,[tB r.2])]):=by
 unfold kA
 refine Ig (fun h0 => ?_)
 apply Ie<;>intro h1
 ·refine If (fun y hy => ?_)
  replace hy:=wz x0.f0 x0.f1 x0.f2 x0.f3 x0.f4 9223372036854775808 ([]) (0:Int) y hy
  cases y with
  | x0 w0_4 =>
   have h2:=hy
   refine Ig (fun h3 => ?_)
   exact Ib (DP Tryz.f69 [rT,.lp (.exit 0) (kz w0_4),.ret [(false,[tS (ax w0_4 (⟨#[32]⟩:ByteArray))])]] (AD (Ij (tF x0 h0) h1)<|AL h2<|AV (ψ:=fun k=>E.C k 61 [.one (.s .far () 1 (((w0_4.map etS).drop 0).take (w0_4.map etS).length)),.one (tS (⟨#[32]⟩:ByteArray))]=some [(false,[tS (ax w0_4 (⟨#[32]⟩:ByteArray))])]) (Ii (by simp only [List.take_length,List.drop_zero]) (dn w0_4 (⟨#[32]⟩:ByteArray) h3))<|AN))
 ·exact Ib (DP Tryz.f69 [rF] (AD (Ij (tF x0 h0) h1)<|AN))
theorem wd {a b:Int}:∀ {l:List Int} {p:Option Int},gM a b l p=true→l.Pairwise (· < ·)∧∀ y,p=some y→∀ x∈l,y<x
 | [],p,_=>⟨by simp,fun y _ x hx=>by cases hx⟩
 | z::l,p,h=>by
  unfold gM at h
  simp only [Bool.and_eq_true] at h
  obtain ⟨h1,h2⟩:=wd h.2
  have h3:=h2 z rfl
  refine ⟨List.pairwise_cons.2 ⟨h3,h1⟩,fun y e x hx => ?_⟩
  subst e
  have h4:y<z:=by simpa using h.1.2
  rcases List.mem_cons.1 hx with rfl | hx
  ·exact h4
  ·have:=h3 x hx;omega
theorem yU {a b:Int}:∀ {l:List Int} {p:Option Int},gM a b l p=true→∀ x∈l,a≤x∧x≤b
 | [],_,_,x,hx=>by cases hx
 | y::l,p,h,x,hx=>by
  unfold gM at h
  simp only [Bool.and_eq_true] at h
  rcases List.mem_cons.1 hx with rfl | hx
  ·have:=h.1.1;unfold aB at this;simpa using this
  ·exact yU h.2 x hx
theorem vV {l:List Int} {a b:Int} (h:aM l a b=true):∀ x∈l,a≤x∧x≤b:=by
 unfold aM at h
 rw [Bool.and_eq_true] at h
 have h:=h.1
 exact yU h
theorem B9 {l:List Int} {a b:Int} (h:aM l a b=true) (hab:a≤b+1):(l.length:Int)≤b+1-a:=by
 have hi:=vV h
 unfold aM at h
 rw [Bool.and_eq_true] at h
 exact tn a b l a (wd h.1).1 hi hab
theorem tO {c:GCron} (h:fq c=true):aM c.f0 0 59=true∧aM c.f1 0 23=true∧aM c.f2 1 31=true∧aM c.f3 1 12=true∧aM c.f4 0 6=true:=by
 unfold fq at h
 simp only [Bool.and_eq_true] at h
 exact h
theorem eN {l:List Int} {a b:Int} (h:aM l a b=true) (h0:0≤a) (h1:a≤b) (h2:b≤59):l.length≤60∧∀ z∈l,0≤z∧z≤59:=by
 have:=B9 h (by omega)
 exact ⟨by omega,fun z hz=>by have:=vV h z hz;omega⟩
noncomputable def pi (c:GCron):ByteArray:=ofTx (dT 32 [tx (av c.f0 60),tx (av c.f1 24),tx (av c.f2 31),tx (av c.f3 12),tx (av c.f4 7)])
noncomputable def aR (c:GCron):ByteArray×Bool:=cond (fq c) (pi c,true) (ByteArray.empty,false)
theorem F2 (a b c d e:ByteArray):((((((((a++⟨#[32]⟩)++b)++⟨#[32]⟩)++c)++⟨#[32]⟩)++d)++⟨#[32]⟩)++e:ByteArray)=ofTx (dT 32 [tx a,tx b,tx c,tx d,tx e]):=by
 apply lb
 have e32:tx (⟨#[32]⟩:ByteArray)=[32]:=rfl
 simp [fF,e32,hU,dT]
theorem FQ (c:GCron) (h:an.sm c):kV c=some (aR c):=by
 unfold kV aR
 rw [if_pos h]
 cases q:fq c with
 | false=>rfl
 | true =>
  obtain ⟨k0,k1,k2,k3,k4⟩:=tO q
  have a0:=eN k0 (by decide) (by decide) (by decide)
  have a1:=eN k1 (by decide) (by decide) (by decide)
  have a2:=eN k2 (by decide) (by decide) (by decide)
  have a3:=eN k3 (by decide) (by decide) (by decide)
  have a4:=eN k4 (by decide) (by decide) (by decide)
  have z0:=ek a0.1 a0.2 60
  have z1:=ek a1.1 a1.2 24
  have z2:=ek a2.1 a2.2 31
  have z3:=ek a3.1 a3.2 12
  have z4:=ek a4.1 a4.2 7
  have e32:(⟨#[32]⟩:ByteArray).size=1:=rfl
  rw [cond_true,cond_true]
  simp only [if_pos a0.1,if_pos a0.2,if_pos a1.1,if_pos a1.2,if_pos a2.1,if_pos a2.2,if_pos a3.1,if_pos a3.2,if_pos a4.1,if_pos a4.2,ByteArray.size_append,e32,ak]
  repeat rw [if_pos (by omega)]
  rw [F2]
  rfl
theorem EO:∀ (l:List Int) (i:Nat) (v:List ByteArray),(∀ z∈l,0≤z∧z≤59)→v.length+l.length≤1000→bH l i v=some (.x2 (v++l.map af))
 | [],i,v,_,_=>by unfold bH;simp
 | x::l,i,v,h,hl=>by
  have hx:=h x (by simp)
  simp only [List.length_cons] at hl
  unfold bH
  rw [if_pos (by omega),if_pos (by simp;omega),EO l (i+1) _ (fun z hz=>h z (by simp [hz])) (by simp;omega)]
  simp
theorem mc (l:List Int) (hl:l.length≤60) (hm:∀ z∈l,0≤z∧z≤59) (v:List ByteArray) (hv:v.length≤10) (b:Bool) (n:Int) (hb:b=((l.length:Int)==n)) (K:List ByteArray→Option mf) :
  cond b
    (if (v.length+([(⟨#[42]⟩:ByteArray)]).length)*16≤140737488355328∧v.length+([(⟨#[42]⟩:ByteArray)]).length≤4611686018427387904 then K (v++([(⟨#[42]⟩:ByteArray)])) else none)
    (if l.length≤9223372036854775807 then (bH l 0 ([])).bind fun y=>match y with
     | .x2 w0_7=>(if w0_7.length≤140737488355328∧(ax w0_7 (⟨#[44]⟩:ByteArray)).size≤140737488355328 then if (v.length+([ax w0_7 (⟨#[44]⟩:ByteArray)]).length)*16≤140737488355328∧v.length+([ax w0_7 (⟨#[44]⟩:ByteArray)]).length≤4611686018427387904 then K (v++([ax w0_7 (⟨#[44]⟩:ByteArray)])) else none else none) else none)=K (v++[av l n]):=by
 subst hb
 have hj:ax (l.map af) ⟨#[44]⟩=ofTx (dT 44 (l.map fun x=>tx (af x))):=by
  have e:l.map af=(l.map fun x=>tx (af x)).map ofTx:=by rw [List.map_map];rfl
  rw [e,mm]
 unfold av
 have hz:=ek hl hm n
 unfold av at hz
 cases q:(l.length:Int)==n with
 | true=>rw [cond_true,if_pos (by simp;omega),cond_true]
 | false =>
  rw [q,cond_false] at hz
  rw [cond_false,cond_false,if_pos (by omega),EO l 0 [] hm (by simp;omega),Option.bind_some]
  simp only [List.nil_append]
  rw [hj,if_pos (by rw [List.length_map];omega),if_pos (by simp;omega)]
theorem FP (c:GCron) (h:an.sm c):kA c=some (aR c):=by
 unfold kA aR
 rw [if_pos h]
 cases q:fq c with
 | false=>rfl
 | true =>
  obtain ⟨k0,k1,k2,k3,k4⟩:=tO q
  have a0:=eN k0 (by decide) (by decide) (by decide)
  have a1:=eN k1 (by decide) (by decide) (by decide)
  have a2:=eN k2 (by decide) (by decide) (by decide)
  have a3:=eN k3 (by decide) (by decide) (by decide)
  have a4:=eN k4 (by decide) (by decide) (by decide)
  have z0:=ek a0.1 a0.2 60
  have z1:=ek a1.1 a1.2 24
  have z2:=ek a2.1 a2.2 31
  have z3:=ek a3.1 a3.2 12
  have z4:=ek a4.1 a4.2 7
  have s0:∀ n,az c.f0 c.f1 c.f2 c.f3 c.f4 (n+1) [] 0=az c.f0 c.f1 c.f2 c.f3 c.f4 n ([]++[av c.f0 60]) 1:=fun n =>
   mc c.f0 a0.1 a0.2 [] (by simp) (kI c.f0 0) 60 rfl fun w=>az c.f0 c.f1 c.f2 c.f3 c.f4 n w 1
  have s1:∀ n v,v.length≤10→az c.f0 c.f1 c.f2 c.f3 c.f4 (n+1) v 1=az c.f0 c.f1 c.f2 c.f3 c.f4 n (v++[av c.f1 24]) 2:=fun n v hv =>
   mc c.f1 a1.1 a1.2 v hv (kI c.f1 1) 24 rfl fun w=>az c.f0 c.f1 c.f2 c.f3 c.f4 n w 2
  have s2:∀ n v,v.length≤10→az c.f0 c.f1 c.f2 c.f3 c.f4 (n+1) v 2=az c.f0 c.f1 c.f2 c.f3 c.f4 n (v++[av c.f2 31]) 3:=fun n v hv =>
   mc c.f2 a2.1 a2.2 v hv (kI c.f2 2) 31 rfl fun w=>az c.f0 c.f1 c.f2 c.f3 c.f4 n w 3
  have s3:∀ n v,v.length≤10→az c.f0 c.f1 c.f2 c.f3 c.f4 (n+1) v 3=az c.f0 c.f1 c.f2 c.f3 c.f4 n (v++[av c.f3 12]) 4:=fun n v hv =>
   mc c.f3 a3.1 a3.2 v hv (kI c.f3 3) 12 rfl fun w=>az c.f0 c.f1 c.f2 c.f3 c.f4 n w 4
  have s4:∀ n v,v.length≤10→az c.f0 c.f1 c.f2 c.f3 c.f4 (n+1) v 4=az c.f0 c.f1 c.f2 c.f3 c.f4 n (v++[av c.f4 7]) 5:=fun n v hv =>
   mc c.f4 a4.1 a4.2 v hv (kI c.f4 4) 7 rfl fun w=>az c.f0 c.f1 c.f2 c.f3 c.f4 n w 5
  have s5:∀ n v,az c.f0 c.f1 c.f2 c.f3 c.f4 (n+1) v 5=some (.x0 v):=fun n v=>rfl
  have st:az c.f0 c.f1 c.f2 c.f3 c.f4 (9223372036854775802+6) [] 0=_:=s0 _
  rw [s1 _ _ (by simp),s2 _ _ (by simp),s3 _ _ (by simp),s4 _ _ (by simp),s5] at st
  simp only [List.nil_append,List.cons_append] at st
  rw [cond_true,cond_true]
  refine (congrArg (Option.bind · _) st).trans ?_
  rw [Option.bind_some]
  have ej:ax [av c.f0 60,av c.f1 24,av c.f2 31,av c.f3 12,av c.f4 7] ⟨#[32]⟩=pi c:=mm [tx (av c.f0 60),tx (av c.f1 24),tx (av c.f2 31),tx (av c.f3 12),tx (av c.f4 7)] 32
  have el:(pi c).size≤2000:=by
   unfold pi
   rw [kk]
   have:=nW 32 200 [tx (av c.f0 60),tx (av c.f1 24),tx (av c.f2 31),tx (av c.f3 12),tx (av c.f4 7)] (fun x hx=>by
    simp only [List.mem_cons,List.not_mem_nil,or_false] at hx
    rcases hx with rfl | rfl | rfl | rfl | rfl<;>rw [← br]<;>assumption)
   simp only [List.length_cons,List.length_nil] at this
   omega
  show (if _ then _ else none)=_
  rw [ej,if_pos ⟨by simp,by omega⟩]
theorem dB (x0:GCron) (h:an.sm x0):Does E 56 [.agg (GCron.t .far x0)] [(false,[tS ((aR x0).1)]),(false,[tB ((aR x0).2)])]:=by
 exact yY x0 _ (FQ x0 h)
theorem qr (x0:GCron) (h:an.sm x0):Does E 69 [.agg (GCron.t .far x0)] [(false,[tS ((aR x0).1)]),(false,[tB ((aR x0).2)])]:=by
 exact ya x0 _ (FP x0 h)
end Go.Proofs.YtjfbofdmjihglaaGreatDoor.Am
