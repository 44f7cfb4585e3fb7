/- Rules. -/
import Derived.Test.YtgaiiephdjllkaaGreatDoorWords
namespace Go.Proofs.YtgaiiephdjllkaaGreatDoor.Am
open Go Go.Proofs Classical
set_option maxRecDepth 100000
set_option linter.unusedVariables false
set_option linter.unusedSimpArgs false
inductive qA where
 | ret (v2_0 v2_1 v2_2 v2_3 v2_4:List Int) (v3:Bool)
 | x0 
def fD (v2_0 v2_1 v2_2 v2_3 v2_4 v6_0 v6_1 v6_2 v6_3 v6_4:List Int) (v7:List Bool) (v8:Int):US:=stL 85 [(2,.box () [.s .own () 1 (v2_0.map etI),.s .own () 1 (v2_1.map etI),.s .own () 1 (v2_2.map etI),.s .own () 1 (v2_3.map etI),.s .own () 1 (v2_4.map etI)]),(6,.box () [.s .own () 1 (v6_0.map etI),.s .own () 1 (v6_1.map etI),.s .own () 1 (v6_2.map etI),.s .own () 1 (v6_3.map etI),.s .own () 1 (v6_4.map etI)]),(7,.one (.s .own () 1 (v7.map etB))),(8,.one (tI v8))]
def j9 (zv2_0 zv2_1 zv2_2 zv2_3 zv2_4:List Int) (zv3:Bool):US:=stL 85 [(2,.box () [.s .own () 1 (zv2_0.map etI),.s .own () 1 (zv2_1.map etI),.s .own () 1 (zv2_2.map etI),.s .own () 1 (zv2_3.map etI),.s .own () 1 (zv2_4.map etI)]),(3,.one (tB zv3))]
def kR (v2_0 v2_1 v2_2 v2_3 v2_4 v6_0 v6_1 v6_2 v6_3 v6_4:List Int):US:=stL 85 [(2,.box () [.s .own () 1 (v2_0.map etI),.s .own () 1 (v2_1.map etI),.s .own () 1 (v2_2.map etI),.s .own () 1 (v2_3.map etI),.s .own () 1 (v2_4.map etI)]),(6,.box () [.s .own () 1 (v6_0.map etI),.s .own () 1 (v6_1.map etI),.s .own () 1 (v6_2.map etI),.s .own () 1 (v6_3.map etI),.s .own () 1 (v6_4.map etI)])]
abbrev mD:US→Exit→US→Prop:=Round E 43 (az Tryz.f43 0)
def xO (v2_0 v2_1 v2_2 v2_3 v2_4 v6_0 v6_1 v6_2 v6_3 v6_4:List Int) (v7:List Bool) (v8:Int):qA→Prop
 | .ret zv2_0 zv2_1 zv2_2 zv2_3 zv2_4 zv3=>Loops E 43 (az Tryz.f43 0) (fD v2_0 v2_1 v2_2 v2_3 v2_4 v6_0 v6_1 v6_2 v6_3 v6_4 v7 v8) .ret (j9 zv2_0 zv2_1 zv2_2 zv2_3 zv2_4 zv3)
 | .x0=>Loops E 43 (az Tryz.f43 0) (fD v2_0 v2_1 v2_2 v2_3 v2_4 v6_0 v6_1 v6_2 v6_3 v6_4 v7 v8) (.exit 0) (kR v2_0 v2_1 v2_2 v2_3 v2_4 v6_0 v6_1 v6_2 v6_3 v6_4)
noncomputable def fE (v7:List Bool):Nat→Int→Option qA
 | 0,_=>none
 | n+1,v8=>cond (decide (v8<(5:Int)))
  ((aq v7 v8).bind fun g0=>cond (g0)
   (fE v7 n (inc v8))
   (some (.ret ([]) ([]) ([]) ([]) ([]) false)))
  (some (.x0))
theorem xN (v2_0 v2_1 v2_2 v2_3 v2_4 v6_0 v6_1 v6_2 v6_3 v6_4:List Int) (v7:List Bool) (n:Nat):∀ (v8:Int),Ans (fE v7 n v8) (xO v2_0 v2_1 v2_2 v2_3 v2_4 v6_0 v6_1 v6_2 v6_3 v6_4 v7 v8):=by
 induction n with
 | zero=>intros;exact Ans.none
 | succ n ih =>
  intro v8
  unfold fE
  apply KE<;>intro h0
  ·refine KF (fun g0 h1 => ?_)
   apply KE<;>intro h2
   ·have r:mD (fD v2_0 v2_1 v2_2 v2_3 v2_4 v6_0 v6_1 v6_2 v6_3 v6_4 v7 v8) .normal (fD v2_0 v2_1 v2_2 v2_3 v2_4 v6_0 v6_1 v6_2 v6_3 v6_4 v7 (inc v8)):=RP [.b true,.row ([tB true])] (AC h0<|AC (p:=0≤v8∧v8<((v7.map etB).length:Int)) (we h1)<|AC (p:=(v7.map etB)[0+v8.toNat]?=some ([tB true])) ((ql h1).trans (congrArg some (show [tB g0]=[tB true] by rw [h2])))<|AN);exact (ih (inc v8)).mono fun y hy=>by cases y<;>exact KC r hy
   ·exact KB (KD (show mD (fD v2_0 v2_1 v2_2 v2_3 v2_4 v6_0 v6_1 v6_2 v6_3 v6_4 v7 v8) .ret (j9 ([]) ([]) ([]) ([]) ([]) false) from RP [.b true,.row ([tB false])] (AC h0<|AC (p:=0≤v8∧v8<((v7.map etB).length:Int)) (we h1)<|AC (p:=(v7.map etB)[0+v8.toNat]?=some ([tB false])) ((ql h1).trans (congrArg some (show [tB g0]=[tB false] by rw [h2])))<|AN)) (by intro h;cases h))
  ·exact KB (KD (show mD (fD v2_0 v2_1 v2_2 v2_3 v2_4 v6_0 v6_1 v6_2 v6_3 v6_4 v7 v8) (.exit 0) (kR v2_0 v2_1 v2_2 v2_3 v2_4 v6_0 v6_1 v6_2 v6_3 v6_4) from RP [.b false] (AC h0<|AN)) (by intro h;cases h))
noncomputable def kA (x0:ByteArray):Option (GCron×Bool) :=
  cond ((aK x0).2)
   (cond ((((aK x0).1).length:Int) != (5:Int))
    (some ((GCron.mk ([]:List Int) ([]:List Int) ([]:List Int) ([]:List Int) ([]:List Int)),false))
    (if 0≤(5:Int)∧(5:Int)≤(5:Int)∧((1:Nat):Int)*(5:Int)≤281474976710656∧(5:Int)≤4611686018427387904 then (aq ((aK x0).1) (0:Int)).bind fun g0=>if g0.size≤2000000 then if 0≤(0:Int)∧(0:Int)≤(59:Int)∧(59:Int)≤59 then (aq (List.replicate (5:Int).toNat false) (0:Int)).bind fun g1=>(aq ((aK x0).1) (1:Int)).bind fun g2=>if g2.size≤2000000 then if 0≤(0:Int)∧(0:Int)≤(23:Int)∧(23:Int)≤59 then (aq ((List.replicate (5:Int).toNat false).set (0:Int).toNat ((ac g0 (0:Int) (59:Int)).2)) (1:Int)).bind fun g3=>(aq ((aK x0).1) (2:Int)).bind fun g4=>if g4.size≤2000000 then if 0≤(1:Int)∧(1:Int)≤(31:Int)∧(31:Int)≤59 then (aq (((List.replicate (5:Int).toNat false).set (0:Int).toNat ((ac g0 (0:Int) (59:Int)).2)).set (1:Int).toNat ((ac g2 (0:Int) (23:Int)).2)) (2:Int)).bind fun g5=>(aq ((aK x0).1) (3:Int)).bind fun g6=>if g6.size≤2000000 then if 0≤(1:Int)∧(1:Int)≤(12:Int)∧(12:Int)≤59 then (aq ((((List.replicate (5:Int).toNat false).set (0:Int).toNat ((ac g0 (0:Int) (59:Int)).2)).set (1:Int).toNat ((ac g2 (0:Int) (23:Int)).2)).set (2:Int).toNat ((ac g4 (1:Int) (31:Int)).2)) (3:Int)).bind fun g7=>(aq ((aK x0).1) (4:Int)).bind fun g8=>if g8.size≤2000000 then if 0≤(0:Int)∧(0:Int)≤(6:Int)∧(6:Int)≤59 then (aq (((((List.replicate (5:Int).toNat false).set (0:Int).toNat ((ac g0 (0:Int) (59:Int)).2)).set (1:Int).toNat ((ac g2 (0:Int) (23:Int)).2)).set (2:Int).toNat ((ac g4 (1:Int) (31:Int)).2)).set (3:Int).toNat ((ac g6 (1:Int) (12:Int)).2)) (4:Int)).bind fun g9=>(fE ((((((List.replicate (5:Int).toNat false).set (0:Int).toNat ((ac g0 (0:Int) (59:Int)).2)).set (1:Int).toNat ((ac g2 (0:Int) (23:Int)).2)).set (2:Int).toNat ((ac g4 (1:Int) (31:Int)).2)).set (3:Int).toNat ((ac g6 (1:Int) (12:Int)).2)).set (4:Int).toNat ((ac g8 (0:Int) (6:Int)).2)) 9223372036854775808 (0:Int)).bind fun y=>match y with
     | .ret w0_2_0 w0_2_1 w0_2_2 w0_2_3 w0_2_4 w0_3=>(some ((GCron.mk w0_2_0 w0_2_1 w0_2_2 w0_2_3 w0_2_4),w0_3))
     | .x0=>(some ((GCron.mk ((ac g0 (0:Int) (59:Int)).1) ((ac g2 (0:Int) (23:Int)).1) ((ac g4 (1:Int) (31:Int)).1) ((ac g6 (1:Int) (12:Int)).1) ((ac g8 (0:Int) (6:Int)).1)),true)) else none else none else none else none else none else none else none else none else none else none else none))
   (some ((GCron.mk ([]:List Int) ([]:List Int) ([]:List Int) ([]:List Int) ([]:List Int)),false))
theorem zr (x0:ByteArray):Ans (kA x0) (fun r=>Does E 43 [.one (tS x0)] [(true,GCron.t .own r.1),(false,[tB r.2])]):=by
 unfold kA
 apply KE<;>intro h0
 ·apply KE<;>intro h1
  ·exact KB (DP Tryz.f43 [.ret [(false,[.s .own () 1 (((aK x0).1).map etS)]),(false,[tB true])],.val (.int .i64 (((aK x0).1).length:Int)),.b true] (AD (kq x0 h0)<|ALn ((aK x0).1) etS<|AC h1<|AN))
  ·refine KG (fun h2 => ?_)
   refine KF (fun g0 h3 => ?_)
   refine KG (fun h4 => ?_)
   refine KG (fun h5 => ?_)
   refine KF (fun g1 h6 => ?_)
   refine KF (fun g2 h7 => ?_)
   refine KG (fun h8 => ?_)
   refine KG (fun h9 => ?_)
   refine KF (fun g3 h10 => ?_)
   refine KF (fun g4 h11 => ?_)
   refine KG (fun h12 => ?_)
   refine KG (fun h13 => ?_)
   refine KF (fun g5 h14 => ?_)
   refine KF (fun g6 h15 => ?_)
   refine KG (fun h16 => ?_)
   refine KG (fun h17 => ?_)
   refine KF (fun g7 h18 => ?_)
   refine KF (fun g8 h19 => ?_)
   refine KG (fun h20 => ?_)
   refine KG (fun h21 => ?_)
   refine KF (fun g9 h22 => ?_)
   refine KF (fun y hy => ?_)
   replace hy:=xN ([]) ([]) ([]) ([]) ([]) ((ac g0 (0:Int) (59:Int)).1) ((ac g2 (0:Int) (23:Int)).1) ((ac g4 (1:Int) (31:Int)).1) ((ac g6 (1:Int) (12:Int)).1) ((ac g8 (0:Int) (6:Int)).1) ((((((List.replicate (5:Int).toNat false).set (0:Int).toNat ((ac g0 (0:Int) (59:Int)).2)).set (1:Int).toNat ((ac g2 (0:Int) (23:Int)).2)).set (2:Int).toNat ((ac g4 (1:Int) (31:Int)).2)).set (3:Int).toNat ((ac g6 (1:Int) (12:Int)).2)).set (4:Int).toNat ((ac g8 (0:Int) (6:Int)).2)) 9223372036854775808 (0:Int) y hy
   cases y with
   | ret w0_2_0 w0_2_1 w0_2_2 w0_2_3 w0_2_4 w0_3 =>
    have h23:=hy
    exact KB (DP Tryz.f43 [.ret [(false,[.s .own () 1 (((aK x0).1).map etS)]),(false,[tB true])],.val (.int .i64 (((aK x0).1).length:Int)),.b false,.rows ((List.replicate (5:Int).toNat false).map etB),.row (etS g0),.ret [(false,[.s .own () 1 (((ac g0 (0:Int) (59:Int)).1).map etI)]),(false,[tB ((ac g0 (0:Int) (59:Int)).2)])],.row (etB g1),.rows (((List.replicate (5:Int).toNat false).set (0:Int).toNat ((ac g0 (0:Int) (59:Int)).2)).map etB),.row (etS g2),.ret [(false,[.s .own () 1 (((ac g2 (0:Int) (23:Int)).1).map etI)]),(false,[tB ((ac g2 (0:Int) (23:Int)).2)])],.row (etB g3),.rows ((((List.replicate (5:Int).toNat false).set (0:Int).toNat ((ac g0 (0:Int) (59:Int)).2)).set (1:Int).toNat ((ac g2 (0:Int) (23:Int)).2)).map etB),.row (etS g4),.ret [(false,[.s .own () 1 (((ac g4 (1:Int) (31:Int)).1).map etI)]),(false,[tB ((ac g4 (1:Int) (31:Int)).2)])],.row (etB g5),.rows (((((List.replicate (5:Int).toNat false).set (0:Int).toNat ((ac g0 (0:Int) (59:Int)).2)).set (1:Int).toNat ((ac g2 (0:Int) (23:Int)).2)).set (2:Int).toNat ((ac g4 (1:Int) (31:Int)).2)).map etB),.row (etS g6),.ret [(false,[.s .own () 1 (((ac g6 (1:Int) (12:Int)).1).map etI)]),(false,[tB ((ac g6 (1:Int) (12:Int)).2)])],.row (etB g7),.rows ((((((List.replicate (5:Int).toNat false).set (0:Int).toNat ((ac g0 (0:Int) (59:Int)).2)).set (1:Int).toNat ((ac g2 (0:Int) (23:Int)).2)).set (2:Int).toNat ((ac g4 (1:Int) (31:Int)).2)).set (3:Int).toNat ((ac g6 (1:Int) (12:Int)).2)).map etB),.row (etS g8),.ret [(false,[.s .own () 1 (((ac g8 (0:Int) (6:Int)).1).map etI)]),(false,[tB ((ac g8 (0:Int) (6:Int)).2)])],.row (etB g9),.rows (((((((List.replicate (5:Int).toNat false).set (0:Int).toNat ((ac g0 (0:Int) (59:Int)).2)).set (1:Int).toNat ((ac g2 (0:Int) (23:Int)).2)).set (2:Int).toNat ((ac g4 (1:Int) (31:Int)).2)).set (3:Int).toNat ((ac g6 (1:Int) (12:Int)).2)).set (4:Int).toNat ((ac g8 (0:Int) (6:Int)).2)).map etB),.lp .ret (j9 w0_2_0 w0_2_1 w0_2_2 w0_2_3 w0_2_4 w0_3)] (AD (kq x0 h0)<|ALn ((aK x0).1) etS<|AC h1<|AC h2<|AC (p:=List.replicate (5:Int).toNat [tB false]=(List.replicate (5:Int).toNat false).map etB) (oG rfl)<|AG etS h3<|AD (dz g0 (0:Int) (59:Int) h4 h5)<|AG etB h6<|AC (p:=((List.replicate (5:Int).toNat false).map etB).set (0+(0:Int).toNat) (aA (etB g1) 0 [tB ((ac g0 (0:Int) (59:Int)).2)])=((List.replicate (5:Int).toNat false).set (0:Int).toNat ((ac g0 (0:Int) (59:Int)).2)).map etB) (gr (by rfl))<|AG etS h7<|AD (dz g2 (0:Int) (23:Int) h8 h9)<|AG etB h10<|AC (p:=(((List.replicate (5:Int).toNat false).set (0:Int).toNat ((ac g0 (0:Int) (59:Int)).2)).map etB).set (0+(1:Int).toNat) (aA (etB g3) 0 [tB ((ac g2 (0:Int) (23:Int)).2)])=(((List.replicate (5:Int).toNat false).set (0:Int).toNat ((ac g0 (0:Int) (59:Int)).2)).set (1:Int).toNat ((ac g2 (0:Int) (23:Int)).2)).map etB) (gr (by rfl))<|AG etS h11<|AD (dz g4 (1:Int) (31:Int) h12 h13)<|AG etB h14<|AC (p:=((((List.replicate (5:Int).toNat false).set (0:Int).toNat ((ac g0 (0:Int) (59:Int)).2)).set (1:Int).toNat ((ac g2 (0:Int) (23:Int)).2)).map etB).set (0+(2:Int).toNat) (aA (etB g5) 0 [tB ((ac g4 (1:Int) (31:Int)).2)])=((((List.replicate (5:Int).toNat false).set (0:Int).toNat ((ac g0 (0:Int) (59:Int)).2)).set (1:Int).toNat ((ac g2 (0:Int) (23:Int)).2)).set (2:Int).toNat ((ac g4 (1:Int) (31:Int)).2)).map etB) (gr (by rfl))<|AG etS h15<|AD (dz g6 (1:Int) (12:Int) h16 h17)<|AG etB h18<|AC (p:=(((((List.replicate (5:Int).toNat false).set (0:Int).toNat ((ac g0 (0:Int) (59:Int)).2)).set (1:Int).toNat ((ac g2 (0:Int) (23:Int)).2)).set (2:Int).toNat ((ac g4 (1:Int) (31:Int)).2)).map etB).set (0+(3:Int).toNat) (aA (etB g7) 0 [tB ((ac g6 (1:Int) (12:Int)).2)])=(((((List.replicate (5:Int).toNat false).set (0:Int).toNat ((ac g0 (0:Int) (59:Int)).2)).set (1:Int).toNat ((ac g2 (0:Int) (23:Int)).2)).set (2:Int).toNat ((ac g4 (1:Int) (31:Int)).2)).set (3:Int).toNat ((ac g6 (1:Int) (12:Int)).2)).map etB) (gr (by rfl))<|AG etS h19<|AD (dz g8 (0:Int) (6:Int) h20 h21)<|AG etB h22<|AC (p:=((((((List.replicate (5:Int).toNat false).set (0:Int).toNat ((ac g0 (0:Int) (59:Int)).2)).set (1:Int).toNat ((ac g2 (0:Int) (23:Int)).2)).set (2:Int).toNat ((ac g4 (1:Int) (31:Int)).2)).set (3:Int).toNat ((ac g6 (1:Int) (12:Int)).2)).map etB).set (0+(4:Int).toNat) (aA (etB g9) 0 [tB ((ac g8 (0:Int) (6:Int)).2)])=((((((List.replicate (5:Int).toNat false).set (0:Int).toNat ((ac g0 (0:Int) (59:Int)).2)).set (1:Int).toNat ((ac g2 (0:Int) (23:Int)).2)).set (2:Int).toNat ((ac g4 (1:Int) (31:Int)).2)).set (3:Int).toNat ((ac g6 (1:Int) (12:Int)).2)).set (4:Int).toNat ((ac g8 (0:Int) (6:Int)).2)).map etB) (gr (by rfl))<|AL h23<|AN))
   | x0 =>
    have h23:=hy
    exact KB (DP Tryz.f43 [.ret [(false,[.s .own () 1 (((aK x0).1).map etS)]),(false,[tB true])],.val (.int .i64 (((aK x0).1).length:Int)),.b false,.rows ((List.replicate (5:Int).toNat false).map etB),.row (etS g0),.ret [(false,[.s .own () 1 (((ac g0 (0:Int) (59:Int)).1).map etI)]),(false,[tB ((ac g0 (0:Int) (59:Int)).2)])],.row (etB g1),.rows (((List.replicate (5:Int).toNat false).set (0:Int).toNat ((ac g0 (0:Int) (59:Int)).2)).map etB),.row (etS g2),.ret [(false,[.s .own () 1 (((ac g2 (0:Int) (23:Int)).1).map etI)]),(false,[tB ((ac g2 (0:Int) (23:Int)).2)])],.row (etB g3),.rows ((((List.replicate (5:Int).toNat false).set (0:Int).toNat ((ac g0 (0:Int) (59:Int)).2)).set (1:Int).toNat ((ac g2 (0:Int) (23:Int)).2)).map etB),.row (etS g4),.ret [(false,[.s .own () 1 (((ac g4 (1:Int) (31:Int)).1).map etI)]),(false,[tB ((ac g4 (1:Int) (31:Int)).2)])],.row (etB g5),.rows (((((List.replicate (5:Int).toNat false).set (0:Int).toNat ((ac g0 (0:Int) (59:Int)).2)).set (1:Int).toNat ((ac g2 (0:Int) (23:Int)).2)).set (2:Int).toNat ((ac g4 (1:Int) (31:Int)).2)).map etB),.row (etS g6),.ret [(false,[.s .own () 1 (((ac g6 (1:Int) (12:Int)).1).map etI)]),(false,[tB ((ac g6 (1:Int) (12:Int)).2)])],.row (etB g7),.rows ((((((List.replicate (5:Int).toNat false).set (0:Int).toNat ((ac g0 (0:Int) (59:Int)).2)).set (1:Int).toNat ((ac g2 (0:Int) (23:Int)).2)).set (2:Int).toNat ((ac g4 (1:Int) (31:Int)).2)).set (3:Int).toNat ((ac g6 (1:Int) (12:Int)).2)).map etB),.row (etS g8),.ret [(false,[.s .own () 1 (((ac g8 (0:Int) (6:Int)).1).map etI)]),(false,[tB ((ac g8 (0:Int) (6:Int)).2)])],.row (etB g9),.rows (((((((List.replicate (5:Int).toNat false).set (0:Int).toNat ((ac g0 (0:Int) (59:Int)).2)).set (1:Int).toNat ((ac g2 (0:Int) (23:Int)).2)).set (2:Int).toNat ((ac g4 (1:Int) (31:Int)).2)).set (3:Int).toNat ((ac g6 (1:Int) (12:Int)).2)).set (4:Int).toNat ((ac g8 (0:Int) (6:Int)).2)).map etB),.lp (.exit 0) (kR ([]) ([]) ([]) ([]) ([]) ((ac g0 (0:Int) (59:Int)).1) ((ac g2 (0:Int) (23:Int)).1) ((ac g4 (1:Int) (31:Int)).1) ((ac g6 (1:Int) (12:Int)).1) ((ac g8 (0:Int) (6:Int)).1))] (AD (kq x0 h0)<|ALn ((aK x0).1) etS<|AC h1<|AC h2<|AC (p:=List.replicate (5:Int).toNat [tB false]=(List.replicate (5:Int).toNat false).map etB) (oG rfl)<|AG etS h3<|AD (dz g0 (0:Int) (59:Int) h4 h5)<|AG etB h6<|AC (p:=((List.replicate (5:Int).toNat false).map etB).set (0+(0:Int).toNat) (aA (etB g1) 0 [tB ((ac g0 (0:Int) (59:Int)).2)])=((List.replicate (5:Int).toNat false).set (0:Int).toNat ((ac g0 (0:Int) (59:Int)).2)).map etB) (gr (by rfl))<|AG etS h7<|AD (dz g2 (0:Int) (23:Int) h8 h9)<|AG etB h10<|AC (p:=(((List.replicate (5:Int).toNat false).set (0:Int).toNat ((ac g0 (0:Int) (59:Int)).2)).map etB).set (0+(1:Int).toNat) (aA (etB g3) 0 [tB ((ac g2 (0:Int) (23:Int)).2)])=(((List.replicate (5:Int).toNat false).set (0:Int).toNat ((ac g0 (0:Int) (59:Int)).2)).set (1:Int).toNat ((ac g2 (0:Int) (23:Int)).2)).map etB) (gr (by rfl))<|AG etS h11<|AD (dz g4 (1:Int) (31:Int) h12 h13)<|AG etB h14<|AC (p:=((((List.replicate (5:Int).toNat false).set (0:Int).toNat ((ac g0 (0:Int) (59:Int)).2)).set (1:Int).toNat ((ac g2 (0:Int) (23:Int)).2)).map etB).set (0+(2:Int).toNat) (aA (etB g5) 0 [tB ((ac g4 (1:Int) (31:Int)).2)])=((((List.replicate (5:Int).toNat false).set (0:Int).toNat ((ac g0 (0:Int) (59:Int)).2)).set (1:Int).toNat ((ac g2 (0:Int) (23:Int)).2)).set (2:Int).toNat ((ac g4 (1:Int) (31:Int)).2)).map etB) (gr (by rfl))<|AG etS h15<|AD (dz g6 (1:Int) (12:Int) h16 h17)<|AG etB h18<|AC (p:=(((((List.replicate (5:Int).toNat false).set (0:Int).toNat ((ac g0 (0:Int) (59:Int)).2)).set (1:Int).toNat ((ac g2 (0:Int) (23:Int)).2)).set (2:Int).toNat ((ac g4 (1:Int) (31:Int)).2)).map etB).set (0+(3:Int).toNat) (aA (etB g7) 0 [tB ((ac g6 (1:Int) (12:Int)).2)])=(((((List.replicate (5:Int).toNat false).set (0:Int).toNat ((ac g0 (0:Int) (59:Int)).2)).set (1:Int).toNat ((ac g2 (0:Int) (23:Int)).2)).set (2:Int).toNat ((ac g4 (1:Int) (31:Int)).2)).set (3:Int).toNat ((ac g6 (1:Int) (12:Int)).2)).map etB) (gr (by rfl))<|AG etS h19<|AD (dz g8 (0:Int) (6:Int) h20 h21)<|AG etB h22<|AC (p:=((((((List.replicate (5:Int).toNat false).set (0:Int).toNat ((ac g0 (0:Int) (59:Int)).2)).set (1:Int).toNat ((ac g2 (0:Int) (23:Int)).2)).set (2:Int).toNat ((ac g4 (1:Int) (31:Int)).2)).set (3:Int).toNat ((ac g6 (1:Int) (12:Int)).2)).map etB).set (0+(4:Int).toNat) (aA (etB g9) 0 [tB ((ac g8 (0:Int) (6:Int)).2)])=((((((List.replicate (5:Int).toNat false).set (0:Int).toNat ((ac g0 (0:Int) (59:Int)).2)).set (1:Int).toNat ((ac g2 (0:Int) (23:Int)).2)).set (2:Int).toNat ((ac g4 (1:Int) (31:Int)).2)).set (3:Int).toNat ((ac g6 (1:Int) (12:Int)).2)).set (4:Int).toNat ((ac g8 (0:Int) (6:Int)).2)).map etB) (gr (by rfl))<|AL h23<|AN))
 ·exact KB (DP Tryz.f43 [.ret [(false,[.s .own () 1 (((aK x0).1).map etS)]),(false,[tB false])]] (AD (kq x0 h0)<|AN))
inductive qp where
 | ret (v2_0 v2_1 v2_2 v2_3 v2_4:List Int) (v3:Bool)
 | x0 (v6_0 v6_1 v6_2 v6_3 v6_4:List Int)
def bh (v2_0 v2_1 v2_2 v2_3 v2_4:List Int) (v4:List ByteArray) (v6_0 v6_1 v6_2 v6_3 v6_4:List Int) (v25:Int):US:=stL 46 [(2,.box () [.s .own () 1 (v2_0.map etI),.s .own () 1 (v2_1.map etI),.s .own () 1 (v2_2.map etI),.s .own () 1 (v2_3.map etI),.s .own () 1 (v2_4.map etI)]),(4,.one (.s .own () 1 (v4.map etS))),(6,.box () [.s .own () 1 (v6_0.map etI),.s .own () 1 (v6_1.map etI),.s .own () 1 (v6_2.map etI),.s .own () 1 (v6_3.map etI),.s .own () 1 (v6_4.map etI)]),(24,.clo (.arr [0,1,2,3,4]) [6,6,6,6,6]),(25,.one (tI v25))]
def dn (zv2_0 zv2_1 zv2_2 zv2_3 zv2_4:List Int) (zv3:Bool):US:=stL 46 [(2,.box () [.s .own () 1 (zv2_0.map etI),.s .own () 1 (zv2_1.map etI),.s .own () 1 (zv2_2.map etI),.s .own () 1 (zv2_3.map etI),.s .own () 1 (zv2_4.map etI)]),(3,.one (tB zv3))]
def kK (v2_0 v2_1 v2_2 v2_3 v2_4 zv6_0 zv6_1 zv6_2 zv6_3 zv6_4:List Int):US:=stL 46 [(2,.box () [.s .own () 1 (v2_0.map etI),.s .own () 1 (v2_1.map etI),.s .own () 1 (v2_2.map etI),.s .own () 1 (v2_3.map etI),.s .own () 1 (v2_4.map etI)]),(6,.box () [.s .own () 1 (zv6_0.map etI),.s .own () 1 (zv6_1.map etI),.s .own () 1 (zv6_2.map etI),.s .own () 1 (zv6_3.map etI),.s .own () 1 (zv6_4.map etI)])]
abbrev cq:US→Exit→US→Prop:=Round E 74 (az Tryz.f74 0)
def xz (v2_0 v2_1 v2_2 v2_3 v2_4:List Int) (v4:List ByteArray) (v6_0 v6_1 v6_2 v6_3 v6_4:List Int) (v25:Int):qp→Prop
 | .ret zv2_0 zv2_1 zv2_2 zv2_3 zv2_4 zv3=>Loops E 74 (az Tryz.f74 0) (bh v2_0 v2_1 v2_2 v2_3 v2_4 v4 v6_0 v6_1 v6_2 v6_3 v6_4 v25) .ret (dn zv2_0 zv2_1 zv2_2 zv2_3 zv2_4 zv3)
 | .x0 zv6_0 zv6_1 zv6_2 zv6_3 zv6_4=>Loops E 74 (az Tryz.f74 0) (bh v2_0 v2_1 v2_2 v2_3 v2_4 v4 v6_0 v6_1 v6_2 v6_3 v6_4 v25) (.exit 0) (kK v2_0 v2_1 v2_2 v2_3 v2_4 zv6_0 zv6_1 zv6_2 zv6_3 zv6_4)
noncomputable def aL (v4:List ByteArray):Nat→(List Int)→(List Int)→(List Int)→(List Int)→(List Int)→Int→Option qp
 | 0,_,_,_,_,_,_=>none
 | n+1,v6_0,v6_1,v6_2,v6_3,v6_4,v25=>cond (decide (v25<(5:Int)))
  (cond (v25==(0:Int))
   ((aq v4 v25).bind fun g0=>if g0.size≤2000000 then cond ((aN g0 v25).2)
    (aL v4 n ((aN g0 v25).1) v6_1 v6_2 v6_3 v6_4 (inc v25))
    (some (.ret ([]) ([]) ([]) ([]) ([]) false)) else none)
   (cond (v25==(1:Int))
    ((aq v4 v25).bind fun g0=>if g0.size≤2000000 then cond ((aN g0 v25).2)
     (aL v4 n v6_0 ((aN g0 v25).1) v6_2 v6_3 v6_4 (inc v25))
     (some (.ret ([]) ([]) ([]) ([]) ([]) false)) else none)
    (cond (v25==(2:Int))
     ((aq v4 v25).bind fun g0=>if g0.size≤2000000 then cond ((aN g0 v25).2)
      (aL v4 n v6_0 v6_1 ((aN g0 v25).1) v6_3 v6_4 (inc v25))
      (some (.ret ([]) ([]) ([]) ([]) ([]) false)) else none)
     (cond (v25==(3:Int))
      ((aq v4 v25).bind fun g0=>if g0.size≤2000000 then cond ((aN g0 v25).2)
       (aL v4 n v6_0 v6_1 v6_2 ((aN g0 v25).1) v6_4 (inc v25))
       (some (.ret ([]) ([]) ([]) ([]) ([]) false)) else none)
      (if v25=(4:Int) then (aq v4 v25).bind fun g0=>if g0.size≤2000000 then cond ((aN g0 v25).2)
       (aL v4 n v6_0 v6_1 v6_2 v6_3 ((aN g0 v25).1) (inc v25))
       (some (.ret ([]) ([]) ([]) ([]) ([]) false)) else none else none)))))
  (some (.x0 v6_0 v6_1 v6_2 v6_3 v6_4))
theorem xy (v2_0 v2_1 v2_2 v2_3 v2_4:List Int) (v4:List ByteArray) (n:Nat):∀ (v6_0 v6_1 v6_2 v6_3 v6_4:List Int) (v25:Int),Ans (aL v4 n v6_0 v6_1 v6_2 v6_3 v6_4 v25) (xz v2_0 v2_1 v2_2 v2_3 v2_4 v4 v6_0 v6_1 v6_2 v6_3 v6_4 v25):=by
 induction n with
 | zero=>intros;exact Ans.none
 | succ n ih =>
  intro v6_0 v6_1 v6_2 v6_3 v6_4 v25
  unfold aL
  apply KE<;>intro h0
  ·apply KE<;>intro h1
   ·refine KF (fun g0 h2 => ?_)
    refine KG (fun h3 => ?_)
    apply KE<;>intro h4
    ·have r:cq (bh v2_0 v2_1 v2_2 v2_3 v2_4 v4 v6_0 v6_1 v6_2 v6_3 v6_4 v25) .normal (bh v2_0 v2_1 v2_2 v2_3 v2_4 v4 ((aN g0 v25).1) v6_1 v6_2 v6_3 v6_4 (inc v25)):=RP [.b true,.val (.int .i64 0),.row (etS g0),.ret [(false,[.s .own () 1 (((aN g0 v25).1).map etI)]),(false,[tB true])]] (AC h0<|AC (p:=v25=(0:Int)) (eq_of_beq h1)<|AG etS h2<|AD (b8 g0 v25 h3 h4)<|AN);exact (ih ((aN g0 v25).1) v6_1 v6_2 v6_3 v6_4 (inc v25)).mono fun y hy=>by cases y<;>exact KC r hy
    ·exact KB (KD (show cq (bh v2_0 v2_1 v2_2 v2_3 v2_4 v4 v6_0 v6_1 v6_2 v6_3 v6_4 v25) .ret (dn ([]) ([]) ([]) ([]) ([]) false) from RP [.b true,.val (.int .i64 0),.row (etS g0),.ret [(false,[.s .own () 1 (((aN g0 v25).1).map etI)]),(false,[tB false])]] (AC h0<|AC (p:=v25=(0:Int)) (eq_of_beq h1)<|AG etS h2<|AD (b8 g0 v25 h3 h4)<|AN)) (by intro h;cases h))
   ·apply KE<;>intro h2
    ·refine KF (fun g0 h3 => ?_)
     refine KG (fun h4 => ?_)
     apply KE<;>intro h5
     ·have r:cq (bh v2_0 v2_1 v2_2 v2_3 v2_4 v4 v6_0 v6_1 v6_2 v6_3 v6_4 v25) .normal (bh v2_0 v2_1 v2_2 v2_3 v2_4 v4 v6_0 ((aN g0 v25).1) v6_2 v6_3 v6_4 (inc v25)):=RP [.b true,.val (.int .i64 1),.row (etS g0),.ret [(false,[.s .own () 1 (((aN g0 v25).1).map etI)]),(false,[tB true])]] (AC h0<|AC (p:=v25=(1:Int)) (eq_of_beq h2)<|AG etS h3<|AD (b8 g0 v25 h4 h5)<|AN);exact (ih v6_0 ((aN g0 v25).1) v6_2 v6_3 v6_4 (inc v25)).mono fun y hy=>by cases y<;>exact KC r hy
     ·exact KB (KD (show cq (bh v2_0 v2_1 v2_2 v2_3 v2_4 v4 v6_0 v6_1 v6_2 v6_3 v6_4 v25) .ret (dn ([]) ([]) ([]) ([]) ([]) false) from RP [.b true,.val (.int .i64 1),.row (etS g0),.ret [(false,[.s .own () 1 (((aN g0 v25).1).map etI)]),(false,[tB false])]] (AC h0<|AC (p:=v25=(1:Int)) (eq_of_beq h2)<|AG etS h3<|AD (b8 g0 v25 h4 h5)<|AN)) (by intro h;cases h))
    ·apply KE<;>intro h3
     ·refine KF (fun g0 h4 => ?_)
      refine KG (fun h5 => ?_)
      apply KE<;>intro h6
      ·have r:cq (bh v2_0 v2_1 v2_2 v2_3 v2_4 v4 v6_0 v6_1 v6_2 v6_3 v6_4 v25) .normal (bh v2_0 v2_1 v2_2 v2_3 v2_4 v4 v6_0 v6_1 ((aN g0 v25).1) v6_3 v6_4 (inc v25)):=RP [.b true,.val (.int .i64 2),.row (etS g0),.ret [(false,[.s .own () 1 (((aN g0 v25).1).map etI)]),(false,[tB true])]] (AC h0<|AC (p:=v25=(2:Int)) (eq_of_beq h3)<|AG etS h4<|AD (b8 g0 v25 h5 h6)<|AN);exact (ih v6_0 v6_1 ((aN g0 v25).1) v6_3 v6_4 (inc v25)).mono fun y hy=>by cases y<;>exact KC r hy
      ·exact KB (KD (show cq (bh v2_0 v2_1 v2_2 v2_3 v2_4 v4 v6_0 v6_1 v6_2 v6_3 v6_4 v25) .ret (dn ([]) ([]) ([]) ([]) ([]) false) from RP [.b true,.val (.int .i64 2),.row (etS g0),.ret [(false,[.s .own () 1 (((aN g0 v25).1).map etI)]),(false,[tB false])]] (AC h0<|AC (p:=v25=(2:Int)) (eq_of_beq h3)<|AG etS h4<|AD (b8 g0 v25 h5 h6)<|AN)) (by intro h;cases h))
     ·apply KE<;>intro h4
      ·refine KF (fun g0 h5 => ?_)
       refine KG (fun h6 => ?_)
       apply KE<;>intro h7
       ·have r:cq (bh v2_0 v2_1 v2_2 v2_3 v2_4 v4 v6_0 v6_1 v6_2 v6_3 v6_4 v25) .normal (bh v2_0 v2_1 v2_2 v2_3 v2_4 v4 v6_0 v6_1 v6_2 ((aN g0 v25).1) v6_4 (inc v25)):=RP [.b true,.val (.int .i64 3),.row (etS g0),.ret [(false,[.s .own () 1 (((aN g0 v25).1).map etI)]),(false,[tB true])]] (AC h0<|AC (p:=v25=(3:Int)) (eq_of_beq h4)<|AG etS h5<|AD (b8 g0 v25 h6 h7)<|AN);exact (ih v6_0 v6_1 v6_2 ((aN g0 v25).1) v6_4 (inc v25)).mono fun y hy=>by cases y<;>exact KC r hy
       ·exact KB (KD (show cq (bh v2_0 v2_1 v2_2 v2_3 v2_4 v4 v6_0 v6_1 v6_2 v6_3 v6_4 v25) .ret (dn ([]) ([]) ([]) ([]) ([]) false) from RP [.b true,.val (.int .i64 3),.row (etS g0),.ret [(false,[.s .own () 1 (((aN g0 v25).1).map etI)]),(false,[tB false])]] (AC h0<|AC (p:=v25=(3:Int)) (eq_of_beq h4)<|AG etS h5<|AD (b8 g0 v25 h6 h7)<|AN)) (by intro h;cases h))
      ·refine KG (fun h5 => ?_)
       refine KF (fun g0 h6 => ?_)
       refine KG (fun h7 => ?_)
       apply KE<;>intro h8
       ·have r:cq (bh v2_0 v2_1 v2_2 v2_3 v2_4 v4 v6_0 v6_1 v6_2 v6_3 v6_4 v25) .normal (bh v2_0 v2_1 v2_2 v2_3 v2_4 v4 v6_0 v6_1 v6_2 v6_3 ((aN g0 v25).1) (inc v25)):=RP [.b true,.val (.int .i64 4),.row (etS g0),.ret [(false,[.s .own () 1 (((aN g0 v25).1).map etI)]),(false,[tB true])]] (AC h0<|AC h5<|AG etS h6<|AD (b8 g0 v25 h7 h8)<|AN);exact (ih v6_0 v6_1 v6_2 v6_3 ((aN g0 v25).1) (inc v25)).mono fun y hy=>by cases y<;>exact KC r hy
       ·exact KB (KD (show cq (bh v2_0 v2_1 v2_2 v2_3 v2_4 v4 v6_0 v6_1 v6_2 v6_3 v6_4 v25) .ret (dn ([]) ([]) ([]) ([]) ([]) false) from RP [.b true,.val (.int .i64 4),.row (etS g0),.ret [(false,[.s .own () 1 (((aN g0 v25).1).map etI)]),(false,[tB false])]] (AC h0<|AC h5<|AG etS h6<|AD (b8 g0 v25 h7 h8)<|AN)) (by intro h;cases h))
  ·exact KB (KD (show cq (bh v2_0 v2_1 v2_2 v2_3 v2_4 v4 v6_0 v6_1 v6_2 v6_3 v6_4 v25) (.exit 0) (kK v2_0 v2_1 v2_2 v2_3 v2_4 v6_0 v6_1 v6_2 v6_3 v6_4) from RP [.b false] (AC h0<|AN)) (by intro h;cases h))
noncomputable def ks (x0:ByteArray):Option (GCron×Bool) :=
  cond ((aK x0).2)
   (cond ((((aK x0).1).length:Int) != (5:Int))
    (some ((GCron.mk ([]:List Int) ([]:List Int) ([]:List Int) ([]:List Int) ([]:List Int)),false))
    ((aL ((aK x0).1) 9223372036854775808 ([]) ([]) ([]) ([]) ([]) (0:Int)).bind fun y=>match y with
     | .ret w0_2_0 w0_2_1 w0_2_2 w0_2_3 w0_2_4 w0_3=>(some ((GCron.mk w0_2_0 w0_2_1 w0_2_2 w0_2_3 w0_2_4),w0_3))
     | .x0 w0_6_0 w0_6_1 w0_6_2 w0_6_3 w0_6_4=>(some ((GCron.mk w0_6_0 w0_6_1 w0_6_2 w0_6_3 w0_6_4),true))))
   (some ((GCron.mk ([]:List Int) ([]:List Int) ([]:List Int) ([]:List Int) ([]:List Int)),false))
theorem zd (x0:ByteArray):Ans (ks x0) (fun r=>Does E 74 [.one (tS x0)] [(true,GCron.t .own r.1),(false,[tB r.2])]):=by
 unfold ks
 apply KE<;>intro h0
 ·apply KE<;>intro h1
  ·exact KB (DP Tryz.f74 [.ret [(false,[.s .own () 1 (((aK x0).1).map etS)]),(false,[tB true])],.val (.int .i64 (((aK x0).1).length:Int)),.b true] (AD (kp x0 h0)<|ALn ((aK x0).1) etS<|AC h1<|AN))
  ·refine KF (fun y hy => ?_)
   replace hy:=xy ([]) ([]) ([]) ([]) ([]) ((aK x0).1) 9223372036854775808 ([]) ([]) ([]) ([]) ([]) (0:Int) y hy
   cases y with
   | ret w0_2_0 w0_2_1 w0_2_2 w0_2_3 w0_2_4 w0_3 =>
    have h2:=hy
    exact KB (DP Tryz.f74 [.ret [(false,[.s .own () 1 (((aK x0).1).map etS)]),(false,[tB true])],.val (.int .i64 (((aK x0).1).length:Int)),.b false,.lp .ret (dn w0_2_0 w0_2_1 w0_2_2 w0_2_3 w0_2_4 w0_3)] (AD (kp x0 h0)<|ALn ((aK x0).1) etS<|AC h1<|AL h2<|AN))
   | x0 w0_6_0 w0_6_1 w0_6_2 w0_6_3 w0_6_4 =>
    have h2:=hy
    exact KB (DP Tryz.f74 [.ret [(false,[.s .own () 1 (((aK x0).1).map etS)]),(false,[tB true])],.val (.int .i64 (((aK x0).1).length:Int)),.b false,.lp (.exit 0) (kK ([]) ([]) ([]) ([]) ([]) w0_6_0 w0_6_1 w0_6_2 w0_6_3 w0_6_4)] (AD (kp x0 h0)<|ALn ((aK x0).1) etS<|AC h1<|AL h2<|AN))
 ·exact KB (DP Tryz.f74 [.ret [(false,[.s .own () 1 (((aK x0).1).map etS)]),(false,[tB false])]] (AD (kp x0 h0)<|AN))
def noCron:GCron:=⟨[],[],[],[],[]⟩
noncomputable def qT (a b c d e:ByteArray):GCron×Bool :=
 cond (ac a 0 59).2 (cond (ac b 0 23).2 (cond (ac c 1 31).2 (cond (ac d 1 12).2 (cond (ac e 0 6).2
  (⟨(ac a 0 59).1,(ac b 0 23).1,(ac c 1 31).1,(ac d 1 12).1,(ac e 0 6).1⟩,true) (noCron,false)) (noCron,false)) (noCron,false)) (noCron,false)) (noCron,false)
noncomputable def Az:List ByteArray→GCron×Bool
 | [a,b,c,d,e]=>qT a b c d e
 | _=>(noCron,false)
noncomputable def au (s:ByteArray):GCron×Bool:=Az (aK s).1
theorem wI {s:ByteArray} (h:(aK s).2=false):(aK s).1=[]:=by
 unfold aK at h ⊢
 split
 ·rfl
 ·rename_i h0
  rw [if_neg h0] at h
  split
  ·rename_i h1
   rw [if_pos h1] at h
   split
   ·rfl
   ·rename_i h2
    rw [if_neg h2] at h;cases h
  ·rfl
theorem HI {α:Type} {l:List α} (h:l.length=5):∃ a b c d e,l=[a,b,c,d,e]:=by
 match l,h with
 | [a,b,c,d,e],_=>exact ⟨a,b,c,d,e,rfl⟩
theorem sR {l:List ByteArray} (h:l.length≠5):Az l=(noCron,false):=by
 unfold Az
 split
 ·exact absurd rfl h
 ·rfl
theorem Ji (a b c d e:Bool) (n:Nat):fE [a,b,c,d,e] (n+6) 0=some (cond a (cond b (cond c (cond d (cond e .x0 (.ret [] [] [] [] [] false)) (.ret [] [] [] [] [] false)) (.ret [] [] [] [] [] false)) (.ret [] [] [] [] [] false)) (.ret [] [] [] [] [] false)):=by
 cases a<;>cases b<;>cases c<;>cases d<;>cases e<;>rfl
theorem IE (s:ByteArray):kA s=some (au s):=by
 unfold kA au
 cases q:(aK s).2 with
 | false =>
  rw [wI q];rfl
 | true =>
  rw [cond_true]
  by_cases h:(aK s).1.length=5
  ·obtain ⟨a,b,c,d,e,hl⟩:=HI h
   have hm:∀ p∈[a,b,c,d,e],p.size≤2000000:=fun p hp=>by
    rw [← hl] at hp
    have:=pS hp
    omega
   have ha:(a.size≤2000000)=True:=eq_true (hm a (by simp))
   have hb:(b.size≤2000000)=True:=eq_true (hm b (by simp))
   have hc:(c.size≤2000000)=True:=eq_true (hm c (by simp))
   have hd:(d.size≤2000000)=True:=eq_true (hm d (by simp))
   have he:(e.size≤2000000)=True:=eq_true (hm e (by simp))
   have e5:((([a,b,c,d,e]:List ByteArray).length:Int) != 5)=false:=rfl
   rw [hl,e5,cond_false,if_pos (by decide)]
   have g0:aq [a,b,c,d,e] (0:Int)=some a:=rfl
   have g1:aq [a,b,c,d,e] (1:Int)=some b:=rfl
   have g2:aq [a,b,c,d,e] (2:Int)=some c:=rfl
   have g3:aq [a,b,c,d,e] (3:Int)=some d:=rfl
   have g4:aq [a,b,c,d,e] (4:Int)=some e:=rfl
   have b0:((0:Int)≤0∧(0:Int)≤59∧(59:Int)≤59)=True:=eq_true (by decide)
   have b1:((0:Int)≤0∧(0:Int)≤23∧(23:Int)≤59)=True:=eq_true (by decide)
   have b2:((0:Int)≤1∧(1:Int)≤31∧(31:Int)≤59)=True:=eq_true (by decide)
   have b3:((0:Int)≤1∧(1:Int)≤12∧(12:Int)≤59)=True:=eq_true (by decide)
   have b4:((0:Int)≤0∧(0:Int)≤6∧(6:Int)≤59)=True:=eq_true (by decide)
   simp only [g0,g1,g2,g3,g4,Option.bind_some,ha,hb,hc,hd,he,b0,b1,b2,b3,b4,if_true]
   show (fE [(ac a 0 59).2,(ac b 0 23).2,(ac c 1 31).2,(ac d 1 12).2,(ac e 0 6).2] (9223372036854775802+6) 0).bind _=some (qT a b c d e)
   rw [Ji]
   unfold qT
   cases (ac a 0 59).2<;>cases (ac b 0 23).2<;>cases (ac c 1 31).2<;>cases (ac d 1 12).2<;>cases (ac e 0 6).2<;>rfl
  ·have e5:(((aK s).1.length:Int) != 5)=true:=by rw [bne_iff_ne];omega
   rw [e5,cond_true,sR h];rfl
theorem ID (s:ByteArray):ks s=some (au s):=by
 unfold ks au
 cases q:(aK s).2 with
 | false =>
  rw [wI q];rfl
 | true =>
  rw [cond_true]
  by_cases h:(aK s).1.length=5
  ·obtain ⟨a,b,c,d,e,hl⟩:=HI h
   have hm:∀ p∈[a,b,c,d,e],p.size≤2000000:=fun p hp=>by
    rw [← hl] at hp
    have:=pS hp
    omega
   have e5:((([a,b,c,d,e]:List ByteArray).length:Int) != 5)=false:=rfl
   rw [hl,e5,cond_false]
   have s0:∀ n v0 v1 v2 v3 v4,aL [a,b,c,d,e] (n+1) v0 v1 v2 v3 v4 0=cond (ac a 0 59).2 (aL [a,b,c,d,e] n (ac a 0 59).1 v1 v2 v3 v4 1) (some (.ret [] [] [] [] [] false)):=fun n v0 v1 v2 v3 v4=>by
    conv=>lhs;unfold aL
    show (if a.size≤2000000 then _ else none)=_
    rw [if_pos (hm a (by simp))];rfl
   have s1:∀ n v0 v1 v2 v3 v4,aL [a,b,c,d,e] (n+1) v0 v1 v2 v3 v4 1=cond (ac b 0 23).2 (aL [a,b,c,d,e] n v0 (ac b 0 23).1 v2 v3 v4 2) (some (.ret [] [] [] [] [] false)):=fun n v0 v1 v2 v3 v4=>by
    conv=>lhs;unfold aL
    show (if b.size≤2000000 then _ else none)=_
    rw [if_pos (hm b (by simp))];rfl
   have s2:∀ n v0 v1 v2 v3 v4,aL [a,b,c,d,e] (n+1) v0 v1 v2 v3 v4 2=cond (ac c 1 31).2 (aL [a,b,c,d,e] n v0 v1 (ac c 1 31).1 v3 v4 3) (some (.ret [] [] [] [] [] false)):=fun n v0 v1 v2 v3 v4=>by
    conv=>lhs;unfold aL
    show (if c.size≤2000000 then _ else none)=_
    rw [if_pos (hm c (by simp))];rfl
   have s3:∀ n v0 v1 v2 v3 v4,aL [a,b,c,d,e] (n+1) v0 v1 v2 v3 v4 3=cond (ac d 1 12).2 (aL [a,b,c,d,e] n v0 v1 v2 (ac d 1 12).1 v4 4) (some (.ret [] [] [] [] [] false)):=fun n v0 v1 v2 v3 v4=>by
    conv=>lhs;unfold aL
    show (if d.size≤2000000 then _ else none)=_
    rw [if_pos (hm d (by simp))];rfl
   have s4:∀ n v0 v1 v2 v3 v4,aL [a,b,c,d,e] (n+1) v0 v1 v2 v3 v4 4=cond (ac e 0 6).2 (aL [a,b,c,d,e] n v0 v1 v2 v3 (ac e 0 6).1 5) (some (.ret [] [] [] [] [] false)):=fun n v0 v1 v2 v3 v4=>by
    conv=>lhs;unfold aL
    show (if (4:Int)=4 then (if e.size≤2000000 then _ else none) else none)=_
    rw [if_pos rfl,if_pos (hm e (by simp))];rfl
   have s5:∀ n v0 v1 v2 v3 v4,aL [a,b,c,d,e] (n+1) v0 v1 v2 v3 v4 5=some (.x0 v0 v1 v2 v3 v4):=fun n v0 v1 v2 v3 v4=>rfl
   have st:aL [a,b,c,d,e] (9223372036854775802+6) [] [] [] [] [] 0=_:=s0 _ _ _ _ _ _
   rw [s1,s2,s3,s4,s5] at st
   refine (congrArg (Option.bind · _) st).trans ?_
   show _=some (qT a b c d e)
   unfold qT
   cases (ac a 0 59).2<;>cases (ac b 0 23).2<;>cases (ac c 1 31).2<;>cases (ac d 1 12).2<;>cases (ac e 0 6).2<;>rfl
  ·have e5:(((aK s).1.length:Int) != 5)=true:=by rw [bne_iff_ne];omega
   rw [e5,cond_true,sR h];rfl
theorem qm {lo hi:Int} {s:ByteArray} (hs:s.size≤2000000) (hb:0≤lo∧lo≤hi∧hi≤59):ak.sm (ac s lo hi).1:=by
 rcases (vl s lo hi hs hb).2.1 with h | h
 ·rw [h.2];exact ⟨by decide,fun y hy=>by cases hy⟩
 ·exact ⟨by have:=h.2.2.2.2;omega,fun y hy=>trivial⟩
theorem yU:ak.sm noCron:=⟨⟨by decide,fun y hy=>by cases hy⟩,⟨by decide,fun y hy=>by cases hy⟩,⟨by decide,fun y hy=>by cases hy⟩,⟨by decide,fun y hy=>by cases hy⟩,⟨by decide,fun y hy=>by cases hy⟩⟩
theorem BI (s:ByteArray):ak.sm (au s).1:=by
 unfold au
 by_cases h:(aK s).1.length=5
 ·obtain ⟨a,b,c,d,e,hl⟩:=HI h
  have hm:∀ p∈[a,b,c,d,e],p.size≤2000000:=fun p hp=>by
   rw [← hl] at hp
   have:=pS hp
   omega
  rw [hl]
  show ak.sm (qT a b c d e).1
  unfold qT
  have:=qm (lo:=0) (hi:=59) (hm a (by simp)) (by decide)
  have:=qm (lo:=0) (hi:=23) (hm b (by simp)) (by decide)
  have:=qm (lo:=1) (hi:=31) (hm c (by simp)) (by decide)
  have:=qm (lo:=1) (hi:=12) (hm d (by simp)) (by decide)
  have:=qm (lo:=0) (hi:=6) (hm e (by simp)) (by decide)
  cases (ac a 0 59).2<;>cases (ac b 0 23).2<;>cases (ac c 1 31).2<;>cases (ac d 1 12).2<;>cases (ac e 0 6).2<;>first | exact yU | exact ⟨by assumption,by assumption,by assumption,by assumption,by assumption⟩
 ·rw [sR h];exact yU
theorem ne (x0:ByteArray):Does E 43 [.one (tS x0)] [(true,GCron.t .own ((au x0).1)),(false,[tB ((au x0).2)])]:=by
 exact zr x0 _ (IE x0)
theorem dW (x0:ByteArray) {bb:Bool} (hbb:(au x0).2=bb):Does E 43 [.one (tS x0)] [(true,GCron.t .own ((au x0).1)),(false,[tB bb])]:=by rw [← hbb];exact ne x0
theorem y4 (x0:ByteArray):Does E 74 [.one (tS x0)] [(true,GCron.t .own ((au x0).1)),(false,[tB ((au x0).2)])]:=by
 exact zd x0 _ (ID x0)
theorem oV (x0:ByteArray) {bb:Bool} (hbb:(au x0).2=bb):Does E 74 [.one (tS x0)] [(true,GCron.t .own ((au x0).1)),(false,[tB bb])]:=by rw [← hbb];exact y4 x0
end Go.Proofs.YtgaiiephdjllkaaGreatDoor.Am
namespace Go.Proofs.YtgaiiephdjllkaaGreatDoor.Am
open Go Go.Proofs Classical
set_option maxRecDepth 100000
set_option linter.unusedVariables false
set_option linter.unusedSimpArgs false
inductive wR where
 | ret (v4:Bool)
 | x0 
def jP (v0:List Int) (v1 v5:Int):US:=stL 18 [(0,.one (.s .far () 1 (v0.map etI))),(1,.one (tI v1)),(5,.one (tI v5))]
def nz (zv4:Bool):US:=stL 18 [(4,.one (tB zv4))]
def oL  : US:=stL 18 []
abbrev rH:US→Exit→US→Prop:=Round E 72 (az Tryz.f72 0)
def Fu (v0:List Int) (v1 v5:Int):wR→Prop
 | .ret zv4=>Loops E 72 (az Tryz.f72 0) (jP v0 v1 v5) .ret (nz zv4)
 | .x0=>Loops E 72 (az Tryz.f72 0) (jP v0 v1 v5) (.exit 0) (oL)
noncomputable def it (v1:Int):List Int→Nat→Option wR
 | [],i=>some (.x0)
 | hd::rest,i=>cond (hd==v1)
  (some (.ret true))
  (it v1 rest (i+1))
theorem Ft (v0:List Int) (v1:Int) (rest:List Int):∀ (i:Nat) ,(v0).drop i=rest→v0.length≤9223372036854775807→Ans (it v1 rest i) (Fu v0 v1 (i:Int)):=by
 induction rest with
 | nil =>
  intro i hE hl
  have hb:=br hE
  unfold it
  exact KB (KD (show rH (jP v0 v1 (i:Int)) (.exit 0) (oL) from RP [.val (.int .i64 (v0.length:Int)),.b false] (ALn v0 etI<|AC hb<|AN)) (by intro h;cases h))
 | cons hd rest ih =>
  intro i hE hl
  have hb:=bd hE
  have hw:=be hE hl
  have hE2:=aJ hE
  have hg:=ba hE
  unfold it
  apply KE<;>intro h2
  ·exact KB (KD (show rH (jP v0 v1 (i:Int)) .ret (nz true) from RP [.val (.int .i64 (v0.length:Int)),.b true,.row (etI hd),.b true] (ALn v0 etI<|AC hb<|AR etI hg<|AC h2<|AN)) (by intro h;cases h))
  ·exact (ih (i+1) hE2 hl).mono fun y hy=>by have r:rH (jP v0 v1 (i:Int)) .normal (jP v0 v1 (inc (i:Int))):=RP [.val (.int .i64 (v0.length:Int)),.b true,.row (etI hd),.b false] (ALn v0 etI<|AC hb<|AR etI hg<|AC h2<|AN);rw [hw] at r;cases y<;>exact KC r hy
noncomputable def t6 (x0:List Int) (x1:Int):Option (Bool) :=
  if x0.length≤9223372036854775807 then (it x1 x0 0).bind fun y=>match y with
   | .ret w0_4=>(some (w0_4))
   | .x0=>(some (false)) else none
theorem GU (x0:List Int) (x1:Int):Ans (t6 x0 x1) (fun r=>Does E 72 [.one (.s .far () 1 (x0.map etI)),.one (tI x1)] [(false,[tB r])]):=by
 unfold t6
 refine KG (fun hl1 => ?_)
 refine KF (fun y hy => ?_)
 replace hy:=Ft x0 x1 x0 0 rfl hl1 y hy
 cases y with
 | ret w0_4 =>
  have h0:=hy
  exact KB (DP Tryz.f72 [.lp .ret (nz w0_4)] (AL h0<|AN))
 | x0 =>
  have h0:=hy
  exact KB (DP Tryz.f72 [.lp (.exit 0) (oL)] (AL h0<|AN))
def cr (l:List Int) (x:Int):Bool:=l.any fun y=>y==x
theorem Gr (x:Int):∀ (rest:List Int) (i:Nat),it x rest i=some (if cr rest x=true then .ret true else .x0)
 | [],i=>rfl
 | y::rest,i=>by
  unfold it
  rw [Gr x rest (i+1)]
  unfold cr
  rw [List.any_cons]
  cases y==x<;>rfl
theorem o6 (x0:List Int) (x1:Int) (h:x0.length≤1050000):Does E 72 [.one (.s .far () 1 (x0.map etI)),.one (tI x1)] [(false,[tB (cr x0 x1)])]:=by
 exact GU x0 x1 _ (by
  unfold t6
  rw [if_pos (by omega),Gr]
  cases q:cr x0 x1<;>rfl)
inductive mi where
 | ret (v4:Int)
 | x0 
def dx (v0:List Int) (v1 v7 v8:Int):US:=stL 19 [(0,.one (.s .far () 1 (v0.map etI))),(1,.one (tI v1)),(7,.one (tI v7)),(8,.one (tI v8))]
def gE (zv4:Int):US:=stL 19 [(4,.one (tI zv4))]
def gW  : US:=stL 19 []
abbrev iT:US→Exit→US→Prop:=Round E 97 (az Tryz.f97 0)
def sE (v0:List Int) (v1 v7 v8:Int):mi→Prop
 | .ret zv4=>Loops E 97 (az Tryz.f97 0) (dx v0 v1 v7 v8) .ret (gE zv4)
 | .x0=>Loops E 97 (az Tryz.f97 0) (dx v0 v1 v7 v8) (.exit 0) (gW)
noncomputable def co (v1:Int):List Int→Nat→Option mi
 | [],i=>some (.x0)
 | hd::rest,i=>cond (v1==hd)
  (some (.ret (i:Int)))
  (co v1 rest (i+1))
theorem sD (v0:List Int) (v1:Int) (rest:List Int):∀ (i:Nat) ,(v0).drop i=rest→v0.length≤9223372036854775807→Ans (co v1 rest i) (sE v0 v1 (v0.length:Int) (i:Int)):=by
 induction rest with
 | nil =>
  intro i hE hl
  have hb:=br hE
  unfold co
  exact KB (KD (show iT (dx v0 v1 (v0.length:Int) (i:Int)) (.exit 0) (gW) from RP [.b false] (AC hb<|AN)) (by intro h;cases h))
 | cons hd rest ih =>
  intro i hE hl
  have hb:=bd hE
  have hw:=be hE hl
  have hE2:=aJ hE
  have hg:=ba hE
  unfold co
  apply KE<;>intro h2
  ·exact KB (KD (show iT (dx v0 v1 (v0.length:Int) (i:Int)) .ret (gE (i:Int)) from RP [.b true,.row (etI hd),.b true] (AC hb<|AR etI hg<|AC h2<|AN)) (by intro h;cases h))
  ·exact (ih (i+1) hE2 hl).mono fun y hy=>by have r:iT (dx v0 v1 (v0.length:Int) (i:Int)) .normal (dx v0 v1 (v0.length:Int) (inc (i:Int))):=RP [.b true,.row (etI hd),.b false] (AC hb<|AR etI hg<|AC h2<|AN);rw [hw] at r;cases y<;>exact KC r hy
noncomputable def dQ (x0:List Int) (x1:Int):Option (Int) :=
  if x0.length≤9223372036854775807 then (co x1 x0 0).bind fun y=>match y with
   | .ret w0_4=>(some (w0_4))
   | .x0=>(some ((-1:Int))) else none
theorem uc (x0:List Int) (x1:Int):Ans (dQ x0 x1) (fun r=>Does E 97 [.one (.s .far () 1 (x0.map etI)),.one (tI x1)] [(false,[tI r])]):=by
 unfold dQ
 refine KG (fun hl1 => ?_)
 refine KF (fun y hy => ?_)
 replace hy:=sD x0 x1 x0 0 rfl hl1 y hy
 cases y with
 | ret w0_4 =>
  have h0:=hy
  exact KB (DP Tryz.f97 [.val (.int .i64 (x0.length:Int)),.lp .ret (gE w0_4)] (ALn x0 etI<|AL h0<|AN))
 | x0 =>
  have h0:=hy
  exact KB (DP Tryz.f97 [.val (.int .i64 (x0.length:Int)),.lp (.exit 0) (gW)] (ALn x0 etI<|AL h0<|AN))
noncomputable def vt (l:List Int) (x:Int):Int:=(dQ l x).getD (-1)
theorem Ie (x:Int):∀ (rest:List Int) (i:Nat),(∃ k:Nat,co x rest i=some (.ret (k:Int))∧cr rest x=true)∨co x rest i=some .x0∧cr rest x=false
 | [],i => .inr ⟨rfl,rfl⟩
 | y::rest,i=>by
  have e:(x==y)=(y==x):=by cases q:y==x with | true=>rw [eq_of_beq q];simp | false=>exact beq_eq_false_iff_ne.2 fun e=>by rw [e] at q;simp at q
  unfold co cr
  rw [List.any_cons,e]
  cases y==x with
  | true=>exact .inl ⟨i,rfl,rfl⟩
  | false=>exact Ie x rest (i+1)
theorem Gn (l:List Int) (x:Int) (h:l.length≤1050000):dQ l x=some (vt l x)∧decide (vt l x≥(0:Int))=cr l x:=by
 have e:∃ r,dQ l x=some r∧decide (r≥(0:Int))=cr l x:=by
  unfold dQ
  rw [if_pos (by omega)]
  rcases Ie x l 0 with ⟨k,h1,h2⟩ | ⟨h1,h2⟩
  ·exact ⟨(k:Int),by rw [h1];rfl,by rw [h2];exact decide_eq_true (by omega)⟩
  ·exact ⟨-1,by rw [h1];rfl,by rw [h2];rfl⟩
 obtain ⟨r,h1,h2⟩:=e
 have p:vt l x=r:=by unfold vt;rw [h1];rfl
 rw [p];exact ⟨h1,h2⟩
theorem sM (x0:List Int) (x1:Int) (h:x0.length≤1050000):Does E 97 [.one (.s .far () 1 (x0.map etI)),.one (tI x1)] [(false,[tI (vt x0 x1)])]:=by
 exact uc x0 x1 _ (Gn x0 x1 h).1
noncomputable def gV (x0:List Int) (x1:Int):Option (Bool) :=
  if x0.length≤1050000 then some (decide ((vt x0 x1)≥(0:Int))) else none
theorem qB (x0:List Int) (x1:Int):Ans (gV x0 x1) (fun r=>Does E 80 [.one (.s .far () 1 (x0.map etI)),.one (tI x1)] [(false,[tB r])]):=by
 unfold gV
 refine KG (fun h0 => ?_)
 exact KB (DP Tryz.f80 [.ret [(false,[tI (vt x0 x1)])]] (AD (sM x0 x1 h0)<|AN))
theorem eU (x0:List Int) (x1:Int) (h:x0.length≤1050000):Does E 80 [.one (.s .far () 1 (x0.map etI)),.one (tI x1)] [(false,[tB (cr x0 x1)])]:=by
 exact qB x0 x1 _ (by
  unfold gV
  try rw [if_pos h]
  rw [(Gn x0 x1 h).2])
inductive t7 where
 | ret (v6:Bool)
 | x0 
def ef (v0:List Int) (v1 v2 v7:Int):US:=stL 41 [(0,.one (.s .far () 1 (v0.map etI))),(1,.one (tI v1)),(2,.one (tI v2)),(7,.one (tI v7))]
def i8 (zv6:Bool):US:=stL 41 [(6,.one (tB zv6))]
def mE (v0:List Int):US:=stL 41 [(0,.one (.s .far () 1 (v0.map etI)))]
abbrev jq:US→Exit→US→Prop:=Round E 88 (az Tryz.f88 0)
def B7 (v0:List Int) (v1 v2 v7:Int):t7→Prop
 | .ret zv6=>Loops E 88 (az Tryz.f88 0) (ef v0 v1 v2 v7) .ret (i8 zv6)
 | .x0=>Loops E 88 (az Tryz.f88 0) (ef v0 v1 v2 v7) (.exit 0) (mE v0)
noncomputable def eP (v0:List Int) (v1 v2:Int):List Int→Nat→Option t7
 | [],i=>some (.x0)
 | hd::rest,i=>cond (ag hd v1 v2)
  (cond (decide ((i:Int)>(0:Int)))
   ((aq v0 (IntKind.wrap .i64 ((i:Int)-(1:Int)))).bind fun g1=>cond (decide (g1≥hd))
    (some (.ret false))
    (eP v0 v1 v2 rest (i+1)))
   (eP v0 v1 v2 rest (i+1)))
  (some (.ret false))
theorem B6 (v0:List Int) (v1 v2:Int) (rest:List Int):∀ (i:Nat) ,(v0).drop i=rest→v0.length≤9223372036854775807→Ans (eP v0 v1 v2 rest i) (B7 v0 v1 v2 (i:Int)):=by
 induction rest with
 | nil =>
  intro i hE hl
  have hb:=br hE
  unfold eP
  exact KB (KD (show jq (ef v0 v1 v2 (i:Int)) (.exit 0) (mE v0) from RP [.val (.int .i64 (v0.length:Int)),.b false] (ALn v0 etI<|AC hb<|AN)) (by intro h;cases h))
 | cons hd rest ih =>
  intro i hE hl
  have hb:=bd hE
  have hw:=be hE hl
  have hE2:=aJ hE
  have hg:=ba hE
  unfold eP
  apply KE<;>intro h2
  ·apply KE<;>intro h3
   ·refine KF (fun g1 h4 => ?_)
    apply KE<;>intro h5
    ·exact KB (KD (show jq (ef v0 v1 v2 (i:Int)) .ret (i8 false) from RP [.val (.int .i64 (v0.length:Int)),.b true,.row (etI hd),rT,.b true,.row (etI g1),.row (etI hd),.b true] (ALn v0 etI<|AC hb<|AR etI hg<|AD (KJ (ah hd v1 v2) h2)<|AC h3<|AR etI h4<|AR etI hg<|AC h5<|AN)) (by intro h;cases h))
    ·exact (ih (i+1) hE2 hl).mono fun y hy=>by have r:jq (ef v0 v1 v2 (i:Int)) .normal (ef v0 v1 v2 (inc (i:Int))):=RP [.val (.int .i64 (v0.length:Int)),.b true,.row (etI hd),rT,.b true,.row (etI g1),.row (etI hd),.b false] (ALn v0 etI<|AC hb<|AR etI hg<|AD (KJ (ah hd v1 v2) h2)<|AC h3<|AR etI h4<|AR etI hg<|AC h5<|AN);rw [hw] at r;cases y<;>exact KC r hy
   ·exact (ih (i+1) hE2 hl).mono fun y hy=>by have r:jq (ef v0 v1 v2 (i:Int)) .normal (ef v0 v1 v2 (inc (i:Int))):=RP [.val (.int .i64 (v0.length:Int)),.b true,.row (etI hd),rT,.b false] (ALn v0 etI<|AC hb<|AR etI hg<|AD (KJ (ah hd v1 v2) h2)<|AC h3<|AN);rw [hw] at r;cases y<;>exact KC r hy
  ·exact KB (KD (show jq (ef v0 v1 v2 (i:Int)) .ret (i8 false) from RP [.val (.int .i64 (v0.length:Int)),.b true,.row (etI hd),rF] (ALn v0 etI<|AC hb<|AR etI hg<|AD (KJ (ah hd v1 v2) h2)<|AN)) (by intro h;cases h))
noncomputable def pV (x0:List Int) (x1 x2:Int):Option (Bool) :=
  if x0.length≤9223372036854775807 then (eP x0 x1 x2 x0 0).bind fun y=>match y with
   | .ret w0_6=>(some (w0_6))
   | .x0=>(some (decide ((x0.length:Int)>(0:Int)))) else none
theorem Dr (x0:List Int) (x1 x2:Int):Ans (pV x0 x1 x2) (fun r=>Does E 88 [.one (.s .far () 1 (x0.map etI)),.one (tI x1),.one (tI x2)] [(false,[tB r])]):=by
 unfold pV
 refine KG (fun hl1 => ?_)
 refine KF (fun y hy => ?_)
 replace hy:=B6 x0 x1 x2 x0 0 rfl hl1 y hy
 cases y with
 | ret w0_6 =>
  have h0:=hy
  exact KB (DP Tryz.f88 [.lp .ret (i8 w0_6)] (AL h0<|AN))
 | x0 =>
  have h0:=hy
  exact KB (DP Tryz.f88 [.lp (.exit 0) (mE x0),.val (.int .i64 (x0.length:Int))] (AL h0<|ALn x0 etI<|AN))
def iD (a b:Int):List Int→Option Int→Bool
 | [],_=>true
 | x::l,p=>ag x a b&&(match p with | some y=>decide (y<x) | none=>true)&&iD a b l (some x)
def aU (l:List Int) (a b:Int):Bool:=iD a b l none&&decide ((l.length:Int)>0)
theorem DX {aG rest:List Int} {x:Int} {i:Nat} (h:aG.drop i=x::rest):i=0∨∃ y,aG[i-1]?=some y:=by
 cases i with
 | zero=>exact .inl rfl
 | succ i =>
  right
  have:i<aG.length:=by
   rcases Nat.lt_or_ge i aG.length with g | g
   ·exact g
   ·rw [List.drop_eq_nil_of_le (by omega)] at h;cases h
  exact ⟨aG[i],by simp [this]⟩
def gp (aG:List Int) (i:Nat):Option Int:=if i=0 then none else aG[i-1]?
theorem yP {aG rest:List Int} {x:Int} {i:Nat} (h:aG.drop i=x::rest):gp aG (i+1)=some x:=by
 unfold gp
 rw [if_neg (by omega)]
 show aG[i]?=some x
 rw [← List.head?_drop,h];rfl
theorem GA (aG:List Int) (a b:Int) (hl:aG.length≤1050000):∀ (rest:List Int) (i:Nat),aG.drop i=rest→eP aG a b rest i=some (if iD a b rest (gp aG i)=true then .x0 else .ret false)
 | [],i,_=>rfl
 | x::rest,i,h=>by
  have ih:=GA aG a b hl rest (i+1) (aJ h)
  rw [yP h] at ih
  have hi:i<aG.length:=by
   rcases Nat.lt_or_ge i aG.length with g | g
   ·exact g
   ·rw [List.drop_eq_nil_of_le g] at h;cases h
  unfold eP iD
  rw [ih]
  cases ag x a b with
  | false=>rfl
  | true =>
   rw [cond_true,Bool.true_and]
   rcases DX h with rfl | ⟨y,hy⟩
   ·simp [gp]
   ·by_cases z:i=0
    ·subst z;simp [gp]
    ·have hp:gp aG i=some y:=by unfold gp;rw [if_neg z,hy]
     have hg:aq aG (IntKind.wrap .i64 ((i:Int)-1))=some y:=by
      rw [di _ (by omega) (by omega)]
      have e:((i:Int)-1)=((i-1:Nat):Int):=by omega
      rw [e,ex,hy]
     rw [hp,hg,decide_eq_true (by omega:(i:Int)>0),cond_true,Option.bind_some]
     simp only
     by_cases c:y≥x
     ·have yx:¬ y<x:=by omega
      rw [decide_eq_true c,cond_true];simp [yx]
     ·have yx:y<x:=by omega
      rw [decide_eq_false c,cond_false];simp [yx]
theorem b9 (x0:List Int) (x1:Int) (x2:Int) (h:x0.length≤1050000):Does E 88 [.one (.s .far () 1 (x0.map etI)),.one (tI x1),.one (tI x2)] [(false,[tB (aU x0 x1 x2)])]:=by
 exact Dr x0 x1 x2 _ (by
  unfold pV
  rw [if_pos (by omega),GA x0 x1 x2 h x0 0 rfl]
  unfold aU gp
  rw [if_pos rfl]
  cases iD x1 x2 x0 none<;>rfl)
noncomputable def rE (x0:GCron):Option (Bool) :=
  if x0.f0.length≤1050000 then cond (aU x0.f0 (0:Int) (59:Int))
   (if x0.f1.length≤1050000 then cond (aU x0.f1 (0:Int) (23:Int))
    (if x0.f2.length≤1050000 then cond (aU x0.f2 (1:Int) (31:Int))
     (if x0.f3.length≤1050000 then cond (aU x0.f3 (1:Int) (12:Int))
      (if x0.f4.length≤1050000 then some (aU x0.f4 (0:Int) (6:Int)) else none)
      (some (false)) else none)
     (some (false)) else none)
    (some (false)) else none)
   (some (false)) else none
theorem Fn (x0:GCron):Ans (rE x0) (fun r=>Does E 68 [.agg (GCron.t .far x0)] [(false,[tB r])]):=by
 unfold rE
 refine KG (fun h0 => ?_)
 apply KE<;>intro h1
 ·refine KG (fun h2 => ?_)
  apply KE<;>intro h3
  ·refine KG (fun h4 => ?_)
   apply KE<;>intro h5
   ·refine KG (fun h6 => ?_)
    apply KE<;>intro h7
    ·refine KG (fun h8 => ?_)
     exact KB (DP Tryz.f68 [rT,rT,rT,rT,.ret [(false,[tB (aU x0.f4 (0:Int) (6:Int))])]] (AD (KJ (b9 x0.f0 (0:Int) (59:Int) h0) h1)<|AD (KJ (b9 x0.f1 (0:Int) (23:Int) h2) h3)<|AD (KJ (b9 x0.f2 (1:Int) (31:Int) h4) h5)<|AD (KJ (b9 x0.f3 (1:Int) (12:Int) h6) h7)<|AD (b9 x0.f4 (0:Int) (6:Int) h8)<|AN))
    ·exact KB (DP Tryz.f68 [rT,rT,rT,rF] (AD (KJ (b9 x0.f0 (0:Int) (59:Int) h0) h1)<|AD (KJ (b9 x0.f1 (0:Int) (23:Int) h2) h3)<|AD (KJ (b9 x0.f2 (1:Int) (31:Int) h4) h5)<|AD (KJ (b9 x0.f3 (1:Int) (12:Int) h6) h7)<|AN))
   ·exact KB (DP Tryz.f68 [rT,rT,rF] (AD (KJ (b9 x0.f0 (0:Int) (59:Int) h0) h1)<|AD (KJ (b9 x0.f1 (0:Int) (23:Int) h2) h3)<|AD (KJ (b9 x0.f2 (1:Int) (31:Int) h4) h5)<|AN))
  ·exact KB (DP Tryz.f68 [rT,rF] (AD (KJ (b9 x0.f0 (0:Int) (59:Int) h0) h1)<|AD (KJ (b9 x0.f1 (0:Int) (23:Int) h2) h3)<|AN))
 ·exact KB (DP Tryz.f68 [rF] (AD (KJ (b9 x0.f0 (0:Int) (59:Int) h0) h1)<|AN))
def gd (c:GCron):Bool:=aU c.f0 0 59&&(aU c.f1 0 23&&(aU c.f2 1 31&&(aU c.f3 1 12&&aU c.f4 0 6)))
theorem vO (x0:GCron) (h:ak.sm x0):Does E 68 [.agg (GCron.t .far x0)] [(false,[tB (gd x0)])]:=by
 exact Fn x0 _ (by
  have h0:=h.1.1
  have h1:=h.2.1.1
  have h2:=h.2.2.1.1
  have h3:=h.2.2.2.1.1
  have h4:=h.2.2.2.2.1
  unfold rE gd
  simp only [h0,h1,h2,h3,h4,if_true]
  cases aU x0.f0 0 59<;>cases aU x0.f1 0 23<;>cases aU x0.f2 1 31<;>cases aU x0.f3 1 12<;>rfl)
inductive uI where
 | ret (v2:Bool)
 | x2 
def eC (v1_0 v1_1 v1_2 v1_3 v1_4:List Int) (v5 v6:Int) (v7:List Int) (v11:Int) (v23:List Int) (v24 v25:Int):US:=stL 53 [(1,.box () [.s .far () 1 (v1_0.map etI),.s .far () 1 (v1_1.map etI),.s .far () 1 (v1_2.map etI),.s .far () 1 (v1_3.map etI),.s .far () 1 (v1_4.map etI)]),(5,.one (tI v5)),(6,.one (tI v6)),(7,.one (.s .far () 1 (v7.map etI))),(10,.clo (.arr [0,1,2,3,4]) [1,1,1,1,1]),(11,.one (tI v11)),(23,.one (.s .far () 1 (v23.map etI))),(24,.one (tI v24)),(25,.one (tI v25))]
def dN (zv2:Bool):US:=stL 53 [(2,.one (tB zv2))]
def cp (v1_0 v1_1 v1_2 v1_3 v1_4 v7:List Int) (v11:Int):US:=stL 53 [(1,.box () [.s .far () 1 (v1_0.map etI),.s .far () 1 (v1_1.map etI),.s .far () 1 (v1_2.map etI),.s .far () 1 (v1_3.map etI),.s .far () 1 (v1_4.map etI)]),(7,.one (.s .far () 1 (v7.map etI))),(10,.clo (.arr [0,1,2,3,4]) [1,1,1,1,1]),(11,.one (tI v11))]
abbrev kh:US→Exit→US→Prop:=Round E 93 (az Tryz.f93 1)
def CZ (v1_0 v1_1 v1_2 v1_3 v1_4:List Int) (v5 v6:Int) (v7:List Int) (v11:Int) (v23:List Int) (v24 v25:Int):uI→Prop
 | .ret zv2=>Loops E 93 (az Tryz.f93 1) (eC v1_0 v1_1 v1_2 v1_3 v1_4 v5 v6 v7 v11 v23 v24 v25) .ret (dN zv2)
 | .x2=>Loops E 93 (az Tryz.f93 1) (eC v1_0 v1_1 v1_2 v1_3 v1_4 v5 v6 v7 v11 v23 v24 v25) (.exit 2) (cp v1_0 v1_1 v1_2 v1_3 v1_4 v7 v11)
noncomputable def cJ (v5 v6:Int) (v7:List Int):List Int→Nat→Option uI
 | [],i=>some (.x2)
 | hd::rest,i=>cond (ag hd v5 v6)
  (cond (decide ((i:Int)>(0:Int)))
   ((aq v7 (IntKind.wrap .i64 ((i:Int)-(1:Int)))).bind fun g1=>cond (decide (hd≤g1))
    (some (.ret false))
    (cJ v5 v6 v7 rest (i+1)))
   (cJ v5 v6 v7 rest (i+1)))
  (some (.ret false))
theorem ki (v1_0 v1_1 v1_2 v1_3 v1_4:List Int) (v5 v6:Int) (v7:List Int) (v11:Int) (v23:List Int) (rest:List Int):∀ (i:Nat) ,(v23).drop i=rest→v23.length≤9223372036854775807→Ans (cJ v5 v6 v7 rest i) (CZ v1_0 v1_1 v1_2 v1_3 v1_4 v5 v6 v7 v11 v23 (v23.length:Int) (i:Int)):=by
 induction rest with
 | nil =>
  intro i hE hl
  have hb:=br hE
  unfold cJ
  exact KB (KD (show kh (eC v1_0 v1_1 v1_2 v1_3 v1_4 v5 v6 v7 v11 v23 (v23.length:Int) (i:Int)) (.exit 2) (cp v1_0 v1_1 v1_2 v1_3 v1_4 v7 v11) from RP [.b false] (AC hb<|AN)) (by intro h;cases h))
 | cons hd rest ih =>
  intro i hE hl
  have hb:=bd hE
  have hw:=be hE hl
  have hE2:=aJ hE
  have hg:=ba hE
  unfold cJ
  apply KE<;>intro h2
  ·apply KE<;>intro h3
   ·refine KF (fun g1 h4 => ?_)
    apply KE<;>intro h5
    ·exact KB (KD (show kh (eC v1_0 v1_1 v1_2 v1_3 v1_4 v5 v6 v7 v11 v23 (v23.length:Int) (i:Int)) .ret (dN false) from RP [.b true,.row (etI hd),rT,.b true,.row (etI g1),.b true] (AC hb<|AR etI hg<|AD (KJ (ax hd v5 v6) h2)<|AC h3<|AR etI h4<|AC h5<|AN)) (by intro h;cases h))
    ·exact (ih (i+1) hE2 hl).mono fun y hy=>by have r:kh (eC v1_0 v1_1 v1_2 v1_3 v1_4 v5 v6 v7 v11 v23 (v23.length:Int) (i:Int)) .normal (eC v1_0 v1_1 v1_2 v1_3 v1_4 v5 v6 v7 v11 v23 (v23.length:Int) (inc (i:Int))):=RP [.b true,.row (etI hd),rT,.b true,.row (etI g1),.b false] (AC hb<|AR etI hg<|AD (KJ (ax hd v5 v6) h2)<|AC h3<|AR etI h4<|AC h5<|AN);rw [hw] at r;cases y<;>exact KC r hy
   ·exact (ih (i+1) hE2 hl).mono fun y hy=>by have r:kh (eC v1_0 v1_1 v1_2 v1_3 v1_4 v5 v6 v7 v11 v23 (v23.length:Int) (i:Int)) .normal (eC v1_0 v1_1 v1_2 v1_3 v1_4 v5 v6 v7 v11 v23 (v23.length:Int) (inc (i:Int))):=RP [.b true,.row (etI hd),rT,.b false] (AC hb<|AR etI hg<|AD (KJ (ax hd v5 v6) h2)<|AC h3<|AN);rw [hw] at r;cases y<;>exact KC r hy
  ·exact KB (KD (show kh (eC v1_0 v1_1 v1_2 v1_3 v1_4 v5 v6 v7 v11 v23 (v23.length:Int) (i:Int)) .ret (dN false) from RP [.b true,.row (etI hd),rF] (AC hb<|AR etI hg<|AD (KJ (ax hd v5 v6) h2)<|AN)) (by intro h;cases h))
inductive pI where
 | ret (v2:Bool)
 | x0 
def bm (v1_0 v1_1 v1_2 v1_3 v1_4:List Int) (v11:Int):US:=stL 53 [(1,.box () [.s .far () 1 (v1_0.map etI),.s .far () 1 (v1_1.map etI),.s .far () 1 (v1_2.map etI),.s .far () 1 (v1_3.map etI),.s .far () 1 (v1_4.map etI)]),(10,.clo (.arr [0,1,2,3,4]) [1,1,1,1,1]),(11,.one (tI v11))]
def bY (zv2:Bool):US:=stL 53 [(2,.one (tB zv2))]
def nf  : US:=stL 53 []
abbrev bW:US→Exit→US→Prop:=Round E 93 (az Tryz.f93 0)
def CY (v1_0 v1_1 v1_2 v1_3 v1_4:List Int) (v11:Int):pI→Prop
 | .ret zv2=>Loops E 93 (az Tryz.f93 0) (bm v1_0 v1_1 v1_2 v1_3 v1_4 v11) .ret (bY zv2)
 | .x0=>Loops E 93 (az Tryz.f93 0) (bm v1_0 v1_1 v1_2 v1_3 v1_4 v11) (.exit 0) (nf)
noncomputable def bv (v1_0 v1_1 v1_2 v1_3 v1_4:List Int):Nat→Int→Option pI
 | 0,_=>none
 | n+1,v11=>cond (decide (v11<(5:Int)))
  (cond (v11==(0:Int))
   (if v1_0.length≤9223372036854775807 then (cJ ((aE v11).1) ((aE v11).2) v1_0 v1_0 0).bind fun y=>match y with
    | .ret w0_2=>(some (.ret w0_2))
    | .x2=>(cond ((v1_0.length:Int)==(0:Int))
     (some (.ret false))
     (bv v1_0 v1_1 v1_2 v1_3 v1_4 n (inc v11))) else none)
   (cond (v11==(1:Int))
    (if v1_1.length≤9223372036854775807 then (cJ ((aE v11).1) ((aE v11).2) v1_1 v1_1 0).bind fun y=>match y with
     | .ret w0_2=>(some (.ret w0_2))
     | .x2=>(cond ((v1_1.length:Int)==(0:Int))
      (some (.ret false))
      (bv v1_0 v1_1 v1_2 v1_3 v1_4 n (inc v11))) else none)
    (cond (v11==(2:Int))
     (if v1_2.length≤9223372036854775807 then (cJ ((aE v11).1) ((aE v11).2) v1_2 v1_2 0).bind fun y=>match y with
      | .ret w0_2=>(some (.ret w0_2))
      | .x2=>(cond ((v1_2.length:Int)==(0:Int))
       (some (.ret false))
       (bv v1_0 v1_1 v1_2 v1_3 v1_4 n (inc v11))) else none)
     (cond (v11==(3:Int))
      (if v1_3.length≤9223372036854775807 then (cJ ((aE v11).1) ((aE v11).2) v1_3 v1_3 0).bind fun y=>match y with
       | .ret w0_2=>(some (.ret w0_2))
       | .x2=>(cond ((v1_3.length:Int)==(0:Int))
        (some (.ret false))
        (bv v1_0 v1_1 v1_2 v1_3 v1_4 n (inc v11))) else none)
      (if v11=(4:Int) then if v1_4.length≤9223372036854775807 then (cJ ((aE v11).1) ((aE v11).2) v1_4 v1_4 0).bind fun y=>match y with
       | .ret w0_2=>(some (.ret w0_2))
       | .x2=>(cond ((v1_4.length:Int)==(0:Int))
        (some (.ret false))
        (bv v1_0 v1_1 v1_2 v1_3 v1_4 n (inc v11))) else none else none)))))
  (some (.x0))
theorem CX (v1_0 v1_1 v1_2 v1_3 v1_4:List Int) (n:Nat):∀ (v11:Int),Ans (bv v1_0 v1_1 v1_2 v1_3 v1_4 n v11) (CY v1_0 v1_1 v1_2 v1_3 v1_4 v11):=by
 induction n with
 | zero=>intros;exact Ans.none
 | succ n ih =>
  intro v11
  unfold bv
  apply KE<;>intro h0
  ·apply KE<;>intro h1
   ·refine KG (fun hl4 => ?_)
    refine KF (fun y hy => ?_)
    replace hy:=ki v1_0 v1_1 v1_2 v1_3 v1_4 ((aE v11).1) ((aE v11).2) v1_0 v11 v1_0 v1_0 0 rfl hl4 y hy
    cases y with
    | ret w0_2 =>
     have h2:=hy
     exact KB (KD (show bW (bm v1_0 v1_1 v1_2 v1_3 v1_4 v11) .ret (bY w0_2) from RP [.b true,.val (.int .i64 0),.ret [(false,[tI ((aE v11).1)]),(false,[tI ((aE v11).2)])],.val (.int .i64 (v1_0.length:Int)),.lp .ret (dN w0_2)] (AC h0<|AC (p:=v11=(0:Int)) (eq_of_beq h1)<|AD (bS v11)<|ALn v1_0 etI<|AL h2<|AN)) (by intro h;cases h))
    | x2 =>
     have h2:=hy
     apply KE<;>intro h3
     ·exact KB (KD (show bW (bm v1_0 v1_1 v1_2 v1_3 v1_4 v11) .ret (bY false) from RP [.b true,.val (.int .i64 0),.ret [(false,[tI ((aE v11).1)]),(false,[tI ((aE v11).2)])],.val (.int .i64 (v1_0.length:Int)),.lp (.exit 2) (cp v1_0 v1_1 v1_2 v1_3 v1_4 v1_0 v11),.val (.int .i64 (v1_0.length:Int)),.b true] (AC h0<|AC (p:=v11=(0:Int)) (eq_of_beq h1)<|AD (bS v11)<|ALn v1_0 etI<|AL h2<|ALn v1_0 etI<|AC h3<|AN)) (by intro h;cases h))
     ·have r:bW (bm v1_0 v1_1 v1_2 v1_3 v1_4 v11) .normal (bm v1_0 v1_1 v1_2 v1_3 v1_4 (inc v11)):=RP [.b true,.val (.int .i64 0),.ret [(false,[tI ((aE v11).1)]),(false,[tI ((aE v11).2)])],.val (.int .i64 (v1_0.length:Int)),.lp (.exit 2) (cp v1_0 v1_1 v1_2 v1_3 v1_4 v1_0 v11),.val (.int .i64 (v1_0.length:Int)),.b false] (AC h0<|AC (p:=v11=(0:Int)) (eq_of_beq h1)<|AD (bS v11)<|ALn v1_0 etI<|AL h2<|ALn v1_0 etI<|AC h3<|AN);exact (ih (inc v11)).mono fun y hy=>by cases y<;>exact KC r hy
   ·apply KE<;>intro h2
    ·refine KG (fun hl5 => ?_)
     refine KF (fun y hy => ?_)
     replace hy:=ki v1_0 v1_1 v1_2 v1_3 v1_4 ((aE v11).1) ((aE v11).2) v1_1 v11 v1_1 v1_1 0 rfl hl5 y hy
     cases y with
     | ret w0_2 =>
      have h3:=hy
      exact KB (KD (show bW (bm v1_0 v1_1 v1_2 v1_3 v1_4 v11) .ret (bY w0_2) from RP [.b true,.val (.int .i64 1),.ret [(false,[tI ((aE v11).1)]),(false,[tI ((aE v11).2)])],.val (.int .i64 (v1_1.length:Int)),.lp .ret (dN w0_2)] (AC h0<|AC (p:=v11=(1:Int)) (eq_of_beq h2)<|AD (bS v11)<|ALn v1_1 etI<|AL h3<|AN)) (by intro h;cases h))
     | x2 =>
      have h3:=hy
      apply KE<;>intro h4
      ·exact KB (KD (show bW (bm v1_0 v1_1 v1_2 v1_3 v1_4 v11) .ret (bY false) from RP [.b true,.val (.int .i64 1),.ret [(false,[tI ((aE v11).1)]),(false,[tI ((aE v11).2)])],.val (.int .i64 (v1_1.length:Int)),.lp (.exit 2) (cp v1_0 v1_1 v1_2 v1_3 v1_4 v1_1 v11),.val (.int .i64 (v1_1.length:Int)),.b true] (AC h0<|AC (p:=v11=(1:Int)) (eq_of_beq h2)<|AD (bS v11)<|ALn v1_1 etI<|AL h3<|ALn v1_1 etI<|AC h4<|AN)) (by intro h;cases h))
      ·have r:bW (bm v1_0 v1_1 v1_2 v1_3 v1_4 v11) .normal (bm v1_0 v1_1 v1_2 v1_3 v1_4 (inc v11)):=RP [.b true,.val (.int .i64 1),.ret [(false,[tI ((aE v11).1)]),(false,[tI ((aE v11).2)])],.val (.int .i64 (v1_1.length:Int)),.lp (.exit 2) (cp v1_0 v1_1 v1_2 v1_3 v1_4 v1_1 v11),.val (.int .i64 (v1_1.length:Int)),.b false] (AC h0<|AC (p:=v11=(1:Int)) (eq_of_beq h2)<|AD (bS v11)<|ALn v1_1 etI<|AL h3<|ALn v1_1 etI<|AC h4<|AN);exact (ih (inc v11)).mono fun y hy=>by cases y<;>exact KC r hy
    ·apply KE<;>intro h3
     ·refine KG (fun hl6 => ?_)
      refine KF (fun y hy => ?_)
      replace hy:=ki v1_0 v1_1 v1_2 v1_3 v1_4 ((aE v11).1) ((aE v11).2) v1_2 v11 v1_2 v1_2 0 rfl hl6 y hy
      cases y with
      | ret w0_2 =>
       have h4:=hy
       exact KB (KD (show bW (bm v1_0 v1_1 v1_2 v1_3 v1_4 v11) .ret (bY w0_2) from RP [.b true,.val (.int .i64 2),.ret [(false,[tI ((aE v11).1)]),(false,[tI ((aE v11).2)])],.val (.int .i64 (v1_2.length:Int)),.lp .ret (dN w0_2)] (AC h0<|AC (p:=v11=(2:Int)) (eq_of_beq h3)<|AD (bS v11)<|ALn v1_2 etI<|AL h4<|AN)) (by intro h;cases h))
      | x2 =>
       have h4:=hy
       apply KE<;>intro h5
       ·exact KB (KD (show bW (bm v1_0 v1_1 v1_2 v1_3 v1_4 v11) .ret (bY false) from RP [.b true,.val (.int .i64 2),.ret [(false,[tI ((aE v11).1)]),(false,[tI ((aE v11).2)])],.val (.int .i64 (v1_2.length:Int)),.lp (.exit 2) (cp v1_0 v1_1 v1_2 v1_3 v1_4 v1_2 v11),.val (.int .i64 (v1_2.length:Int)),.b true] (AC h0<|AC (p:=v11=(2:Int)) (eq_of_beq h3)<|AD (bS v11)<|ALn v1_2 etI<|AL h4<|ALn v1_2 etI<|AC h5<|AN)) (by intro h;cases h))
       ·have r:bW (bm v1_0 v1_1 v1_2 v1_3 v1_4 v11) .normal (bm v1_0 v1_1 v1_2 v1_3 v1_4 (inc v11)):=RP [.b true,.val (.int .i64 2),.ret [(false,[tI ((aE v11).1)]),(false,[tI ((aE v11).2)])],.val (.int .i64 (v1_2.length:Int)),.lp (.exit 2) (cp v1_0 v1_1 v1_2 v1_3 v1_4 v1_2 v11),.val (.int .i64 (v1_2.length:Int)),.b false] (AC h0<|AC (p:=v11=(2:Int)) (eq_of_beq h3)<|AD (bS v11)<|ALn v1_2 etI<|AL h4<|ALn v1_2 etI<|AC h5<|AN);exact (ih (inc v11)).mono fun y hy=>by cases y<;>exact KC r hy
     ·apply KE<;>intro h4
      ·refine KG (fun hl7 => ?_)
       refine KF (fun y hy => ?_)
       replace hy:=ki v1_0 v1_1 v1_2 v1_3 v1_4 ((aE v11).1) ((aE v11).2) v1_3 v11 v1_3 v1_3 0 rfl hl7 y hy
       cases y with
       | ret w0_2 =>
        have h5:=hy
        exact KB (KD (show bW (bm v1_0 v1_1 v1_2 v1_3 v1_4 v11) .ret (bY w0_2) from RP [.b true,.val (.int .i64 3),.ret [(false,[tI ((aE v11).1)]),(false,[tI ((aE v11).2)])],.val (.int .i64 (v1_3.length:Int)),.lp .ret (dN w0_2)] (AC h0<|AC (p:=v11=(3:Int)) (eq_of_beq h4)<|AD (bS v11)<|ALn v1_3 etI<|AL h5<|AN)) (by intro h;cases h))
       | x2 =>
        have h5:=hy
        apply KE<;>intro h6
        ·exact KB (KD (show bW (bm v1_0 v1_1 v1_2 v1_3 v1_4 v11) .ret (bY false) from RP [.b true,.val (.int .i64 3),.ret [(false,[tI ((aE v11).1)]),(false,[tI ((aE v11).2)])],.val (.int .i64 (v1_3.length:Int)),.lp (.exit 2) (cp v1_0 v1_1 v1_2 v1_3 v1_4 v1_3 v11),.val (.int .i64 (v1_3.length:Int)),.b true] (AC h0<|AC (p:=v11=(3:Int)) (eq_of_beq h4)<|AD (bS v11)<|ALn v1_3 etI<|AL h5<|ALn v1_3 etI<|AC h6<|AN)) (by intro h;cases h))
        ·have r:bW (bm v1_0 v1_1 v1_2 v1_3 v1_4 v11) .normal (bm v1_0 v1_1 v1_2 v1_3 v1_4 (inc v11)):=RP [.b true,.val (.int .i64 3),.ret [(false,[tI ((aE v11).1)]),(false,[tI ((aE v11).2)])],.val (.int .i64 (v1_3.length:Int)),.lp (.exit 2) (cp v1_0 v1_1 v1_2 v1_3 v1_4 v1_3 v11),.val (.int .i64 (v1_3.length:Int)),.b false] (AC h0<|AC (p:=v11=(3:Int)) (eq_of_beq h4)<|AD (bS v11)<|ALn v1_3 etI<|AL h5<|ALn v1_3 etI<|AC h6<|AN);exact (ih (inc v11)).mono fun y hy=>by cases y<;>exact KC r hy
      ·refine KG (fun h5 => ?_)
       refine KG (fun hl7 => ?_)
       refine KF (fun y hy => ?_)
       replace hy:=ki v1_0 v1_1 v1_2 v1_3 v1_4 ((aE v11).1) ((aE v11).2) v1_4 v11 v1_4 v1_4 0 rfl hl7 y hy
       cases y with
       | ret w0_2 =>
        have h6:=hy
        exact KB (KD (show bW (bm v1_0 v1_1 v1_2 v1_3 v1_4 v11) .ret (bY w0_2) from RP [.b true,.val (.int .i64 4),.ret [(false,[tI ((aE v11).1)]),(false,[tI ((aE v11).2)])],.val (.int .i64 (v1_4.length:Int)),.lp .ret (dN w0_2)] (AC h0<|AC h5<|AD (bS v11)<|ALn v1_4 etI<|AL h6<|AN)) (by intro h;cases h))
       | x2 =>
        have h6:=hy
        apply KE<;>intro h7
        ·exact KB (KD (show bW (bm v1_0 v1_1 v1_2 v1_3 v1_4 v11) .ret (bY false) from RP [.b true,.val (.int .i64 4),.ret [(false,[tI ((aE v11).1)]),(false,[tI ((aE v11).2)])],.val (.int .i64 (v1_4.length:Int)),.lp (.exit 2) (cp v1_0 v1_1 v1_2 v1_3 v1_4 v1_4 v11),.val (.int .i64 (v1_4.length:Int)),.b true] (AC h0<|AC h5<|AD (bS v11)<|ALn v1_4 etI<|AL h6<|ALn v1_4 etI<|AC h7<|AN)) (by intro h;cases h))
        ·have r:bW (bm v1_0 v1_1 v1_2 v1_3 v1_4 v11) .normal (bm v1_0 v1_1 v1_2 v1_3 v1_4 (inc v11)):=RP [.b true,.val (.int .i64 4),.ret [(false,[tI ((aE v11).1)]),(false,[tI ((aE v11).2)])],.val (.int .i64 (v1_4.length:Int)),.lp (.exit 2) (cp v1_0 v1_1 v1_2 v1_3 v1_4 v1_4 v11),.val (.int .i64 (v1_4.length:Int)),.b false] (AC h0<|AC h5<|AD (bS v11)<|ALn v1_4 etI<|AL h6<|ALn v1_4 etI<|AC h7<|AN);exact (ih (inc v11)).mono fun y hy=>by cases y<;>exact KC r hy
  ·exact KB (KD (show bW (bm v1_0 v1_1 v1_2 v1_3 v1_4 v11) (.exit 0) (nf) from RP [.b false] (AC h0<|AN)) (by intro h;cases h))
noncomputable def nK (x0:GCron):Option (Bool) :=
  (bv x0.f0 x0.f1 x0.f2 x0.f3 x0.f4 9223372036854775808 (0:Int)).bind fun y=>match y with
   | .ret w0_2=>(some (w0_2))
   | .x0=>(some (true))
theorem EU (x0:GCron):Ans (nK x0) (fun r=>Does E 93 [.agg (GCron.t .far x0)] [(false,[tB r])]):=by
 unfold nK
 refine KF (fun y hy => ?_)
 replace hy:=CX x0.f0 x0.f1 x0.f2 x0.f3 x0.f4 9223372036854775808 (0:Int) y hy
 cases y with
 | ret w0_2 =>
  have h0:=hy
  exact KB (DP Tryz.f93 [.lp .ret (bY w0_2)] (AL h0<|AN))
 | x0 =>
  have h0:=hy
  exact KB (DP Tryz.f93 [.lp (.exit 0) (nf)] (AL h0<|AN))
theorem FQ (aG:List Int) (a b:Int) (hl:aG.length≤1050000):∀ (rest:List Int) (i:Nat),aG.drop i=rest→cJ a b aG rest i=some (if iD a b rest (gp aG i)=true then .x2 else .ret false)
 | [],i,_=>rfl
 | x::rest,i,h=>by
  have ih:=FQ aG a b hl rest (i+1) (aJ h)
  rw [yP h] at ih
  have hi:i<aG.length:=by
   rcases Nat.lt_or_ge i aG.length with g | g
   ·exact g
   ·rw [List.drop_eq_nil_of_le g] at h;cases h
  unfold cJ iD
  rw [ih]
  cases ag x a b with
  | false=>rfl
  | true =>
   rw [cond_true,Bool.true_and]
   rcases DX h with rfl | ⟨y,hy⟩
   ·simp [gp]
   ·by_cases z:i=0
    ·subst z;simp [gp]
    ·have hp:gp aG i=some y:=by unfold gp;rw [if_neg z,hy]
     have hg:aq aG (IntKind.wrap .i64 ((i:Int)-1))=some y:=by
      rw [di _ (by omega) (by omega)]
      have e:((i:Int)-1)=((i-1:Nat):Int):=by omega
      rw [e,ex,hy]
     rw [hp,hg,decide_eq_true (by omega:(i:Int)>0),cond_true,Option.bind_some]
     simp only
     by_cases c:y≥x
     ·have yx:¬ y<x:=by omega
      rw [decide_eq_true (show x≤y from c),cond_true];simp [yx]
     ·have yx:y<x:=by omega
      rw [decide_eq_false (show ¬ x≤y from c),cond_false];simp [yx]
theorem lB (l:List Int) (a b:Int) (hl:l.length≤1050000) (K:Option pI) :
  ((cJ a b l l 0).bind fun y=>match y with
    | .ret w=>some (.ret w)
    | .x2=>cond ((l.length:Int)==(0:Int)) (some (.ret false)) K)=(cond (aU l a b) K (some (.ret false))):=by
 rw [FQ l a b hl l 0 rfl]
 unfold aU gp
 rw [if_pos rfl]
 cases iD a b l none with
 | false=>rfl
 | true =>
  simp only [if_true,Option.bind_some,Bool.true_and]
  cases l with
  | nil=>rfl
  | cons x l =>
   rw [show (((x::l).length:Int)==(0:Int))=false from beq_eq_false_iff_ne.2 (by simp<;>omega),decide_eq_true (by simp<;>omega)]
   rfl
theorem Hp (c:GCron) (h:ak.sm c):nK c=some (gd c):=by
 have h0:=h.1.1
 have h1:=h.2.1.1
 have h2:=h.2.2.1.1
 have h3:=h.2.2.2.1.1
 have h4:=h.2.2.2.2.1
 unfold nK
 have e0:∀ n,bv c.f0 c.f1 c.f2 c.f3 c.f4 (n+6) 0=some (if gd c=true then .x0 else .ret false):=by
  intro n
  have s5:bv c.f0 c.f1 c.f2 c.f3 c.f4 (n+1) (inc (inc (inc (inc (inc 0)))))=some .x0:=rfl
  have s4:bv c.f0 c.f1 c.f2 c.f3 c.f4 (n+2) (inc (inc (inc (inc 0))))=cond (aU c.f4 0 6) (some .x0) (some (.ret false)):=by
   rw [← lB c.f4 0 6 h4, ← s5]
   conv=>lhs;unfold bv
   show (if inc (inc (inc (inc 0)))=4 then (if c.f4.length≤9223372036854775807 then _ else none) else none)=_
   rw [if_pos (by rfl),if_pos (by omega)]
   rfl
  have s3:bv c.f0 c.f1 c.f2 c.f3 c.f4 (n+3) (inc (inc (inc 0)))=cond (aU c.f3 1 12) (cond (aU c.f4 0 6) (some .x0) (some (.ret false))) (some (.ret false)):=by
   rw [← lB c.f3 1 12 h3, ← s4]
   conv=>lhs;unfold bv
   show (if c.f3.length≤9223372036854775807 then _ else none)=_
   rw [if_pos (by omega)]
   rfl
  have s2:bv c.f0 c.f1 c.f2 c.f3 c.f4 (n+4) (inc (inc 0))=cond (aU c.f2 1 31) (cond (aU c.f3 1 12) (cond (aU c.f4 0 6) (some .x0) (some (.ret false))) (some (.ret false))) (some (.ret false)):=by
   rw [← lB c.f2 1 31 h2, ← s3]
   conv=>lhs;unfold bv
   show (if c.f2.length≤9223372036854775807 then _ else none)=_
   rw [if_pos (by omega)]
   rfl
  have s1:bv c.f0 c.f1 c.f2 c.f3 c.f4 (n+5) (inc 0)=cond (aU c.f1 0 23) (cond (aU c.f2 1 31) (cond (aU c.f3 1 12) (cond (aU c.f4 0 6) (some .x0) (some (.ret false))) (some (.ret false))) (some (.ret false))) (some (.ret false)):=by
   rw [← lB c.f1 0 23 h1, ← s2]
   conv=>lhs;unfold bv
   show (if c.f1.length≤9223372036854775807 then _ else none)=_
   rw [if_pos (by omega)]
   rfl
  have s0:bv c.f0 c.f1 c.f2 c.f3 c.f4 (n+6) 0=cond (aU c.f0 0 59) (cond (aU c.f1 0 23) (cond (aU c.f2 1 31) (cond (aU c.f3 1 12) (cond (aU c.f4 0 6) (some .x0) (some (.ret false))) (some (.ret false))) (some (.ret false))) (some (.ret false))) (some (.ret false)):=by
   rw [← lB c.f0 0 59 h0, ← s1]
   conv=>lhs;unfold bv
   show (if c.f0.length≤9223372036854775807 then _ else none)=_
   rw [if_pos (by omega)]
   rfl
  rw [s0]
  unfold gd
  cases aU c.f0 0 59<;>cases aU c.f1 0 23<;>cases aU c.f2 1 31<;>cases aU c.f3 1 12<;>cases aU c.f4 0 6<;>rfl
 rw [e0 9223372036854775802]
 cases gd c<;>rfl
theorem vL (x0:GCron) (h:ak.sm x0):Does E 93 [.agg (GCron.t .far x0)] [(false,[tB (gd x0)])]:=by
 exact EU x0 _ (Hp x0 h)
noncomputable def tn (x0:List Int) (x1:Int):Option (Bool) :=
  some ((x0.length:Int)==(inc (IntKind.wrap .i64 (((aE x1).2)-((aE x1).1)))))
theorem Gj (x0:List Int) (x1:Int):Ans (tn x0 x1) (fun r=>Does E 94 [.one (.s .far () 1 (x0.map etI)),.one (tI x1)] [(false,[tB r])]):=by
 unfold tn
 exact KB (DP Tryz.f94 [.ret [(false,[tI ((aE x1).1)]),(false,[tI ((aE x1).2)])],.val (.int .i64 (x0.length:Int))] (AD (bS x1)<|ALn x0 etI<|AN))
noncomputable def lN (l:List Int) (i:Int):Bool:=(tn l i).getD false
theorem fi (x0:List Int) (x1:Int):Does E 94 [.one (.s .far () 1 (x0.map etI)),.one (tI x1)] [(false,[tB (lN x0 x1)])]:=by
 exact Gj x0 x1 _ rfl
end Go.Proofs.YtgaiiephdjllkaaGreatDoor.Am
namespace Go.Proofs.YtgaiiephdjllkaaGreatDoor.Am
open Go Go.Proofs Classical
set_option maxRecDepth 100000
set_option linter.unusedVariables false
set_option linter.unusedSimpArgs false
inductive t8 where
 | x0 (v5:ByteArray)
def gS (v0:List Int) (v5:ByteArray) (v6:Int):US:=stL 29 [(0,.one (.s .far () 1 (v0.map etI))),(5,.one (tS v5)),(6,.one (tI v6))]
def mF (zv5:ByteArray):US:=stL 29 [(5,.one (tS zv5))]
abbrev oM:US→Exit→US→Prop:=Round E 69 (az Tryz.f69 0)
def Ca (v0:List Int) (v5:ByteArray) (v6:Int):t8→Prop
 | .x0 zv5=>Loops E 69 (az Tryz.f69 0) (gS v0 v5 v6) (.exit 0) (mF zv5)
noncomputable def dD  : List Int→Nat→ByteArray→Option t8
 | [],i,v5=>some (.x0 v5)
 | hd::rest,i,v5=>cond (decide ((i:Int)>(0:Int)))
  (if v5.size+(⟨#[44]⟩:ByteArray).size≤cB then if -9223372036854775808≤hd∧hd≤9223372036854775807 then if (v5++(⟨#[44]⟩:ByteArray)).size+(bf hd).size≤cB then dD rest (i+1) ((v5++(⟨#[44]⟩:ByteArray))++(bf hd)) else none else none else none)
  (if -9223372036854775808≤hd∧hd≤9223372036854775807 then if v5.size+(bf hd).size≤cB then dD rest (i+1) (v5++(bf hd)) else none else none)
theorem B9 (v0:List Int) (rest:List Int):∀ (i:Nat) (v5:ByteArray),(v0).drop i=rest→v0.length≤9223372036854775807→Ans (dD rest i v5) (Ca v0 v5 (i:Int)):=by
 induction rest with
 | nil =>
  intro i v5 hE hl
  have hb:=br hE
  unfold dD
  exact KB (KD (show oM (gS v0 v5 (i:Int)) (.exit 0) (mF v5) from RP [.val (.int .i64 (v0.length:Int)),.b false] (ALn v0 etI<|AC hb<|AN)) (by intro h;cases h))
 | cons hd rest ih =>
  intro i v5 hE hl
  have hb:=bd hE
  have hw:=be hE hl
  have hE2:=aJ hE
  have hg:=ba hE
  unfold dD
  apply KE<;>intro h1
  ·refine KG (fun h2 => ?_)
   refine KG (fun h4 => ?_)
   refine KG (fun h5 => ?_)
   exact (ih (i+1) ((v5++(⟨#[44]⟩:ByteArray))++(bf hd)) hE2 hl).mono fun y hy=>by have r:oM (gS v0 v5 (i:Int)) .normal (gS v0 ((v5++(⟨#[44]⟩:ByteArray))++(bf hd)) (inc (i:Int))):=RP [.val (.int .i64 (v0.length:Int)),.b true,.b true,.val (.string (v5++(⟨#[44]⟩:ByteArray))),.row (etI hd),.ret [(false,[tS (bf hd)])],.val (.string ((v5++(⟨#[44]⟩:ByteArray))++(bf hd)))] (ALn v0 etI<|AC hb<|AC h1<|AC (gt (tab:=E.tab) (t:=9) h2)<|AR etI hg<|AD (mK hd h4)<|AC (gt (tab:=E.tab) (t:=9) h5)<|AN);rw [hw] at r;cases y<;>exact KC r hy
  ·refine KG (fun h3 => ?_)
   refine KG (fun h4 => ?_)
   exact (ih (i+1) (v5++(bf hd)) hE2 hl).mono fun y hy=>by have r:oM (gS v0 v5 (i:Int)) .normal (gS v0 (v5++(bf hd)) (inc (i:Int))):=RP [.val (.int .i64 (v0.length:Int)),.b true,.b false,.row (etI hd),.ret [(false,[tS (bf hd)])],.val (.string (v5++(bf hd)))] (ALn v0 etI<|AC hb<|AC h1<|AR etI hg<|AD (mK hd h3)<|AC (gt (tab:=E.tab) (t:=9) h4)<|AN);rw [hw] at r;cases y<;>exact KC r hy
noncomputable def mU (x0:List Int) (x1:Int):Option (ByteArray) :=
  cond ((x0.length:Int)==x1)
   (some ((⟨#[42]⟩:ByteArray)))
   (if x0.length≤9223372036854775807 then (dD x0 0 ByteArray.empty).bind fun y=>match y with
    | .x0 w0_5=>(some (w0_5)) else none)
theorem Ds (x0:List Int) (x1:Int):Ans (mU x0 x1) (fun r=>Does E 69 [.one (.s .far () 1 (x0.map etI)),.one (tI x1)] [(false,[tS r])]):=by
 unfold mU
 apply KE<;>intro h0
 ·exact KB (DP Tryz.f69 [.val (.int .i64 (x0.length:Int)),.b true] (ALn x0 etI<|AC h0<|AN))
 ·refine KG (fun hl2 => ?_)
  refine KF (fun y hy => ?_)
  replace hy:=B9 x0 x0 0 ByteArray.empty rfl hl2 y hy
  cases y with
  | x0 w0_5 =>
   have h1:=hy
   exact KB (DP Tryz.f69 [.val (.int .i64 (x0.length:Int)),.b false,.lp (.exit 0) (mF w0_5)] (ALn x0 etI<|AC h0<|AL h1<|AN))
def fy (c:UInt8):List (List UInt8)→List UInt8
 | []=>[]
 | x::xs=>x++(xs.map fun y=>c::y).flatten
theorem tA (c:UInt8):∀ xs:List (List UInt8),Lib.join xs [c]=fy c xs
 | []=>rfl
 | [x]=>by simp [Lib.join,List.intercalate,fy]
 | x::y::xs=>by
  have ih:=tA c (y::xs)
  unfold Lib.join List.intercalate at ih ⊢
  rw [List.intersperse_cons_cons,List.flatten_cons,List.flatten_cons,ih]
  simp [fy]
theorem rY (xs:List (List UInt8)) (c:UInt8):aT (xs.map ofTx) ⟨#[c]⟩=ofTx (fy c xs):=by
 unfold aT
 have:(xs.map ofTx).map (fun s:ByteArray=>s.data.toList)=xs:=by
  rw [List.map_map]
  conv=>rhs;rw [← List.map_id xs]
  rfl
 rw [this]
 show ofTx (Lib.join xs [c])=_
 rw [tA]
theorem ux (c:UInt8) (k:Nat):∀ xs:List (List UInt8),(∀ x∈xs,x.length≤k)→(fy c xs).length≤xs.length*(k+1)
 | [],_=>by simp [fy]
 | x::xs,h=>by
  have hx:=h x (by simp)
  have:∀ ys:List (List UInt8),(∀ y∈ys,y.length≤k)→((ys.map fun y=>c::y).flatten).length≤ys.length*(k+1):=by
   intro ys
   induction ys with
   | nil=>intro _;simp
   | cons y ys ih =>
    intro h
    have:=ih fun z hz=>h z (by simp [hz])
    have:=h y (by simp)
    simp [Nat.add_mul] at *
    omega
  have:=this xs fun y hy=>h y (by simp [hy])
  simp only [fy,List.length_append,List.length_cons,Nat.add_mul]
  omega
theorem vu {x:Int} (h:0≤x∧x≤59):(tx (bf x)).length≤2:=by
 show (Lib.itoa x).length≤2
 unfold Lib.itoa
 rw [if_neg (by omega)]
 exact qV 1 _ (by omega)
noncomputable def aD (l:List Int) (size:Int):ByteArray:=cond ((l.length:Int)==size) ⟨#[42]⟩ (ofTx (fy 44 (l.map fun x=>tx (bf x))))
theorem eR {l:List Int} (hl:l.length≤60) (h:∀ z∈l,0≤z∧z≤59) (n:Int):(aD l n).size≤200:=by
 unfold aD
 cases (l.length:Int)==n with
 | true=>exact (by decide:(⟨#[42]⟩:ByteArray).size≤200)
 | false =>
  rw [cond_false,na]
  have:=ux 44 2 (l.map fun x=>tx (bf x)) (fun y hy=>by
   obtain ⟨x,hx,rfl⟩:=List.mem_map.1 hy
   exact vu (h x hx))
  rw [List.length_map] at this
  omega
theorem GW:∀ (l:List Int) (i:Nat) (v:List UInt8),(∀ z∈l,0≤z∧z≤59)→0<i→v.length+l.length*3≤1000→dD l i (ofTx v)=some (.x0 (ofTx (v++((l.map fun x=>44::tx (bf x)).flatten))))
 | [],i,v,_,_,_=>by unfold dD;simp
 | x::l,i,v,h,hi,hl=>by
  have hx:=h x (by simp)
  have hz:=vu hx
  have e44:(⟨#[44]⟩:ByteArray)=ofTx [44]:=rfl
  simp only [List.length_cons] at hl
  unfold dD
  rw [decide_eq_true (by omega),cond_true,e44,mv, ← qw (bf x),mv]
  simp only [na,qG]
  rw [if_pos (by simp [cB];omega),if_pos (by omega),if_pos (by simp [cB];omega),GW l (i+1) _ (fun z hz=>h z (by simp [hz])) (by omega) (by simp;omega)]
  simp
theorem IJ (l:List Int) (n:Int) (hl:l.length≤60) (h:∀ z∈l,0≤z∧z≤59):mU l n=some (aD l n):=by
 unfold mU aD
 cases (l.length:Int)==n with
 | true=>rfl
 | false =>
  rw [cond_false,cond_false,if_pos (by omega)]
  cases l with
  | nil=>rfl
  | cons x l =>
   have hx:=h x (by simp)
   have hz:=vu hx
   simp only [List.length_cons] at hl
   unfold dD
   have e:ByteArray.empty++bf x=ofTx (tx (bf x)):=by
    show ofTx []++ofTx (tx (bf x))=_
    rw [mv];rfl
   have hz':(bf x).size≤2:=by rw [cM];exact hz
   have e0:ByteArray.empty.size=0:=rfl
   rw [decide_eq_false (by omega),cond_false,if_pos (by omega),if_pos (by rw [e0];unfold cB;omega),e,GW l _ _ (fun z hz=>h z (by simp [hz])) (by omega) (by omega),Option.bind_some]
   simp only [List.map_cons,fy,List.map_map]
   rfl
theorem kb (x0:List Int) (x1:Int) (h1:x0.length≤60) (h2:∀ z∈x0,0≤z∧z≤59):Does E 69 [.one (.s .far () 1 (x0.map etI)),.one (tI x1)] [(false,[tS (aD x0 x1)])]:=by
 exact Ds x0 x1 _ (IJ x0 x1 h1 h2)
noncomputable def l5 (x0:GCron):Option (ByteArray×Bool) :=
  if ak.sm x0 then cond (gd x0)
   (if x0.f0.length≤60 then if ∀ z∈x0.f0,0≤z∧z≤59 then if (aD x0.f0 (60:Int)).size+(⟨#[32]⟩:ByteArray).size≤cB then if x0.f1.length≤60 then if ∀ z∈x0.f1,0≤z∧z≤59 then if ((aD x0.f0 (60:Int))++(⟨#[32]⟩:ByteArray)).size+(aD x0.f1 (24:Int)).size≤cB then if (((aD x0.f0 (60:Int))++(⟨#[32]⟩:ByteArray))++(aD x0.f1 (24:Int))).size+(⟨#[32]⟩:ByteArray).size≤cB then if x0.f2.length≤60 then if ∀ z∈x0.f2,0≤z∧z≤59 then if ((((aD x0.f0 (60:Int))++(⟨#[32]⟩:ByteArray))++(aD x0.f1 (24:Int)))++(⟨#[32]⟩:ByteArray)).size+(aD x0.f2 (31:Int)).size≤cB then if (((((aD x0.f0 (60:Int))++(⟨#[32]⟩:ByteArray))++(aD x0.f1 (24:Int)))++(⟨#[32]⟩:ByteArray))++(aD x0.f2 (31:Int))).size+(⟨#[32]⟩:ByteArray).size≤cB then if x0.f3.length≤60 then if ∀ z∈x0.f3,0≤z∧z≤59 then if ((((((aD x0.f0 (60:Int))++(⟨#[32]⟩:ByteArray))++(aD x0.f1 (24:Int)))++(⟨#[32]⟩:ByteArray))++(aD x0.f2 (31:Int)))++(⟨#[32]⟩:ByteArray)).size+(aD x0.f3 (12:Int)).size≤cB then if (((((((aD x0.f0 (60:Int))++(⟨#[32]⟩:ByteArray))++(aD x0.f1 (24:Int)))++(⟨#[32]⟩:ByteArray))++(aD x0.f2 (31:Int)))++(⟨#[32]⟩:ByteArray))++(aD x0.f3 (12:Int))).size+(⟨#[32]⟩:ByteArray).size≤cB then if x0.f4.length≤60 then if ∀ z∈x0.f4,0≤z∧z≤59 then if ((((((((aD x0.f0 (60:Int))++(⟨#[32]⟩:ByteArray))++(aD x0.f1 (24:Int)))++(⟨#[32]⟩:ByteArray))++(aD x0.f2 (31:Int)))++(⟨#[32]⟩:ByteArray))++(aD x0.f3 (12:Int)))++(⟨#[32]⟩:ByteArray)).size+(aD x0.f4 (7:Int)).size≤cB then some (((((((((aD x0.f0 (60:Int))++(⟨#[32]⟩:ByteArray))++(aD x0.f1 (24:Int)))++(⟨#[32]⟩:ByteArray))++(aD x0.f2 (31:Int)))++(⟨#[32]⟩:ByteArray))++(aD x0.f3 (12:Int)))++(⟨#[32]⟩:ByteArray))++(aD x0.f4 (7:Int)),true) else none else none else none else none else none else none else none else none else none else none else none else none else none else none else none else none else none else none)
   (some (ByteArray.empty,false)) else none
theorem BY (x0:GCron):Ans (l5 x0) (fun r=>Does E 44 [.agg (GCron.t .far x0)] [(false,[tS r.1]),(false,[tB r.2])]):=by
 unfold l5
 refine KG (fun h0 => ?_)
 apply KE<;>intro h1
 ·refine KG (fun h2 => ?_)
  refine KG (fun h3 => ?_)
  refine KG (fun h4 => ?_)
  refine KG (fun h5 => ?_)
  refine KG (fun h6 => ?_)
  refine KG (fun h7 => ?_)
  refine KG (fun h8 => ?_)
  refine KG (fun h9 => ?_)
  refine KG (fun h10 => ?_)
  refine KG (fun h11 => ?_)
  refine KG (fun h12 => ?_)
  refine KG (fun h13 => ?_)
  refine KG (fun h14 => ?_)
  refine KG (fun h15 => ?_)
  refine KG (fun h16 => ?_)
  refine KG (fun h17 => ?_)
  refine KG (fun h18 => ?_)
  refine KG (fun h19 => ?_)
  exact KB (DP Tryz.f44 [rT,.ret [(false,[tS (aD x0.f0 (60:Int))])],.val (.string ((aD x0.f0 (60:Int))++(⟨#[32]⟩:ByteArray))),.ret [(false,[tS (aD x0.f1 (24:Int))])],.val (.string (((aD x0.f0 (60:Int))++(⟨#[32]⟩:ByteArray))++(aD x0.f1 (24:Int)))),.val (.string ((((aD x0.f0 (60:Int))++(⟨#[32]⟩:ByteArray))++(aD x0.f1 (24:Int)))++(⟨#[32]⟩:ByteArray))),.ret [(false,[tS (aD x0.f2 (31:Int))])],.val (.string (((((aD x0.f0 (60:Int))++(⟨#[32]⟩:ByteArray))++(aD x0.f1 (24:Int)))++(⟨#[32]⟩:ByteArray))++(aD x0.f2 (31:Int)))),.val (.string ((((((aD x0.f0 (60:Int))++(⟨#[32]⟩:ByteArray))++(aD x0.f1 (24:Int)))++(⟨#[32]⟩:ByteArray))++(aD x0.f2 (31:Int)))++(⟨#[32]⟩:ByteArray))),.ret [(false,[tS (aD x0.f3 (12:Int))])],.val (.string (((((((aD x0.f0 (60:Int))++(⟨#[32]⟩:ByteArray))++(aD x0.f1 (24:Int)))++(⟨#[32]⟩:ByteArray))++(aD x0.f2 (31:Int)))++(⟨#[32]⟩:ByteArray))++(aD x0.f3 (12:Int)))),.val (.string ((((((((aD x0.f0 (60:Int))++(⟨#[32]⟩:ByteArray))++(aD x0.f1 (24:Int)))++(⟨#[32]⟩:ByteArray))++(aD x0.f2 (31:Int)))++(⟨#[32]⟩:ByteArray))++(aD x0.f3 (12:Int)))++(⟨#[32]⟩:ByteArray))),.ret [(false,[tS (aD x0.f4 (7:Int))])],.val (.string (((((((((aD x0.f0 (60:Int))++(⟨#[32]⟩:ByteArray))++(aD x0.f1 (24:Int)))++(⟨#[32]⟩:ByteArray))++(aD x0.f2 (31:Int)))++(⟨#[32]⟩:ByteArray))++(aD x0.f3 (12:Int)))++(⟨#[32]⟩:ByteArray))++(aD x0.f4 (7:Int))))] (AD (KJ (vO x0 h0) h1)<|AD (kb x0.f0 (60:Int) h2 h3)<|AC (gt (tab:=E.tab) (t:=9) h4)<|AD (kb x0.f1 (24:Int) h5 h6)<|AC (gt (tab:=E.tab) (t:=9) h7)<|AC (gt (tab:=E.tab) (t:=9) h8)<|AD (kb x0.f2 (31:Int) h9 h10)<|AC (gt (tab:=E.tab) (t:=9) h11)<|AC (gt (tab:=E.tab) (t:=9) h12)<|AD (kb x0.f3 (12:Int) h13 h14)<|AC (gt (tab:=E.tab) (t:=9) h15)<|AC (gt (tab:=E.tab) (t:=9) h16)<|AD (kb x0.f4 (7:Int) h17 h18)<|AC (gt (tab:=E.tab) (t:=9) h19)<|AN))
 ·exact KB (DP Tryz.f44 [rF] (AD (KJ (vO x0 h0) h1)<|AN))
inductive rX where
 | x2 (v7:List ByteArray)
def kr (v1_0 v1_1 v1_2 v1_3 v1_4:List Int) (v4 v7:List ByteArray) (v14:Int) (v28:List Int) (v29 v30:Int):US:=stL 48 [(1,.box () [.s .far () 1 (v1_0.map etI),.s .far () 1 (v1_1.map etI),.s .far () 1 (v1_2.map etI),.s .far () 1 (v1_3.map etI),.s .far () 1 (v1_4.map etI)]),(4,.one (.s .own () 1 (v4.map etS))),(7,.one (.s .own () 1 (v7.map etS))),(13,.clo (.arr [0,1,2,3,4]) [1,1,1,1,1]),(14,.one (tI v14)),(28,.one (.s .far () 1 (v28.map etI))),(29,.one (tI v29)),(30,.one (tI v30))]
def dZ (v1_0 v1_1 v1_2 v1_3 v1_4:List Int) (v4:List ByteArray) (v14:Int) (zv7:List ByteArray):US:=stL 48 [(1,.box () [.s .far () 1 (v1_0.map etI),.s .far () 1 (v1_1.map etI),.s .far () 1 (v1_2.map etI),.s .far () 1 (v1_3.map etI),.s .far () 1 (v1_4.map etI)]),(4,.one (.s .own () 1 (v4.map etS))),(7,.one (.s .own () 1 (zv7.map etS))),(13,.clo (.arr [0,1,2,3,4]) [1,1,1,1,1]),(14,.one (tI v14))]
abbrev rW:US→Exit→US→Prop:=Round E 75 (az Tryz.f75 1)
def zc (v1_0 v1_1 v1_2 v1_3 v1_4:List Int) (v4 v7:List ByteArray) (v14:Int) (v28:List Int) (v29 v30:Int):rX→Prop
 | .x2 zv7=>Loops E 75 (az Tryz.f75 1) (kr v1_0 v1_1 v1_2 v1_3 v1_4 v4 v7 v14 v28 v29 v30) (.exit 2) (dZ v1_0 v1_1 v1_2 v1_3 v1_4 v4 v14 zv7)
noncomputable def bZ  : List Int→Nat→(List ByteArray)→Option rX
 | [],i,v7=>some (.x2 v7)
 | hd::rest,i,v7=>if -9223372036854775808≤hd∧hd≤9223372036854775807 then if (v7.length+([bf hd]).length)*16≤140737488355328∧v7.length+([bf hd]).length≤4611686018427387904 then bZ rest (i+1) (v7++([bf hd])) else none else none
theorem iA (v1_0 v1_1 v1_2 v1_3 v1_4:List Int) (v4:List ByteArray) (v14:Int) (v28:List Int) (rest:List Int):∀ (i:Nat) (v7:List ByteArray),(v28).drop i=rest→v28.length≤9223372036854775807→Ans (bZ rest i v7) (zc v1_0 v1_1 v1_2 v1_3 v1_4 v4 v7 v14 v28 (v28.length:Int) (i:Int)):=by
 induction rest with
 | nil =>
  intro i v7 hE hl
  have hb:=br hE
  unfold bZ
  exact KB (KD (show rW (kr v1_0 v1_1 v1_2 v1_3 v1_4 v4 v7 v14 v28 (v28.length:Int) (i:Int)) (.exit 2) (dZ v1_0 v1_1 v1_2 v1_3 v1_4 v4 v14 v7) from RP [.b false] (AC hb<|AN)) (by intro h;cases h))
 | cons hd rest ih =>
  intro i v7 hE hl
  have hb:=bd hE
  have hw:=be hE hl
  have hE2:=aJ hE
  have hg:=ba hE
  unfold bZ
  refine KG (fun h2 => ?_)
  refine KG (fun h3 => ?_)
  exact (ih (i+1) (v7++([bf hd])) hE2 hl).mono fun y hy=>by have r:rW (kr v1_0 v1_1 v1_2 v1_3 v1_4 v4 v7 v14 v28 (v28.length:Int) (i:Int)) .normal (kr v1_0 v1_1 v1_2 v1_3 v1_4 v4 (v7++([bf hd])) v14 v28 (v28.length:Int) (inc (i:Int))):=RP [.b true,.row (etI hd),.ret [(false,[tS (bf hd)])],.rows ((v7++([bf hd])).map etS)] (AC hb<|AR etI hg<|AD (pC hd h2)<|AAp etS (fun _=>rfl) h3<|AN);rw [hw] at r;cases y<;>exact KC r hy
inductive nh where
 | x0 (v4:List ByteArray)
def aW (v1_0 v1_1 v1_2 v1_3 v1_4:List Int) (v4:List ByteArray) (v14:Int):US:=stL 48 [(1,.box () [.s .far () 1 (v1_0.map etI),.s .far () 1 (v1_1.map etI),.s .far () 1 (v1_2.map etI),.s .far () 1 (v1_3.map etI),.s .far () 1 (v1_4.map etI)]),(4,.one (.s .own () 1 (v4.map etS))),(13,.clo (.arr [0,1,2,3,4]) [1,1,1,1,1]),(14,.one (tI v14))]
def lF (zv4:List ByteArray):US:=stL 48 [(4,.one (.s .own () 1 (zv4.map etS)))]
abbrev cA:US→Exit→US→Prop:=Round E 75 (az Tryz.f75 0)
def zb (v1_0 v1_1 v1_2 v1_3 v1_4:List Int) (v4:List ByteArray) (v14:Int):nh→Prop
 | .x0 zv4=>Loops E 75 (az Tryz.f75 0) (aW v1_0 v1_1 v1_2 v1_3 v1_4 v4 v14) (.exit 0) (lF zv4)
noncomputable def aI (v1_0 v1_1 v1_2 v1_3 v1_4:List Int):Nat→(List ByteArray)→Int→Option nh
 | 0,_,_=>none
 | n+1,v4,v14=>cond (decide (v14<(5:Int)))
  (cond (v14==(0:Int))
   (cond (lN v1_0 v14)
    (if (v4.length+([(⟨#[42]⟩:ByteArray)]).length)*16≤140737488355328∧v4.length+([(⟨#[42]⟩:ByteArray)]).length≤4611686018427387904 then aI v1_0 v1_1 v1_2 v1_3 v1_4 n (v4++([(⟨#[42]⟩:ByteArray)])) (inc v14) else none)
    (if v1_0.length≤9223372036854775807 then (bZ v1_0 0 ([])).bind fun y=>match y with
     | .x2 w0_7=>(if w0_7.length≤140737488355328∧(aT w0_7 (⟨#[44]⟩:ByteArray)).size≤140737488355328 then if (v4.length+([aT w0_7 (⟨#[44]⟩:ByteArray)]).length)*16≤140737488355328∧v4.length+([aT w0_7 (⟨#[44]⟩:ByteArray)]).length≤4611686018427387904 then aI v1_0 v1_1 v1_2 v1_3 v1_4 n (v4++([aT w0_7 (⟨#[44]⟩:ByteArray)])) (inc v14) else none else none) else none))
   (cond (v14==(1:Int))
    (cond (lN v1_1 v14)
     (if (v4.length+([(⟨#[42]⟩:ByteArray)]).length)*16≤140737488355328∧v4.length+([(⟨#[42]⟩:ByteArray)]).length≤4611686018427387904 then aI v1_0 v1_1 v1_2 v1_3 v1_4 n (v4++([(⟨#[42]⟩:ByteArray)])) (inc v14) else none)
     (if v1_1.length≤9223372036854775807 then (bZ v1_1 0 ([])).bind fun y=>match y with
      | .x2 w0_7=>(if w0_7.length≤140737488355328∧(aT w0_7 (⟨#[44]⟩:ByteArray)).size≤140737488355328 then if (v4.length+([aT w0_7 (⟨#[44]⟩:ByteArray)]).length)*16≤140737488355328∧v4.length+([aT w0_7 (⟨#[44]⟩:ByteArray)]).length≤4611686018427387904 then aI v1_0 v1_1 v1_2 v1_3 v1_4 n (v4++([aT w0_7 (⟨#[44]⟩:ByteArray)])) (inc v14) else none else none) else none))
    (cond (v14==(2:Int))
     (cond (lN v1_2 v14)
      (if (v4.length+([(⟨#[42]⟩:ByteArray)]).length)*16≤140737488355328∧v4.length+([(⟨#[42]⟩:ByteArray)]).length≤4611686018427387904 then aI v1_0 v1_1 v1_2 v1_3 v1_4 n (v4++([(⟨#[42]⟩:ByteArray)])) (inc v14) else none)
      (if v1_2.length≤9223372036854775807 then (bZ v1_2 0 ([])).bind fun y=>match y with
       | .x2 w0_7=>(if w0_7.length≤140737488355328∧(aT w0_7 (⟨#[44]⟩:ByteArray)).size≤140737488355328 then if (v4.length+([aT w0_7 (⟨#[44]⟩:ByteArray)]).length)*16≤140737488355328∧v4.length+([aT w0_7 (⟨#[44]⟩:ByteArray)]).length≤4611686018427387904 then aI v1_0 v1_1 v1_2 v1_3 v1_4 n (v4++([aT w0_7 (⟨#[44]⟩:ByteArray)])) (inc v14) else none else none) else none))
     (cond (v14==(3:Int))
      (cond (lN v1_3 v14)
       (if (v4.length+([(⟨#[42]⟩:ByteArray)]).length)*16≤140737488355328∧v4.length+([(⟨#[42]⟩:ByteArray)]).length≤4611686018427387904 then aI v1_0 v1_1 v1_2 v1_3 v1_4 n (v4++([(⟨#[42]⟩:ByteArray)])) (inc v14) else none)
       (if v1_3.length≤9223372036854775807 then (bZ v1_3 0 ([])).bind fun y=>match y with
        | .x2 w0_7=>(if w0_7.length≤140737488355328∧(aT w0_7 (⟨#[44]⟩:ByteArray)).size≤140737488355328 then if (v4.length+([aT w0_7 (⟨#[44]⟩:ByteArray)]).length)*16≤140737488355328∧v4.length+([aT w0_7 (⟨#[44]⟩:ByteArray)]).length≤4611686018427387904 then aI v1_0 v1_1 v1_2 v1_3 v1_4 n (v4++([aT w0_7 (⟨#[44]⟩:ByteArray)])) (inc v14) else none else none) else none))
      (if v14=(4:Int) then cond (lN v1_4 v14)
       (if (v4.length+([(⟨#[42]⟩:ByteArray)]).length)*16≤140737488355328∧v4.length+([(⟨#[42]⟩:ByteArray)]).length≤4611686018427387904 then aI v1_0 v1_1 v1_2 v1_3 v1_4 n (v4++([(⟨#[42]⟩:ByteArray)])) (inc v14) else none)
       (if v1_4.length≤9223372036854775807 then (bZ v1_4 0 ([])).bind fun y=>match y with
        | .x2 w0_7=>(if w0_7.length≤140737488355328∧(aT w0_7 (⟨#[44]⟩:ByteArray)).size≤140737488355328 then if (v4.length+([aT w0_7 (⟨#[44]⟩:ByteArray)]).length)*16≤140737488355328∧v4.length+([aT w0_7 (⟨#[44]⟩:ByteArray)]).length≤4611686018427387904 then aI v1_0 v1_1 v1_2 v1_3 v1_4 n (v4++([aT w0_7 (⟨#[44]⟩:ByteArray)])) (inc v14) else none else none) else none) else none)))))
  (some (.x0 v4))
theorem za (v1_0 v1_1 v1_2 v1_3 v1_4:List Int) (n:Nat):∀ (v4:List ByteArray) (v14:Int),Ans (aI v1_0 v1_1 v1_2 v1_3 v1_4 n v4 v14) (zb v1_0 v1_1 v1_2 v1_3 v1_4 v4 v14):=by
 induction n with
 | zero=>intros;exact Ans.none
 | succ n ih =>
  intro v4 v14
  unfold aI
  apply KE<;>intro h0
  ·apply KE<;>intro h1
   ·apply KE<;>intro h2
    ·refine KG (fun h3 => ?_)
     have r:cA (aW v1_0 v1_1 v1_2 v1_3 v1_4 v4 v14) .normal (aW v1_0 v1_1 v1_2 v1_3 v1_4 (v4++([(⟨#[42]⟩:ByteArray)])) (inc v14)):=RP [.b true,.val (.int .i64 0),rT,.rows ((v4++([(⟨#[42]⟩:ByteArray)])).map etS)] (AC h0<|AC (p:=v14=(0:Int)) (eq_of_beq h1)<|AD (KJ (fi v1_0 v14) h2)<|AAp etS (fun _=>rfl) h3<|AN);exact (ih (v4++([(⟨#[42]⟩:ByteArray)])) (inc v14)).mono fun y hy=>by cases y<;>exact KC r hy
    ·refine KG (fun hl5 => ?_)
     refine KF (fun y hy => ?_)
     replace hy:=iA v1_0 v1_1 v1_2 v1_3 v1_4 v4 v14 v1_0 v1_0 0 ([]) rfl hl5 y hy
     cases y with
     | x2 w0_7 =>
      have h3:=hy
      refine KG (fun h4 => ?_)
      refine KG (fun h5 => ?_)
      have r:cA (aW v1_0 v1_1 v1_2 v1_3 v1_4 v4 v14) .normal (aW v1_0 v1_1 v1_2 v1_3 v1_4 (v4++([aT w0_7 (⟨#[44]⟩:ByteArray)])) (inc v14)):=RP [.b true,.val (.int .i64 0),rF,.val (.int .i64 (v1_0.length:Int)),.lp (.exit 2) (dZ v1_0 v1_1 v1_2 v1_3 v1_4 v4 v14 w0_7),.ret [(false,[tS (aT w0_7 (⟨#[44]⟩:ByteArray))])],.rows ((v4++([aT w0_7 (⟨#[44]⟩:ByteArray)])).map etS)] (AC h0<|AC (p:=v14=(0:Int)) (eq_of_beq h1)<|AD (KJ (fi v1_0 v14) h2)<|ALn v1_0 etI<|AL h3<|AV (ψ:=fun k=>E.C k 96 [.one (.s .far () 1 (((w0_7.map etS).drop 0).take (w0_7.map etS).length)),.one (tS (⟨#[44]⟩:ByteArray))]=some [(false,[tS (aT w0_7 (⟨#[44]⟩:ByteArray))])]) (KI (by simp only [List.take_length,List.drop_zero]) (fw w0_7 (⟨#[44]⟩:ByteArray) h4))<|AAp etS (fun _=>rfl) h5<|AN);exact (ih (v4++([aT w0_7 (⟨#[44]⟩:ByteArray)])) (inc v14)).mono fun y hy=>by cases y<;>exact KC r hy
   ·apply KE<;>intro h2
    ·apply KE<;>intro h3
     ·refine KG (fun h4 => ?_)
      have r:cA (aW v1_0 v1_1 v1_2 v1_3 v1_4 v4 v14) .normal (aW v1_0 v1_1 v1_2 v1_3 v1_4 (v4++([(⟨#[42]⟩:ByteArray)])) (inc v14)):=RP [.b true,.val (.int .i64 1),rT,.rows ((v4++([(⟨#[42]⟩:ByteArray)])).map etS)] (AC h0<|AC (p:=v14=(1:Int)) (eq_of_beq h2)<|AD (KJ (fi v1_1 v14) h3)<|AAp etS (fun _=>rfl) h4<|AN);exact (ih (v4++([(⟨#[42]⟩:ByteArray)])) (inc v14)).mono fun y hy=>by cases y<;>exact KC r hy
     ·refine KG (fun hl6 => ?_)
      refine KF (fun y hy => ?_)
      replace hy:=iA v1_0 v1_1 v1_2 v1_3 v1_4 v4 v14 v1_1 v1_1 0 ([]) rfl hl6 y hy
      cases y with
      | x2 w0_7 =>
       have h4:=hy
       refine KG (fun h5 => ?_)
       refine KG (fun h6 => ?_)
       have r:cA (aW v1_0 v1_1 v1_2 v1_3 v1_4 v4 v14) .normal (aW v1_0 v1_1 v1_2 v1_3 v1_4 (v4++([aT w0_7 (⟨#[44]⟩:ByteArray)])) (inc v14)):=RP [.b true,.val (.int .i64 1),rF,.val (.int .i64 (v1_1.length:Int)),.lp (.exit 2) (dZ v1_0 v1_1 v1_2 v1_3 v1_4 v4 v14 w0_7),.ret [(false,[tS (aT w0_7 (⟨#[44]⟩:ByteArray))])],.rows ((v4++([aT w0_7 (⟨#[44]⟩:ByteArray)])).map etS)] (AC h0<|AC (p:=v14=(1:Int)) (eq_of_beq h2)<|AD (KJ (fi v1_1 v14) h3)<|ALn v1_1 etI<|AL h4<|AV (ψ:=fun k=>E.C k 96 [.one (.s .far () 1 (((w0_7.map etS).drop 0).take (w0_7.map etS).length)),.one (tS (⟨#[44]⟩:ByteArray))]=some [(false,[tS (aT w0_7 (⟨#[44]⟩:ByteArray))])]) (KI (by simp only [List.take_length,List.drop_zero]) (fw w0_7 (⟨#[44]⟩:ByteArray) h5))<|AAp etS (fun _=>rfl) h6<|AN);exact (ih (v4++([aT w0_7 (⟨#[44]⟩:ByteArray)])) (inc v14)).mono fun y hy=>by cases y<;>exact KC r hy
    ·apply KE<;>intro h3
     ·apply KE<;>intro h4
      ·refine KG (fun h5 => ?_)
       have r:cA (aW v1_0 v1_1 v1_2 v1_3 v1_4 v4 v14) .normal (aW v1_0 v1_1 v1_2 v1_3 v1_4 (v4++([(⟨#[42]⟩:ByteArray)])) (inc v14)):=RP [.b true,.val (.int .i64 2),rT,.rows ((v4++([(⟨#[42]⟩:ByteArray)])).map etS)] (AC h0<|AC (p:=v14=(2:Int)) (eq_of_beq h3)<|AD (KJ (fi v1_2 v14) h4)<|AAp etS (fun _=>rfl) h5<|AN);exact (ih (v4++([(⟨#[42]⟩:ByteArray)])) (inc v14)).mono fun y hy=>by cases y<;>exact KC r hy
      ·refine KG (fun hl7 => ?_)
       refine KF (fun y hy => ?_)
       replace hy:=iA v1_0 v1_1 v1_2 v1_3 v1_4 v4 v14 v1_2 v1_2 0 ([]) rfl hl7 y hy
       cases y with
       | x2 w0_7 =>
        have h5:=hy
        refine KG (fun h6 => ?_)
        refine KG (fun h7 => ?_)
        have r:cA (aW v1_0 v1_1 v1_2 v1_3 v1_4 v4 v14) .normal (aW v1_0 v1_1 v1_2 v1_3 v1_4 (v4++([aT w0_7 (⟨#[44]⟩:ByteArray)])) (inc v14)):=RP [.b true,.val (.int .i64 2),rF,.val (.int .i64 (v1_2.length:Int)),.lp (.exit 2) (dZ v1_0 v1_1 v1_2 v1_3 v1_4 v4 v14 w0_7),.ret [(false,[tS (aT w0_7 (⟨#[44]⟩:ByteArray))])],.rows ((v4++([aT w0_7 (⟨#[44]⟩:ByteArray)])).map etS)] (AC h0<|AC (p:=v14=(2:Int)) (eq_of_beq h3)<|AD (KJ (fi v1_2 v14) h4)<|ALn v1_2 etI<|AL h5<|AV (ψ:=fun k=>E.C k 96 [.one (.s .far () 1 (((w0_7.map etS).drop 0).take (w0_7.map etS).length)),.one (tS (⟨#[44]⟩:ByteArray))]=some [(false,[tS (aT w0_7 (⟨#[44]⟩:ByteArray))])]) (KI (by simp only [List.take_length,List.drop_zero]) (fw w0_7 (⟨#[44]⟩:ByteArray) h6))<|AAp etS (fun _=>rfl) h7<|AN);exact (ih (v4++([aT w0_7 (⟨#[44]⟩:ByteArray)])) (inc v14)).mono fun y hy=>by cases y<;>exact KC r hy
     ·apply KE<;>intro h4
      ·apply KE<;>intro h5
       ·refine KG (fun h6 => ?_)
        have r:cA (aW v1_0 v1_1 v1_2 v1_3 v1_4 v4 v14) .normal (aW v1_0 v1_1 v1_2 v1_3 v1_4 (v4++([(⟨#[42]⟩:ByteArray)])) (inc v14)):=RP [.b true,.val (.int .i64 3),rT,.rows ((v4++([(⟨#[42]⟩:ByteArray)])).map etS)] (AC h0<|AC (p:=v14=(3:Int)) (eq_of_beq h4)<|AD (KJ (fi v1_3 v14) h5)<|AAp etS (fun _=>rfl) h6<|AN);exact (ih (v4++([(⟨#[42]⟩:ByteArray)])) (inc v14)).mono fun y hy=>by cases y<;>exact KC r hy
       ·refine KG (fun hl8 => ?_)
        refine KF (fun y hy => ?_)
        replace hy:=iA v1_0 v1_1 v1_2 v1_3 v1_4 v4 v14 v1_3 v1_3 0 ([]) rfl hl8 y hy
        cases y with
        | x2 w0_7 =>
         have h6:=hy
         refine KG (fun h7 => ?_)
         refine KG (fun h8 => ?_)
         have r:cA (aW v1_0 v1_1 v1_2 v1_3 v1_4 v4 v14) .normal (aW v1_0 v1_1 v1_2 v1_3 v1_4 (v4++([aT w0_7 (⟨#[44]⟩:ByteArray)])) (inc v14)):=RP [.b true,.val (.int .i64 3),rF,.val (.int .i64 (v1_3.length:Int)),.lp (.exit 2) (dZ v1_0 v1_1 v1_2 v1_3 v1_4 v4 v14 w0_7),.ret [(false,[tS (aT w0_7 (⟨#[44]⟩:ByteArray))])],.rows ((v4++([aT w0_7 (⟨#[44]⟩:ByteArray)])).map etS)] (AC h0<|AC (p:=v14=(3:Int)) (eq_of_beq h4)<|AD (KJ (fi v1_3 v14) h5)<|ALn v1_3 etI<|AL h6<|AV (ψ:=fun k=>E.C k 96 [.one (.s .far () 1 (((w0_7.map etS).drop 0).take (w0_7.map etS).length)),.one (tS (⟨#[44]⟩:ByteArray))]=some [(false,[tS (aT w0_7 (⟨#[44]⟩:ByteArray))])]) (KI (by simp only [List.take_length,List.drop_zero]) (fw w0_7 (⟨#[44]⟩:ByteArray) h7))<|AAp etS (fun _=>rfl) h8<|AN);exact (ih (v4++([aT w0_7 (⟨#[44]⟩:ByteArray)])) (inc v14)).mono fun y hy=>by cases y<;>exact KC r hy
      ·refine KG (fun h5 => ?_)
       apply KE<;>intro h6
       ·refine KG (fun h7 => ?_)
        have r:cA (aW v1_0 v1_1 v1_2 v1_3 v1_4 v4 v14) .normal (aW v1_0 v1_1 v1_2 v1_3 v1_4 (v4++([(⟨#[42]⟩:ByteArray)])) (inc v14)):=RP [.b true,.val (.int .i64 4),rT,.rows ((v4++([(⟨#[42]⟩:ByteArray)])).map etS)] (AC h0<|AC h5<|AD (KJ (fi v1_4 v14) h6)<|AAp etS (fun _=>rfl) h7<|AN);exact (ih (v4++([(⟨#[42]⟩:ByteArray)])) (inc v14)).mono fun y hy=>by cases y<;>exact KC r hy
       ·refine KG (fun hl8 => ?_)
        refine KF (fun y hy => ?_)
        replace hy:=iA v1_0 v1_1 v1_2 v1_3 v1_4 v4 v14 v1_4 v1_4 0 ([]) rfl hl8 y hy
        cases y with
        | x2 w0_7 =>
         have h7:=hy
         refine KG (fun h8 => ?_)
         refine KG (fun h9 => ?_)
         have r:cA (aW v1_0 v1_1 v1_2 v1_3 v1_4 v4 v14) .normal (aW v1_0 v1_1 v1_2 v1_3 v1_4 (v4++([aT w0_7 (⟨#[44]⟩:ByteArray)])) (inc v14)):=RP [.b true,.val (.int .i64 4),rF,.val (.int .i64 (v1_4.length:Int)),.lp (.exit 2) (dZ v1_0 v1_1 v1_2 v1_3 v1_4 v4 v14 w0_7),.ret [(false,[tS (aT w0_7 (⟨#[44]⟩:ByteArray))])],.rows ((v4++([aT w0_7 (⟨#[44]⟩:ByteArray)])).map etS)] (AC h0<|AC h5<|AD (KJ (fi v1_4 v14) h6)<|ALn v1_4 etI<|AL h7<|AV (ψ:=fun k=>E.C k 96 [.one (.s .far () 1 (((w0_7.map etS).drop 0).take (w0_7.map etS).length)),.one (tS (⟨#[44]⟩:ByteArray))]=some [(false,[tS (aT w0_7 (⟨#[44]⟩:ByteArray))])]) (KI (by simp only [List.take_length,List.drop_zero]) (fw w0_7 (⟨#[44]⟩:ByteArray) h8))<|AAp etS (fun _=>rfl) h9<|AN);exact (ih (v4++([aT w0_7 (⟨#[44]⟩:ByteArray)])) (inc v14)).mono fun y hy=>by cases y<;>exact KC r hy
  ·exact KB (KD (show cA (aW v1_0 v1_1 v1_2 v1_3 v1_4 v4 v14) (.exit 0) (lF v4) from RP [.b false] (AC h0<|AN)) (by intro h;cases h))
noncomputable def lG (x0:GCron):Option (ByteArray×Bool) :=
  if ak.sm x0 then cond (gd x0)
   ((aI x0.f0 x0.f1 x0.f2 x0.f3 x0.f4 9223372036854775808 ([]) (0:Int)).bind fun y=>match y with
    | .x0 w0_4=>(if w0_4.length≤140737488355328∧(aT w0_4 (⟨#[32]⟩:ByteArray)).size≤140737488355328 then some (aT w0_4 (⟨#[32]⟩:ByteArray),true) else none))
   (some (ByteArray.empty,false)) else none
theorem A9 (x0:GCron):Ans (lG x0) (fun r=>Does E 75 [.agg (GCron.t .far x0)] [(false,[tS r.1]),(false,[tB r.2])]):=by
 unfold lG
 refine KG (fun h0 => ?_)
 apply KE<;>intro h1
 ·refine KF (fun y hy => ?_)
  replace hy:=za x0.f0 x0.f1 x0.f2 x0.f3 x0.f4 9223372036854775808 ([]) (0:Int) y hy
  cases y with
  | x0 w0_4 =>
   have h2:=hy
   refine KG (fun h3 => ?_)
   exact KB (DP Tryz.f75 [rT,.lp (.exit 0) (lF w0_4),.ret [(false,[tS (aT w0_4 (⟨#[32]⟩:ByteArray))])]] (AD (KJ (vL x0 h0) h1)<|AL h2<|AV (ψ:=fun k=>E.C k 96 [.one (.s .far () 1 (((w0_4.map etS).drop 0).take (w0_4.map etS).length)),.one (tS (⟨#[32]⟩:ByteArray))]=some [(false,[tS (aT w0_4 (⟨#[32]⟩:ByteArray))])]) (KI (by simp only [List.take_length,List.drop_zero]) (fw w0_4 (⟨#[32]⟩:ByteArray) h3))<|AN))
 ·exact KB (DP Tryz.f75 [rF] (AD (KJ (vL x0 h0) h1)<|AN))
theorem yR {a b:Int}:∀ {l:List Int} {p:Option Int},iD a b l p=true→l.Pairwise (· < ·)∧∀ y,p=some y→∀ x∈l,y<x
 | [],p,_=>⟨by simp,fun y _ x hx=>by cases hx⟩
 | z::l,p,h=>by
  unfold iD at h
  simp only [Bool.and_eq_true] at h
  obtain ⟨h1,h2⟩:=yR h.2
  have h3:=h2 z rfl
  refine ⟨List.pairwise_cons.2 ⟨h3,h1⟩,fun y e x hx => ?_⟩
  subst e
  have h4:y<z:=by simpa using h.1.2
  rcases List.mem_cons.1 hx with rfl | hx
  ·exact h4
  ·have:=h3 x hx;omega
theorem BS {a b:Int}:∀ {l:List Int} {p:Option Int},iD a b l p=true→∀ x∈l,a≤x∧x≤b
 | [],_,_,x,hx=>by cases hx
 | y::l,p,h,x,hx=>by
  unfold iD at h
  simp only [Bool.and_eq_true] at h
  rcases List.mem_cons.1 hx with rfl | hx
  ·have:=h.1.1;unfold ag at this;simpa using this
  ·exact BS h.2 x hx
theorem yJ {l:List Int} {a b:Int} (h:aU l a b=true):∀ x∈l,a≤x∧x≤b:=by
 unfold aU at h
 rw [Bool.and_eq_true] at h
 have h:=h.1
 exact BS h
theorem Fg {l:List Int} {a b:Int} (h:aU l a b=true) (hab:a≤b+1):(l.length:Int)≤b+1-a:=by
 have hi:=yJ h
 unfold aU at h
 rw [Bool.and_eq_true] at h
 exact rA a b l a (yR h.1).1 hi hab
theorem vT {c:GCron} (h:gd c=true):aU c.f0 0 59=true∧aU c.f1 0 23=true∧aU c.f2 1 31=true∧aU c.f3 1 12=true∧aU c.f4 0 6=true:=by
 unfold gd at h
 simp only [Bool.and_eq_true] at h
 exact h
theorem fp {l:List Int} {a b:Int} (h:aU l a b=true) (h0:0≤a) (h1:a≤b) (h2:b≤59):l.length≤60∧∀ z∈l,0≤z∧z≤59:=by
 have:=Fg h (by omega)
 exact ⟨by omega,fun z hz=>by have:=yJ h z hz;omega⟩
noncomputable def qU (c:GCron):ByteArray:=ofTx (fy 32 [tx (aD c.f0 60),tx (aD c.f1 24),tx (aD c.f2 31),tx (aD c.f3 12),tx (aD c.f4 7)])
noncomputable def aZ (c:GCron):ByteArray×Bool:=cond (gd c) (qU c,true) (ByteArray.empty,false)
theorem JA (a b c d e:ByteArray):((((((((a++⟨#[32]⟩)++b)++⟨#[32]⟩)++c)++⟨#[32]⟩)++d)++⟨#[32]⟩)++e:ByteArray)=ofTx (fy 32 [tx a,tx b,tx c,tx d,tx e]):=by
 apply w8
 have e32:tx (⟨#[32]⟩:ByteArray)=[32]:=rfl
 simp [Ha,e32,qG,fy]
theorem Jm (c:GCron) (h:ak.sm c):l5 c=some (aZ c):=by
 unfold l5 aZ
 rw [if_pos h]
 cases q:gd c with
 | false=>rfl
 | true =>
  obtain ⟨k0,k1,k2,k3,k4⟩:=vT q
  have a0:=fp k0 (by decide) (by decide) (by decide)
  have a1:=fp k1 (by decide) (by decide) (by decide)
  have a2:=fp k2 (by decide) (by decide) (by decide)
  have a3:=fp k3 (by decide) (by decide) (by decide)
  have a4:=fp k4 (by decide) (by decide) (by decide)
  have z0:=eR a0.1 a0.2 60
  have z1:=eR a1.1 a1.2 24
  have z2:=eR a2.1 a2.2 31
  have z3:=eR a3.1 a3.2 12
  have z4:=eR a4.1 a4.2 7
  have e32:(⟨#[32]⟩:ByteArray).size=1:=rfl
  rw [cond_true,cond_true]
  simp only [if_pos a0.1,if_pos a0.2,if_pos a1.1,if_pos a1.2,if_pos a2.1,if_pos a2.2,if_pos a3.1,if_pos a3.2,if_pos a4.1,if_pos a4.2,ByteArray.size_append,e32,cB]
  repeat rw [if_pos (by omega)]
  rw [JA]
  rfl
theorem Ih:∀ (l:List Int) (i:Nat) (v:List ByteArray),(∀ z∈l,0≤z∧z≤59)→v.length+l.length≤1000→bZ l i v=some (.x2 (v++l.map bf))
 | [],i,v,_,_=>by unfold bZ;simp
 | x::l,i,v,h,hl=>by
  have hx:=h x (by simp)
  simp only [List.length_cons] at hl
  unfold bZ
  rw [if_pos (by omega),if_pos (by simp;omega),Ih l (i+1) _ (fun z hz=>h z (by simp [hz])) (by simp;omega)]
  simp
theorem nc (l:List Int) (hl:l.length≤60) (hm:∀ z∈l,0≤z∧z≤59) (v:List ByteArray) (hv:v.length≤10) (b:Bool) (n:Int) (hb:b=((l.length:Int)==n)) (K:List ByteArray→Option nh) :
  cond b
    (if (v.length+([(⟨#[42]⟩:ByteArray)]).length)*16≤140737488355328∧v.length+([(⟨#[42]⟩:ByteArray)]).length≤4611686018427387904 then K (v++([(⟨#[42]⟩:ByteArray)])) else none)
    (if l.length≤9223372036854775807 then (bZ l 0 ([])).bind fun y=>match y with
     | .x2 w0_7=>(if w0_7.length≤140737488355328∧(aT w0_7 (⟨#[44]⟩:ByteArray)).size≤140737488355328 then if (v.length+([aT w0_7 (⟨#[44]⟩:ByteArray)]).length)*16≤140737488355328∧v.length+([aT w0_7 (⟨#[44]⟩:ByteArray)]).length≤4611686018427387904 then K (v++([aT w0_7 (⟨#[44]⟩:ByteArray)])) else none else none) else none)=K (v++[aD l n]):=by
 subst hb
 have hj:aT (l.map bf) ⟨#[44]⟩=ofTx (fy 44 (l.map fun x=>tx (bf x))):=by
  have e:l.map bf=(l.map fun x=>tx (bf x)).map ofTx:=by rw [List.map_map];rfl
  rw [e,rY]
 unfold aD
 have hz:=eR hl hm n
 unfold aD at hz
 cases q:(l.length:Int)==n with
 | true=>rw [cond_true,if_pos (by simp;omega),cond_true]
 | false =>
  rw [q,cond_false] at hz
  rw [cond_false,cond_false,if_pos (by omega),Ih l 0 [] hm (by simp;omega),Option.bind_some]
  simp only [List.nil_append]
  rw [hj,if_pos (by rw [List.length_map];omega),if_pos (by simp;omega)]
theorem Jl (c:GCron) (h:ak.sm c):lG c=some (aZ c):=by
 unfold lG aZ
 rw [if_pos h]
 cases q:gd c with
 | false=>rfl
 | true =>
  obtain ⟨k0,k1,k2,k3,k4⟩:=vT q
  have a0:=fp k0 (by decide) (by decide) (by decide)
  have a1:=fp k1 (by decide) (by decide) (by decide)
  have a2:=fp k2 (by decide) (by decide) (by decide)
  have a3:=fp k3 (by decide) (by decide) (by decide)
  have a4:=fp k4 (by decide) (by decide) (by decide)
  have z0:=eR a0.1 a0.2 60
  have z1:=eR a1.1 a1.2 24
  have z2:=eR a2.1 a2.2 31
  have z3:=eR a3.1 a3.2 12
  have z4:=eR a4.1 a4.2 7
  have s0:∀ n,aI c.f0 c.f1 c.f2 c.f3 c.f4 (n+1) [] 0=aI c.f0 c.f1 c.f2 c.f3 c.f4 n ([]++[aD c.f0 60]) 1:=fun n =>
   nc c.f0 a0.1 a0.2 [] (by simp) (lN c.f0 0) 60 rfl fun w=>aI c.f0 c.f1 c.f2 c.f3 c.f4 n w 1
  have s1:∀ n v,v.length≤10→aI c.f0 c.f1 c.f2 c.f3 c.f4 (n+1) v 1=aI c.f0 c.f1 c.f2 c.f3 c.f4 n (v++[aD c.f1 24]) 2:=fun n v hv =>
   nc c.f1 a1.1 a1.2 v hv (lN c.f1 1) 24 rfl fun w=>aI c.f0 c.f1 c.f2 c.f3 c.f4 n w 2
  have s2:∀ n v,v.length≤10→aI c.f0 c.f1 c.f2 c.f3 c.f4 (n+1) v 2=aI c.f0 c.f1 c.f2 c.f3 c.f4 n (v++[aD c.f2 31]) 3:=fun n v hv =>
   nc c.f2 a2.1 a2.2 v hv (lN c.f2 2) 31 rfl fun w=>aI c.f0 c.f1 c.f2 c.f3 c.f4 n w 3
  have s3:∀ n v,v.length≤10→aI c.f0 c.f1 c.f2 c.f3 c.f4 (n+1) v 3=aI c.f0 c.f1 c.f2 c.f3 c.f4 n (v++[aD c.f3 12]) 4:=fun n v hv =>
   nc c.f3 a3.1 a3.2 v hv (lN c.f3 3) 12 rfl fun w=>aI c.f0 c.f1 c.f2 c.f3 c.f4 n w 4
  have s4:∀ n v,v.length≤10→aI c.f0 c.f1 c.f2 c.f3 c.f4 (n+1) v 4=aI c.f0 c.f1 c.f2 c.f3 c.f4 n (v++[aD c.f4 7]) 5:=fun n v hv =>
   nc c.f4 a4.1 a4.2 v hv (lN c.f4 4) 7 rfl fun w=>aI c.f0 c.f1 c.f2 c.f3 c.f4 n w 5
  have s5:∀ n v,aI c.f0 c.f1 c.f2 c.f3 c.f4 (n+1) v 5=some (.x0 v):=fun n v=>rfl
  have st:aI c.f0 c.f1 c.f2 c.f3 c.f4 (9223372036854775802+6) [] 0=_:=s0 _
  rw [s1 _ _ (by simp),s2 _ _ (by simp),s3 _ _ (by simp),s4 _ _ (by simp),s5] at st
  simp only [List.nil_append,List.cons_append] at st
  rw [cond_true,cond_true]
  refine (congrArg (Option.bind · _) st).trans ?_
  rw [Option.bind_some]
  have ej:aT [aD c.f0 60,aD c.f1 24,aD c.f2 31,aD c.f3 12,aD c.f4 7] ⟨#[32]⟩=qU c:=rY [tx (aD c.f0 60),tx (aD c.f1 24),tx (aD c.f2 31),tx (aD c.f3 12),tx (aD c.f4 7)] 32
  have el:(qU c).size≤2000:=by
   unfold qU
   rw [na]
   have:=ux 32 200 [tx (aD c.f0 60),tx (aD c.f1 24),tx (aD c.f2 31),tx (aD c.f3 12),tx (aD c.f4 7)] (fun x hx=>by
    simp only [List.mem_cons,List.not_mem_nil,or_false] at hx
    rcases hx with rfl | rfl | rfl | rfl | rfl<;>rw [← cM]<;>assumption)
   simp only [List.length_cons,List.length_nil] at this
   omega
  show (if _ then _ else none)=_
  rw [ej,if_pos ⟨by simp,by omega⟩]
theorem dX (x0:GCron) (h:ak.sm x0):Does E 44 [.agg (GCron.t .far x0)] [(false,[tS ((aZ x0).1)]),(false,[tB ((aZ x0).2)])]:=by
 exact BY x0 _ (Jm x0 h)
theorem sI (x0:GCron) (h:ak.sm x0):Does E 75 [.agg (GCron.t .far x0)] [(false,[tS ((aZ x0).1)]),(false,[tB ((aZ x0).2)])]:=by
 exact A9 x0 _ (Jl x0 h)
end Go.Proofs.YtgaiiephdjllkaaGreatDoor.Am
