/- Rules. -/
import Derived.Test.YtdcbjglpdbcjpaaGreatDoorWords
namespace Go.Proofs.YtdcbjglpdbcjpaaGreatDoor.Am
open Go Go.Proofs Classical
set_option maxRecDepth 100000
set_option linter.unusedVariables false
set_option linter.unusedSimpArgs false
inductive rj where
 | ret (v2_0 v2_1 v2_2 v2_3 v2_4:List Int) (v3:Bool)
 | x0 
def ge (v2_0 v2_1 v2_2 v2_3 v2_4 v6_0 v6_1 v6_2 v6_3 v6_4:List Int) (v7:List Bool) (v8:Int):US:=stL 85 [(2,.box () [.s .own () 1 (v2_0.map etI),.s .own () 1 (v2_1.map etI),.s .own () 1 (v2_2.map etI),.s .own () 1 (v2_3.map etI),.s .own () 1 (v2_4.map etI)]),(6,.box () [.s .own () 1 (v6_0.map etI),.s .own () 1 (v6_1.map etI),.s .own () 1 (v6_2.map etI),.s .own () 1 (v6_3.map etI),.s .own () 1 (v6_4.map etI)]),(7,.one (.s .own () 1 (v7.map etB))),(8,.one (tI v8))]
def kQ (zv2_0 zv2_1 zv2_2 zv2_3 zv2_4:List Int) (zv3:Bool):US:=stL 85 [(2,.box () [.s .own () 1 (zv2_0.map etI),.s .own () 1 (zv2_1.map etI),.s .own () 1 (zv2_2.map etI),.s .own () 1 (zv2_3.map etI),.s .own () 1 (zv2_4.map etI)]),(3,.one (tB zv3))]
def lE (v2_0 v2_1 v2_2 v2_3 v2_4 v6_0 v6_1 v6_2 v6_3 v6_4:List Int):US:=stL 85 [(2,.box () [.s .own () 1 (v2_0.map etI),.s .own () 1 (v2_1.map etI),.s .own () 1 (v2_2.map etI),.s .own () 1 (v2_3.map etI),.s .own () 1 (v2_4.map etI)]),(6,.box () [.s .own () 1 (v6_0.map etI),.s .own () 1 (v6_1.map etI),.s .own () 1 (v6_2.map etI),.s .own () 1 (v6_3.map etI),.s .own () 1 (v6_4.map etI)])]
abbrev na:US→Exit→US→Prop:=Round E 34 (aw Tryz.f34 0)
def yP (v2_0 v2_1 v2_2 v2_3 v2_4 v6_0 v6_1 v6_2 v6_3 v6_4:List Int) (v7:List Bool) (v8:Int):rj→Prop
 | .ret zv2_0 zv2_1 zv2_2 zv2_3 zv2_4 zv3=>Loops E 34 (aw Tryz.f34 0) (ge v2_0 v2_1 v2_2 v2_3 v2_4 v6_0 v6_1 v6_2 v6_3 v6_4 v7 v8) .ret (kQ zv2_0 zv2_1 zv2_2 zv2_3 zv2_4 zv3)
 | .x0=>Loops E 34 (aw Tryz.f34 0) (ge v2_0 v2_1 v2_2 v2_3 v2_4 v6_0 v6_1 v6_2 v6_3 v6_4 v7 v8) (.exit 0) (lE v2_0 v2_1 v2_2 v2_3 v2_4 v6_0 v6_1 v6_2 v6_3 v6_4)
noncomputable def gf (v7:List Bool):Nat→Int→Option rj
 | 0,_=>none
 | n+1,v8=>cond (decide (v8<(5:Int)))
  ((aA v7 v8).bind fun g0=>cond (g0)
   (gf v7 n (inc v8))
   (some (.ret ([]) ([]) ([]) ([]) ([]) false)))
  (some (.x0))
theorem yO (v2_0 v2_1 v2_2 v2_3 v2_4 v6_0 v6_1 v6_2 v6_3 v6_4:List Int) (v7:List Bool) (n:Nat):∀ (v8:Int),Ans (gf v7 n v8) (yP v2_0 v2_1 v2_2 v2_3 v2_4 v6_0 v6_1 v6_2 v6_3 v6_4 v7 v8):=by
 induction n with
 | zero=>intros;exact Ans.none
 | succ n ih =>
  intro v8
  unfold gf
  apply K0<;>intro h0
  ·refine K1 (fun g0 h1 => ?_)
   apply K0<;>intro h2
   ·have r:na (ge v2_0 v2_1 v2_2 v2_3 v2_4 v6_0 v6_1 v6_2 v6_3 v6_4 v7 v8) .normal (ge v2_0 v2_1 v2_2 v2_3 v2_4 v6_0 v6_1 v6_2 v6_3 v6_4 v7 (inc v8)):=RP [.b true,.row ([tB true])] (AC h0<|AC (p:=0≤v8∧v8<((v7.map etB).length:Int)) (jx h1)<|AC (p:=(v7.map etB)[0+v8.toNat]?=some ([tB true])) ((eH h1).trans (congrArg some (show [tB g0]=[tB true] by rw [h2])))<|AN);exact (ih (inc v8)).mono fun y hy=>by cases y<;>exact KY r hy
   ·exact KX (KZ (show na (ge v2_0 v2_1 v2_2 v2_3 v2_4 v6_0 v6_1 v6_2 v6_3 v6_4 v7 v8) .ret (kQ ([]) ([]) ([]) ([]) ([]) false) from RP [.b true,.row ([tB false])] (AC h0<|AC (p:=0≤v8∧v8<((v7.map etB).length:Int)) (jx h1)<|AC (p:=(v7.map etB)[0+v8.toNat]?=some ([tB false])) ((eH h1).trans (congrArg some (show [tB g0]=[tB false] by rw [h2])))<|AN)) (by intro h;cases h))
  ·exact KX (KZ (show na (ge v2_0 v2_1 v2_2 v2_3 v2_4 v6_0 v6_1 v6_2 v6_3 v6_4 v7 v8) (.exit 0) (lE v2_0 v2_1 v2_2 v2_3 v2_4 v6_0 v6_1 v6_2 v6_3 v6_4) from RP [.b false] (AC h0<|AN)) (by intro h;cases h))
noncomputable def lj (x0:ByteArray):Option (GCron×Bool) :=
  cond ((aG x0).2)
   (cond ((((aG x0).1).length:Int) != (5:Int))
    (some ((GCron.mk ([]:List Int) ([]:List Int) ([]:List Int) ([]:List Int) ([]:List Int)),false))
    (if 0≤(5:Int)∧(5:Int)≤(5:Int)∧((1:Nat):Int)*(5:Int)≤281474976710656∧(5:Int)≤4611686018427387904 then (aA ((aG x0).1) (0:Int)).bind fun g0=>if g0.size≤2000000 then if 0≤(0:Int)∧(0:Int)≤(59:Int)∧(59:Int)≤59 then (aA (List.replicate (5:Int).toNat false) (0:Int)).bind fun g1=>(aA ((aG x0).1) (1:Int)).bind fun g2=>if g2.size≤2000000 then if 0≤(0:Int)∧(0:Int)≤(23:Int)∧(23:Int)≤59 then (aA ((List.replicate (5:Int).toNat false).set (0:Int).toNat ((ag g0 (0:Int) (59:Int)).2)) (1:Int)).bind fun g3=>(aA ((aG x0).1) (2:Int)).bind fun g4=>if g4.size≤2000000 then if 0≤(1:Int)∧(1:Int)≤(31:Int)∧(31:Int)≤59 then (aA (((List.replicate (5:Int).toNat false).set (0:Int).toNat ((ag g0 (0:Int) (59:Int)).2)).set (1:Int).toNat ((ag g2 (0:Int) (23:Int)).2)) (2:Int)).bind fun g5=>(aA ((aG x0).1) (3:Int)).bind fun g6=>if g6.size≤2000000 then if 0≤(1:Int)∧(1:Int)≤(12:Int)∧(12:Int)≤59 then (aA ((((List.replicate (5:Int).toNat false).set (0:Int).toNat ((ag g0 (0:Int) (59:Int)).2)).set (1:Int).toNat ((ag g2 (0:Int) (23:Int)).2)).set (2:Int).toNat ((ag g4 (1:Int) (31:Int)).2)) (3:Int)).bind fun g7=>(aA ((aG x0).1) (4:Int)).bind fun g8=>if g8.size≤2000000 then if 0≤(0:Int)∧(0:Int)≤(6:Int)∧(6:Int)≤59 then (aA (((((List.replicate (5:Int).toNat false).set (0:Int).toNat ((ag g0 (0:Int) (59:Int)).2)).set (1:Int).toNat ((ag g2 (0:Int) (23:Int)).2)).set (2:Int).toNat ((ag g4 (1:Int) (31:Int)).2)).set (3:Int).toNat ((ag g6 (1:Int) (12:Int)).2)) (4:Int)).bind fun g9=>(gf ((((((List.replicate (5:Int).toNat false).set (0:Int).toNat ((ag g0 (0:Int) (59:Int)).2)).set (1:Int).toNat ((ag g2 (0:Int) (23:Int)).2)).set (2:Int).toNat ((ag g4 (1:Int) (31:Int)).2)).set (3:Int).toNat ((ag g6 (1:Int) (12:Int)).2)).set (4:Int).toNat ((ag g8 (0:Int) (6:Int)).2)) 9223372036854775808 (0:Int)).bind fun y=>match y with
     | .ret w0_2_0 w0_2_1 w0_2_2 w0_2_3 w0_2_4 w0_3=>(some ((GCron.mk w0_2_0 w0_2_1 w0_2_2 w0_2_3 w0_2_4),w0_3))
     | .x0=>(some ((GCron.mk ((ag g0 (0:Int) (59:Int)).1) ((ag g2 (0:Int) (23:Int)).1) ((ag g4 (1:Int) (31:Int)).1) ((ag g6 (1:Int) (12:Int)).1) ((ag g8 (0:Int) (6:Int)).1)),true)) else none else none else none else none else none else none else none else none else none else none else none))
   (some ((GCron.mk ([]:List Int) ([]:List Int) ([]:List Int) ([]:List Int) ([]:List Int)),false))
theorem An (x0:ByteArray):Ans (lj x0) (fun r=>Does E 34 [.one (tS x0)] [(true,GCron.t .own r.1),(false,[tB r.2])]):=by
 unfold lj
 apply K0<;>intro h0
 ·apply K0<;>intro h1
  ·exact KX (DP Tryz.f34 [.ret [(false,[.s .own () 1 (((aG x0).1).map etS)]),(false,[tB true])],.val (.int .i64 (((aG x0).1).length:Int)),.b true] (AD (k7 x0 h0)<|ALn ((aG x0).1) etS<|AC h1<|AN))
  ·refine K2 (fun h2 => ?_)
   refine K1 (fun g0 h3 => ?_)
   refine K2 (fun h4 => ?_)
   refine K2 (fun h5 => ?_)
   refine K1 (fun g1 h6 => ?_)
   refine K1 (fun g2 h7 => ?_)
   refine K2 (fun h8 => ?_)
   refine K2 (fun h9 => ?_)
   refine K1 (fun g3 h10 => ?_)
   refine K1 (fun g4 h11 => ?_)
   refine K2 (fun h12 => ?_)
   refine K2 (fun h13 => ?_)
   refine K1 (fun g5 h14 => ?_)
   refine K1 (fun g6 h15 => ?_)
   refine K2 (fun h16 => ?_)
   refine K2 (fun h17 => ?_)
   refine K1 (fun g7 h18 => ?_)
   refine K1 (fun g8 h19 => ?_)
   refine K2 (fun h20 => ?_)
   refine K2 (fun h21 => ?_)
   refine K1 (fun g9 h22 => ?_)
   refine K1 (fun y hy => ?_)
   replace hy:=yO ([]) ([]) ([]) ([]) ([]) ((ag g0 (0:Int) (59:Int)).1) ((ag g2 (0:Int) (23:Int)).1) ((ag g4 (1:Int) (31:Int)).1) ((ag g6 (1:Int) (12:Int)).1) ((ag g8 (0:Int) (6:Int)).1) ((((((List.replicate (5:Int).toNat false).set (0:Int).toNat ((ag g0 (0:Int) (59:Int)).2)).set (1:Int).toNat ((ag g2 (0:Int) (23:Int)).2)).set (2:Int).toNat ((ag g4 (1:Int) (31:Int)).2)).set (3:Int).toNat ((ag g6 (1:Int) (12:Int)).2)).set (4:Int).toNat ((ag g8 (0:Int) (6:Int)).2)) 9223372036854775808 (0:Int) y hy
   cases y with
   | ret w0_2_0 w0_2_1 w0_2_2 w0_2_3 w0_2_4 w0_3 =>
    have h23:=hy
    exact KX (DP Tryz.f34 [.ret [(false,[.s .own () 1 (((aG x0).1).map etS)]),(false,[tB true])],.val (.int .i64 (((aG x0).1).length:Int)),.b false,.rows ((List.replicate (5:Int).toNat false).map etB),.row (etS g0),.ret [(false,[.s .own () 1 (((ag g0 (0:Int) (59:Int)).1).map etI)]),(false,[tB ((ag g0 (0:Int) (59:Int)).2)])],.row (etB g1),.rows (((List.replicate (5:Int).toNat false).set (0:Int).toNat ((ag g0 (0:Int) (59:Int)).2)).map etB),.row (etS g2),.ret [(false,[.s .own () 1 (((ag g2 (0:Int) (23:Int)).1).map etI)]),(false,[tB ((ag g2 (0:Int) (23:Int)).2)])],.row (etB g3),.rows ((((List.replicate (5:Int).toNat false).set (0:Int).toNat ((ag g0 (0:Int) (59:Int)).2)).set (1:Int).toNat ((ag g2 (0:Int) (23:Int)).2)).map etB),.row (etS g4),.ret [(false,[.s .own () 1 (((ag g4 (1:Int) (31:Int)).1).map etI)]),(false,[tB ((ag g4 (1:Int) (31:Int)).2)])],.row (etB g5),.rows (((((List.replicate (5:Int).toNat false).set (0:Int).toNat ((ag g0 (0:Int) (59:Int)).2)).set (1:Int).toNat ((ag g2 (0:Int) (23:Int)).2)).set (2:Int).toNat ((ag g4 (1:Int) (31:Int)).2)).map etB),.row (etS g6),.ret [(false,[.s .own () 1 (((ag g6 (1:Int) (12:Int)).1).map etI)]),(false,[tB ((ag g6 (1:Int) (12:Int)).2)])],.row (etB g7),.rows ((((((List.replicate (5:Int).toNat false).set (0:Int).toNat ((ag g0 (0:Int) (59:Int)).2)).set (1:Int).toNat ((ag g2 (0:Int) (23:Int)).2)).set (2:Int).toNat ((ag g4 (1:Int) (31:Int)).2)).set (3:Int).toNat ((ag g6 (1:Int) (12:Int)).2)).map etB),.row (etS g8),.ret [(false,[.s .own () 1 (((ag g8 (0:Int) (6:Int)).1).map etI)]),(false,[tB ((ag g8 (0:Int) (6:Int)).2)])],.row (etB g9),.rows (((((((List.replicate (5:Int).toNat false).set (0:Int).toNat ((ag g0 (0:Int) (59:Int)).2)).set (1:Int).toNat ((ag g2 (0:Int) (23:Int)).2)).set (2:Int).toNat ((ag g4 (1:Int) (31:Int)).2)).set (3:Int).toNat ((ag g6 (1:Int) (12:Int)).2)).set (4:Int).toNat ((ag g8 (0:Int) (6:Int)).2)).map etB),.lp .ret (kQ w0_2_0 w0_2_1 w0_2_2 w0_2_3 w0_2_4 w0_3)] (AD (k7 x0 h0)<|ALn ((aG x0).1) etS<|AC h1<|AC h2<|AC (p:=List.replicate (5:Int).toNat [tB false]=(List.replicate (5:Int).toNat false).map etB) (pj rfl)<|AG etS h3<|AD (dJ g0 (0:Int) (59:Int) h4 h5)<|AG etB h6<|AC (p:=((List.replicate (5:Int).toNat false).map etB).set (0+(0:Int).toNat) (ar (etB g1) 0 [tB ((ag g0 (0:Int) (59:Int)).2)])=((List.replicate (5:Int).toNat false).set (0:Int).toNat ((ag g0 (0:Int) (59:Int)).2)).map etB) (ed (by rfl))<|AG etS h7<|AD (dJ g2 (0:Int) (23:Int) h8 h9)<|AG etB h10<|AC (p:=(((List.replicate (5:Int).toNat false).set (0:Int).toNat ((ag g0 (0:Int) (59:Int)).2)).map etB).set (0+(1:Int).toNat) (ar (etB g3) 0 [tB ((ag g2 (0:Int) (23:Int)).2)])=(((List.replicate (5:Int).toNat false).set (0:Int).toNat ((ag g0 (0:Int) (59:Int)).2)).set (1:Int).toNat ((ag g2 (0:Int) (23:Int)).2)).map etB) (ed (by rfl))<|AG etS h11<|AD (dJ g4 (1:Int) (31:Int) h12 h13)<|AG etB h14<|AC (p:=((((List.replicate (5:Int).toNat false).set (0:Int).toNat ((ag g0 (0:Int) (59:Int)).2)).set (1:Int).toNat ((ag g2 (0:Int) (23:Int)).2)).map etB).set (0+(2:Int).toNat) (ar (etB g5) 0 [tB ((ag g4 (1:Int) (31:Int)).2)])=((((List.replicate (5:Int).toNat false).set (0:Int).toNat ((ag g0 (0:Int) (59:Int)).2)).set (1:Int).toNat ((ag g2 (0:Int) (23:Int)).2)).set (2:Int).toNat ((ag g4 (1:Int) (31:Int)).2)).map etB) (ed (by rfl))<|AG etS h15<|AD (dJ g6 (1:Int) (12:Int) h16 h17)<|AG etB h18<|AC (p:=(((((List.replicate (5:Int).toNat false).set (0:Int).toNat ((ag g0 (0:Int) (59:Int)).2)).set (1:Int).toNat ((ag g2 (0:Int) (23:Int)).2)).set (2:Int).toNat ((ag g4 (1:Int) (31:Int)).2)).map etB).set (0+(3:Int).toNat) (ar (etB g7) 0 [tB ((ag g6 (1:Int) (12:Int)).2)])=(((((List.replicate (5:Int).toNat false).set (0:Int).toNat ((ag g0 (0:Int) (59:Int)).2)).set (1:Int).toNat ((ag g2 (0:Int) (23:Int)).2)).set (2:Int).toNat ((ag g4 (1:Int) (31:Int)).2)).set (3:Int).toNat ((ag g6 (1:Int) (12:Int)).2)).map etB) (ed (by rfl))<|AG etS h19<|AD (dJ g8 (0:Int) (6:Int) h20 h21)<|AG etB h22<|AC (p:=((((((List.replicate (5:Int).toNat false).set (0:Int).toNat ((ag g0 (0:Int) (59:Int)).2)).set (1:Int).toNat ((ag g2 (0:Int) (23:Int)).2)).set (2:Int).toNat ((ag g4 (1:Int) (31:Int)).2)).set (3:Int).toNat ((ag g6 (1:Int) (12:Int)).2)).map etB).set (0+(4:Int).toNat) (ar (etB g9) 0 [tB ((ag g8 (0:Int) (6:Int)).2)])=((((((List.replicate (5:Int).toNat false).set (0:Int).toNat ((ag g0 (0:Int) (59:Int)).2)).set (1:Int).toNat ((ag g2 (0:Int) (23:Int)).2)).set (2:Int).toNat ((ag g4 (1:Int) (31:Int)).2)).set (3:Int).toNat ((ag g6 (1:Int) (12:Int)).2)).set (4:Int).toNat ((ag g8 (0:Int) (6:Int)).2)).map etB) (ed (by rfl))<|AL h23<|AN))
   | x0 =>
    have h23:=hy
    exact KX (DP Tryz.f34 [.ret [(false,[.s .own () 1 (((aG x0).1).map etS)]),(false,[tB true])],.val (.int .i64 (((aG x0).1).length:Int)),.b false,.rows ((List.replicate (5:Int).toNat false).map etB),.row (etS g0),.ret [(false,[.s .own () 1 (((ag g0 (0:Int) (59:Int)).1).map etI)]),(false,[tB ((ag g0 (0:Int) (59:Int)).2)])],.row (etB g1),.rows (((List.replicate (5:Int).toNat false).set (0:Int).toNat ((ag g0 (0:Int) (59:Int)).2)).map etB),.row (etS g2),.ret [(false,[.s .own () 1 (((ag g2 (0:Int) (23:Int)).1).map etI)]),(false,[tB ((ag g2 (0:Int) (23:Int)).2)])],.row (etB g3),.rows ((((List.replicate (5:Int).toNat false).set (0:Int).toNat ((ag g0 (0:Int) (59:Int)).2)).set (1:Int).toNat ((ag g2 (0:Int) (23:Int)).2)).map etB),.row (etS g4),.ret [(false,[.s .own () 1 (((ag g4 (1:Int) (31:Int)).1).map etI)]),(false,[tB ((ag g4 (1:Int) (31:Int)).2)])],.row (etB g5),.rows (((((List.replicate (5:Int).toNat false).set (0:Int).toNat ((ag g0 (0:Int) (59:Int)).2)).set (1:Int).toNat ((ag g2 (0:Int) (23:Int)).2)).set (2:Int).toNat ((ag g4 (1:Int) (31:Int)).2)).map etB),.row (etS g6),.ret [(false,[.s .own () 1 (((ag g6 (1:Int) (12:Int)).1).map etI)]),(false,[tB ((ag g6 (1:Int) (12:Int)).2)])],.row (etB g7),.rows ((((((List.replicate (5:Int).toNat false).set (0:Int).toNat ((ag g0 (0:Int) (59:Int)).2)).set (1:Int).toNat ((ag g2 (0:Int) (23:Int)).2)).set (2:Int).toNat ((ag g4 (1:Int) (31:Int)).2)).set (3:Int).toNat ((ag g6 (1:Int) (12:Int)).2)).map etB),.row (etS g8),.ret [(false,[.s .own () 1 (((ag g8 (0:Int) (6:Int)).1).map etI)]),(false,[tB ((ag g8 (0:Int) (6:Int)).2)])],.row (etB g9),.rows (((((((List.replicate (5:Int).toNat false).set (0:Int).toNat ((ag g0 (0:Int) (59:Int)).2)).set (1:Int).toNat ((ag g2 (0:Int) (23:Int)).2)).set (2:Int).toNat ((ag g4 (1:Int) (31:Int)).2)).set (3:Int).toNat ((ag g6 (1:Int) (12:Int)).2)).set (4:Int).toNat ((ag g8 (0:Int) (6:Int)).2)).map etB),.lp (.exit 0) (lE ([]) ([]) ([]) ([]) ([]) ((ag g0 (0:Int) (59:Int)).1) ((ag g2 (0:Int) (23:Int)).1) ((ag g4 (1:Int) (31:Int)).1) ((ag g6 (1:Int) (12:Int)).1) ((ag g8 (0:Int) (6:Int)).1))] (AD (k7 x0 h0)<|ALn ((aG x0).1) etS<|AC h1<|AC h2<|AC (p:=List.replicate (5:Int).toNat [tB false]=(List.replicate (5:Int).toNat false).map etB) (pj rfl)<|AG etS h3<|AD (dJ g0 (0:Int) (59:Int) h4 h5)<|AG etB h6<|AC (p:=((List.replicate (5:Int).toNat false).map etB).set (0+(0:Int).toNat) (ar (etB g1) 0 [tB ((ag g0 (0:Int) (59:Int)).2)])=((List.replicate (5:Int).toNat false).set (0:Int).toNat ((ag g0 (0:Int) (59:Int)).2)).map etB) (ed (by rfl))<|AG etS h7<|AD (dJ g2 (0:Int) (23:Int) h8 h9)<|AG etB h10<|AC (p:=(((List.replicate (5:Int).toNat false).set (0:Int).toNat ((ag g0 (0:Int) (59:Int)).2)).map etB).set (0+(1:Int).toNat) (ar (etB g3) 0 [tB ((ag g2 (0:Int) (23:Int)).2)])=(((List.replicate (5:Int).toNat false).set (0:Int).toNat ((ag g0 (0:Int) (59:Int)).2)).set (1:Int).toNat ((ag g2 (0:Int) (23:Int)).2)).map etB) (ed (by rfl))<|AG etS h11<|AD (dJ g4 (1:Int) (31:Int) h12 h13)<|AG etB h14<|AC (p:=((((List.replicate (5:Int).toNat false).set (0:Int).toNat ((ag g0 (0:Int) (59:Int)).2)).set (1:Int).toNat ((ag g2 (0:Int) (23:Int)).2)).map etB).set (0+(2:Int).toNat) (ar (etB g5) 0 [tB ((ag g4 (1:Int) (31:Int)).2)])=((((List.replicate (5:Int).toNat false).set (0:Int).toNat ((ag g0 (0:Int) (59:Int)).2)).set (1:Int).toNat ((ag g2 (0:Int) (23:Int)).2)).set (2:Int).toNat ((ag g4 (1:Int) (31:Int)).2)).map etB) (ed (by rfl))<|AG etS h15<|AD (dJ g6 (1:Int) (12:Int) h16 h17)<|AG etB h18<|AC (p:=(((((List.replicate (5:Int).toNat false).set (0:Int).toNat ((ag g0 (0:Int) (59:Int)).2)).set (1:Int).toNat ((ag g2 (0:Int) (23:Int)).2)).set (2:Int).toNat ((ag g4 (1:Int) (31:Int)).2)).map etB).set (0+(3:Int).toNat) (ar (etB g7) 0 [tB ((ag g6 (1:Int) (12:Int)).2)])=(((((List.replicate (5:Int).toNat false).set (0:Int).toNat ((ag g0 (0:Int) (59:Int)).2)).set (1:Int).toNat ((ag g2 (0:Int) (23:Int)).2)).set (2:Int).toNat ((ag g4 (1:Int) (31:Int)).2)).set (3:Int).toNat ((ag g6 (1:Int) (12:Int)).2)).map etB) (ed (by rfl))<|AG etS h19<|AD (dJ g8 (0:Int) (6:Int) h20 h21)<|AG etB h22<|AC (p:=((((((List.replicate (5:Int).toNat false).set (0:Int).toNat ((ag g0 (0:Int) (59:Int)).2)).set (1:Int).toNat ((ag g2 (0:Int) (23:Int)).2)).set (2:Int).toNat ((ag g4 (1:Int) (31:Int)).2)).set (3:Int).toNat ((ag g6 (1:Int) (12:Int)).2)).map etB).set (0+(4:Int).toNat) (ar (etB g9) 0 [tB ((ag g8 (0:Int) (6:Int)).2)])=((((((List.replicate (5:Int).toNat false).set (0:Int).toNat ((ag g0 (0:Int) (59:Int)).2)).set (1:Int).toNat ((ag g2 (0:Int) (23:Int)).2)).set (2:Int).toNat ((ag g4 (1:Int) (31:Int)).2)).set (3:Int).toNat ((ag g6 (1:Int) (12:Int)).2)).set (4:Int).toNat ((ag g8 (0:Int) (6:Int)).2)).map etB) (ed (by rfl))<|AL h23<|AN))
 ·exact KX (DP Tryz.f34 [.ret [(false,[.s .own () 1 (((aG x0).1).map etS)]),(false,[tB false])]] (AD (k7 x0 h0)<|AN))
inductive qV where
 | ret (v2_0 v2_1 v2_2 v2_3 v2_4:List Int) (v3:Bool)
 | x0 (v6_0 v6_1 v6_2 v6_3 v6_4:List Int)
def bf (v2_0 v2_1 v2_2 v2_3 v2_4:List Int) (v4:List ByteArray) (v6_0 v6_1 v6_2 v6_3 v6_4:List Int) (v25:Int):US:=stL 46 [(2,.box () [.s .own () 1 (v2_0.map etI),.s .own () 1 (v2_1.map etI),.s .own () 1 (v2_2.map etI),.s .own () 1 (v2_3.map etI),.s .own () 1 (v2_4.map etI)]),(4,.one (.s .own () 1 (v4.map etS))),(6,.box () [.s .own () 1 (v6_0.map etI),.s .own () 1 (v6_1.map etI),.s .own () 1 (v6_2.map etI),.s .own () 1 (v6_3.map etI),.s .own () 1 (v6_4.map etI)]),(24,.clo (.arr [0,1,2,3,4]) [6,6,6,6,6]),(25,.one (tI v25))]
def dw (zv2_0 zv2_1 zv2_2 zv2_3 zv2_4:List Int) (zv3:Bool):US:=stL 46 [(2,.box () [.s .own () 1 (zv2_0.map etI),.s .own () 1 (zv2_1.map etI),.s .own () 1 (zv2_2.map etI),.s .own () 1 (zv2_3.map etI),.s .own () 1 (zv2_4.map etI)]),(3,.one (tB zv3))]
def lv (v2_0 v2_1 v2_2 v2_3 v2_4 zv6_0 zv6_1 zv6_2 zv6_3 zv6_4:List Int):US:=stL 46 [(2,.box () [.s .own () 1 (v2_0.map etI),.s .own () 1 (v2_1.map etI),.s .own () 1 (v2_2.map etI),.s .own () 1 (v2_3.map etI),.s .own () 1 (v2_4.map etI)]),(6,.box () [.s .own () 1 (zv6_0.map etI),.s .own () 1 (zv6_1.map etI),.s .own () 1 (zv6_2.map etI),.s .own () 1 (zv6_3.map etI),.s .own () 1 (zv6_4.map etI)])]
abbrev cp:US→Exit→US→Prop:=Round E 64 (aw Tryz.f64 0)
def yn (v2_0 v2_1 v2_2 v2_3 v2_4:List Int) (v4:List ByteArray) (v6_0 v6_1 v6_2 v6_3 v6_4:List Int) (v25:Int):qV→Prop
 | .ret zv2_0 zv2_1 zv2_2 zv2_3 zv2_4 zv3=>Loops E 64 (aw Tryz.f64 0) (bf v2_0 v2_1 v2_2 v2_3 v2_4 v4 v6_0 v6_1 v6_2 v6_3 v6_4 v25) .ret (dw zv2_0 zv2_1 zv2_2 zv2_3 zv2_4 zv3)
 | .x0 zv6_0 zv6_1 zv6_2 zv6_3 zv6_4=>Loops E 64 (aw Tryz.f64 0) (bf v2_0 v2_1 v2_2 v2_3 v2_4 v4 v6_0 v6_1 v6_2 v6_3 v6_4 v25) (.exit 0) (lv v2_0 v2_1 v2_2 v2_3 v2_4 zv6_0 zv6_1 zv6_2 zv6_3 zv6_4)
noncomputable def aJ (v4:List ByteArray):Nat→(List Int)→(List Int)→(List Int)→(List Int)→(List Int)→Int→Option qV
 | 0,_,_,_,_,_,_=>none
 | n+1,v6_0,v6_1,v6_2,v6_3,v6_4,v25=>cond (decide (v25<(5:Int)))
  (cond (v25==(0:Int))
   ((aA v4 v25).bind fun g0=>if g0.size≤2000000 then cond ((aL g0 v25).2)
    (aJ v4 n ((aL g0 v25).1) v6_1 v6_2 v6_3 v6_4 (inc v25))
    (some (.ret ([]) ([]) ([]) ([]) ([]) false)) else none)
   (cond (v25==(1:Int))
    ((aA v4 v25).bind fun g0=>if g0.size≤2000000 then cond ((aL g0 v25).2)
     (aJ v4 n v6_0 ((aL g0 v25).1) v6_2 v6_3 v6_4 (inc v25))
     (some (.ret ([]) ([]) ([]) ([]) ([]) false)) else none)
    (cond (v25==(2:Int))
     ((aA v4 v25).bind fun g0=>if g0.size≤2000000 then cond ((aL g0 v25).2)
      (aJ v4 n v6_0 v6_1 ((aL g0 v25).1) v6_3 v6_4 (inc v25))
      (some (.ret ([]) ([]) ([]) ([]) ([]) false)) else none)
     (cond (v25==(3:Int))
      ((aA v4 v25).bind fun g0=>if g0.size≤2000000 then cond ((aL g0 v25).2)
       (aJ v4 n v6_0 v6_1 v6_2 ((aL g0 v25).1) v6_4 (inc v25))
       (some (.ret ([]) ([]) ([]) ([]) ([]) false)) else none)
      (if v25=(4:Int) then (aA v4 v25).bind fun g0=>if g0.size≤2000000 then cond ((aL g0 v25).2)
       (aJ v4 n v6_0 v6_1 v6_2 v6_3 ((aL g0 v25).1) (inc v25))
       (some (.ret ([]) ([]) ([]) ([]) ([]) false)) else none else none)))))
  (some (.x0 v6_0 v6_1 v6_2 v6_3 v6_4))
theorem ym (v2_0 v2_1 v2_2 v2_3 v2_4:List Int) (v4:List ByteArray) (n:Nat):∀ (v6_0 v6_1 v6_2 v6_3 v6_4:List Int) (v25:Int),Ans (aJ v4 n v6_0 v6_1 v6_2 v6_3 v6_4 v25) (yn v2_0 v2_1 v2_2 v2_3 v2_4 v4 v6_0 v6_1 v6_2 v6_3 v6_4 v25):=by
 induction n with
 | zero=>intros;exact Ans.none
 | succ n ih =>
  intro v6_0 v6_1 v6_2 v6_3 v6_4 v25
  unfold aJ
  apply K0<;>intro h0
  ·apply K0<;>intro h1
   ·refine K1 (fun g0 h2 => ?_)
    refine K2 (fun h3 => ?_)
    apply K0<;>intro h4
    ·have r:cp (bf v2_0 v2_1 v2_2 v2_3 v2_4 v4 v6_0 v6_1 v6_2 v6_3 v6_4 v25) .normal (bf v2_0 v2_1 v2_2 v2_3 v2_4 v4 ((aL g0 v25).1) v6_1 v6_2 v6_3 v6_4 (inc v25)):=RP [.b true,.val (.int .i64 0),.row (etS g0),.ret [(false,[.s .own () 1 (((aL g0 v25).1).map etI)]),(false,[tB true])]] (AC h0<|AC (p:=v25=(0:Int)) (eq_of_beq h1)<|AG etS h2<|AD (bZ g0 v25 h3 h4)<|AN);exact (ih ((aL g0 v25).1) v6_1 v6_2 v6_3 v6_4 (inc v25)).mono fun y hy=>by cases y<;>exact KY r hy
    ·exact KX (KZ (show cp (bf v2_0 v2_1 v2_2 v2_3 v2_4 v4 v6_0 v6_1 v6_2 v6_3 v6_4 v25) .ret (dw ([]) ([]) ([]) ([]) ([]) false) from RP [.b true,.val (.int .i64 0),.row (etS g0),.ret [(false,[.s .own () 1 (((aL g0 v25).1).map etI)]),(false,[tB false])]] (AC h0<|AC (p:=v25=(0:Int)) (eq_of_beq h1)<|AG etS h2<|AD (bZ g0 v25 h3 h4)<|AN)) (by intro h;cases h))
   ·apply K0<;>intro h2
    ·refine K1 (fun g0 h3 => ?_)
     refine K2 (fun h4 => ?_)
     apply K0<;>intro h5
     ·have r:cp (bf v2_0 v2_1 v2_2 v2_3 v2_4 v4 v6_0 v6_1 v6_2 v6_3 v6_4 v25) .normal (bf v2_0 v2_1 v2_2 v2_3 v2_4 v4 v6_0 ((aL g0 v25).1) v6_2 v6_3 v6_4 (inc v25)):=RP [.b true,.val (.int .i64 1),.row (etS g0),.ret [(false,[.s .own () 1 (((aL g0 v25).1).map etI)]),(false,[tB true])]] (AC h0<|AC (p:=v25=(1:Int)) (eq_of_beq h2)<|AG etS h3<|AD (bZ g0 v25 h4 h5)<|AN);exact (ih v6_0 ((aL g0 v25).1) v6_2 v6_3 v6_4 (inc v25)).mono fun y hy=>by cases y<;>exact KY r hy
     ·exact KX (KZ (show cp (bf v2_0 v2_1 v2_2 v2_3 v2_4 v4 v6_0 v6_1 v6_2 v6_3 v6_4 v25) .ret (dw ([]) ([]) ([]) ([]) ([]) false) from RP [.b true,.val (.int .i64 1),.row (etS g0),.ret [(false,[.s .own () 1 (((aL g0 v25).1).map etI)]),(false,[tB false])]] (AC h0<|AC (p:=v25=(1:Int)) (eq_of_beq h2)<|AG etS h3<|AD (bZ g0 v25 h4 h5)<|AN)) (by intro h;cases h))
    ·apply K0<;>intro h3
     ·refine K1 (fun g0 h4 => ?_)
      refine K2 (fun h5 => ?_)
      apply K0<;>intro h6
      ·have r:cp (bf v2_0 v2_1 v2_2 v2_3 v2_4 v4 v6_0 v6_1 v6_2 v6_3 v6_4 v25) .normal (bf v2_0 v2_1 v2_2 v2_3 v2_4 v4 v6_0 v6_1 ((aL g0 v25).1) v6_3 v6_4 (inc v25)):=RP [.b true,.val (.int .i64 2),.row (etS g0),.ret [(false,[.s .own () 1 (((aL g0 v25).1).map etI)]),(false,[tB true])]] (AC h0<|AC (p:=v25=(2:Int)) (eq_of_beq h3)<|AG etS h4<|AD (bZ g0 v25 h5 h6)<|AN);exact (ih v6_0 v6_1 ((aL g0 v25).1) v6_3 v6_4 (inc v25)).mono fun y hy=>by cases y<;>exact KY r hy
      ·exact KX (KZ (show cp (bf v2_0 v2_1 v2_2 v2_3 v2_4 v4 v6_0 v6_1 v6_2 v6_3 v6_4 v25) .ret (dw ([]) ([]) ([]) ([]) ([]) false) from RP [.b true,.val (.int .i64 2),.row (etS g0),.ret [(false,[.s .own () 1 (((aL g0 v25).1).map etI)]),(false,[tB false])]] (AC h0<|AC (p:=v25=(2:Int)) (eq_of_beq h3)<|AG etS h4<|AD (bZ g0 v25 h5 h6)<|AN)) (by intro h;cases h))
     ·apply K0<;>intro h4
      ·refine K1 (fun g0 h5 => ?_)
       refine K2 (fun h6 => ?_)
       apply K0<;>intro h7
       ·have r:cp (bf v2_0 v2_1 v2_2 v2_3 v2_4 v4 v6_0 v6_1 v6_2 v6_3 v6_4 v25) .normal (bf v2_0 v2_1 v2_2 v2_3 v2_4 v4 v6_0 v6_1 v6_2 ((aL g0 v25).1) v6_4 (inc v25)):=RP [.b true,.val (.int .i64 3),.row (etS g0),.ret [(false,[.s .own () 1 (((aL g0 v25).1).map etI)]),(false,[tB true])]] (AC h0<|AC (p:=v25=(3:Int)) (eq_of_beq h4)<|AG etS h5<|AD (bZ g0 v25 h6 h7)<|AN);exact (ih v6_0 v6_1 v6_2 ((aL g0 v25).1) v6_4 (inc v25)).mono fun y hy=>by cases y<;>exact KY r hy
       ·exact KX (KZ (show cp (bf v2_0 v2_1 v2_2 v2_3 v2_4 v4 v6_0 v6_1 v6_2 v6_3 v6_4 v25) .ret (dw ([]) ([]) ([]) ([]) ([]) false) from RP [.b true,.val (.int .i64 3),.row (etS g0),.ret [(false,[.s .own () 1 (((aL g0 v25).1).map etI)]),(false,[tB false])]] (AC h0<|AC (p:=v25=(3:Int)) (eq_of_beq h4)<|AG etS h5<|AD (bZ g0 v25 h6 h7)<|AN)) (by intro h;cases h))
      ·refine K2 (fun h5 => ?_)
       refine K1 (fun g0 h6 => ?_)
       refine K2 (fun h7 => ?_)
       apply K0<;>intro h8
       ·have r:cp (bf v2_0 v2_1 v2_2 v2_3 v2_4 v4 v6_0 v6_1 v6_2 v6_3 v6_4 v25) .normal (bf v2_0 v2_1 v2_2 v2_3 v2_4 v4 v6_0 v6_1 v6_2 v6_3 ((aL g0 v25).1) (inc v25)):=RP [.b true,.val (.int .i64 4),.row (etS g0),.ret [(false,[.s .own () 1 (((aL g0 v25).1).map etI)]),(false,[tB true])]] (AC h0<|AC h5<|AG etS h6<|AD (bZ g0 v25 h7 h8)<|AN);exact (ih v6_0 v6_1 v6_2 v6_3 ((aL g0 v25).1) (inc v25)).mono fun y hy=>by cases y<;>exact KY r hy
       ·exact KX (KZ (show cp (bf v2_0 v2_1 v2_2 v2_3 v2_4 v4 v6_0 v6_1 v6_2 v6_3 v6_4 v25) .ret (dw ([]) ([]) ([]) ([]) ([]) false) from RP [.b true,.val (.int .i64 4),.row (etS g0),.ret [(false,[.s .own () 1 (((aL g0 v25).1).map etI)]),(false,[tB false])]] (AC h0<|AC h5<|AG etS h6<|AD (bZ g0 v25 h7 h8)<|AN)) (by intro h;cases h))
  ·exact KX (KZ (show cp (bf v2_0 v2_1 v2_2 v2_3 v2_4 v4 v6_0 v6_1 v6_2 v6_3 v6_4 v25) (.exit 0) (lv v2_0 v2_1 v2_2 v2_3 v2_4 v6_0 v6_1 v6_2 v6_3 v6_4) from RP [.b false] (AC h0<|AN)) (by intro h;cases h))
noncomputable def k9 (x0:ByteArray):Option (GCron×Bool) :=
  cond ((aG x0).2)
   (cond ((((aG x0).1).length:Int) != (5:Int))
    (some ((GCron.mk ([]:List Int) ([]:List Int) ([]:List Int) ([]:List Int) ([]:List Int)),false))
    ((aJ ((aG x0).1) 9223372036854775808 ([]) ([]) ([]) ([]) ([]) (0:Int)).bind fun y=>match y with
     | .ret w0_2_0 w0_2_1 w0_2_2 w0_2_3 w0_2_4 w0_3=>(some ((GCron.mk w0_2_0 w0_2_1 w0_2_2 w0_2_3 w0_2_4),w0_3))
     | .x0 w0_6_0 w0_6_1 w0_6_2 w0_6_3 w0_6_4=>(some ((GCron.mk w0_6_0 w0_6_1 w0_6_2 w0_6_3 w0_6_4),true))))
   (some ((GCron.mk ([]:List Int) ([]:List Int) ([]:List Int) ([]:List Int) ([]:List Int)),false))
theorem zY (x0:ByteArray):Ans (k9 x0) (fun r=>Does E 64 [.one (tS x0)] [(true,GCron.t .own r.1),(false,[tB r.2])]):=by
 unfold k9
 apply K0<;>intro h0
 ·apply K0<;>intro h1
  ·exact KX (DP Tryz.f64 [.ret [(false,[.s .own () 1 (((aG x0).1).map etS)]),(false,[tB true])],.val (.int .i64 (((aG x0).1).length:Int)),.b true] (AD (k6 x0 h0)<|ALn ((aG x0).1) etS<|AC h1<|AN))
  ·refine K1 (fun y hy => ?_)
   replace hy:=ym ([]) ([]) ([]) ([]) ([]) ((aG x0).1) 9223372036854775808 ([]) ([]) ([]) ([]) ([]) (0:Int) y hy
   cases y with
   | ret w0_2_0 w0_2_1 w0_2_2 w0_2_3 w0_2_4 w0_3 =>
    have h2:=hy
    exact KX (DP Tryz.f64 [.ret [(false,[.s .own () 1 (((aG x0).1).map etS)]),(false,[tB true])],.val (.int .i64 (((aG x0).1).length:Int)),.b false,.lp .ret (dw w0_2_0 w0_2_1 w0_2_2 w0_2_3 w0_2_4 w0_3)] (AD (k6 x0 h0)<|ALn ((aG x0).1) etS<|AC h1<|AL h2<|AN))
   | x0 w0_6_0 w0_6_1 w0_6_2 w0_6_3 w0_6_4 =>
    have h2:=hy
    exact KX (DP Tryz.f64 [.ret [(false,[.s .own () 1 (((aG x0).1).map etS)]),(false,[tB true])],.val (.int .i64 (((aG x0).1).length:Int)),.b false,.lp (.exit 0) (lv ([]) ([]) ([]) ([]) ([]) w0_6_0 w0_6_1 w0_6_2 w0_6_3 w0_6_4)] (AD (k6 x0 h0)<|ALn ((aG x0).1) etS<|AC h1<|AL h2<|AN))
 ·exact KX (DP Tryz.f64 [.ret [(false,[.s .own () 1 (((aG x0).1).map etS)]),(false,[tB false])]] (AD (k6 x0 h0)<|AN))
def noCron:GCron:=⟨[],[],[],[],[]⟩
noncomputable def rH (a b c d e:ByteArray):GCron×Bool :=
 cond (ag a 0 59).2 (cond (ag b 0 23).2 (cond (ag c 1 31).2 (cond (ag d 1 12).2 (cond (ag e 0 6).2
  (⟨(ag a 0 59).1,(ag b 0 23).1,(ag c 1 31).1,(ag d 1 12).1,(ag e 0 6).1⟩,true) (noCron,false)) (noCron,false)) (noCron,false)) (noCron,false)) (noCron,false)
noncomputable def Bf:List ByteArray→GCron×Bool
 | [a,b,c,d,e]=>rH a b c d e
 | _=>(noCron,false)
noncomputable def aq (s:ByteArray):GCron×Bool:=Bf (aG s).1
theorem xB {s:ByteArray} (h:(aG s).2=false):(aG s).1=[]:=by
 unfold aG at h ⊢
 split
 ·rfl
 ·rename_i h0
  rw [if_neg h0] at h
  split
  ·rename_i h1
   rw [if_pos h1] at h
   split
   ·rfl
   ·rename_i h2
    rw [if_neg h2] at h;cases h
  ·rfl
theorem Ib {α:Type} {l:List α} (h:l.length=5):∃ a b c d e,l=[a,b,c,d,e]:=by
 match l,h with
 | [a,b,c,d,e],_=>exact ⟨a,b,c,d,e,rfl⟩
theorem tK {l:List ByteArray} (h:l.length≠5):Bf l=(noCron,false):=by
 unfold Bf
 split
 ·exact absurd rfl h
 ·rfl
theorem JL (a b c d e:Bool) (n:Nat):gf [a,b,c,d,e] (n+6) 0=some (cond a (cond b (cond c (cond d (cond e .x0 (.ret [] [] [] [] [] false)) (.ret [] [] [] [] [] false)) (.ret [] [] [] [] [] false)) (.ret [] [] [] [] [] false)) (.ret [] [] [] [] [] false)):=by
 cases a<;>cases b<;>cases c<;>cases d<;>cases e<;>rfl
theorem Jf (s:ByteArray):lj s=some (aq s):=by
 unfold lj aq
 cases q:(aG s).2 with
 | false =>
  rw [xB q];rfl
 | true =>
  rw [cond_true]
  by_cases h:(aG s).1.length=5
  ·obtain ⟨a,b,c,d,e,hl⟩:=Ib h
   have hm:∀ p∈[a,b,c,d,e],p.size≤2000000:=fun p hp=>by
    rw [← hl] at hp
    have:=qr hp
    omega
   have ha:(a.size≤2000000)=True:=eq_true (hm a (by simp))
   have hb:(b.size≤2000000)=True:=eq_true (hm b (by simp))
   have hc:(c.size≤2000000)=True:=eq_true (hm c (by simp))
   have hd:(d.size≤2000000)=True:=eq_true (hm d (by simp))
   have he:(e.size≤2000000)=True:=eq_true (hm e (by simp))
   have e5:((([a,b,c,d,e]:List ByteArray).length:Int) != 5)=false:=rfl
   rw [hl,e5,cond_false,if_pos (by decide)]
   have g0:aA [a,b,c,d,e] (0:Int)=some a:=rfl
   have g1:aA [a,b,c,d,e] (1:Int)=some b:=rfl
   have g2:aA [a,b,c,d,e] (2:Int)=some c:=rfl
   have g3:aA [a,b,c,d,e] (3:Int)=some d:=rfl
   have g4:aA [a,b,c,d,e] (4:Int)=some e:=rfl
   have b0:((0:Int)≤0∧(0:Int)≤59∧(59:Int)≤59)=True:=eq_true (by decide)
   have b1:((0:Int)≤0∧(0:Int)≤23∧(23:Int)≤59)=True:=eq_true (by decide)
   have b2:((0:Int)≤1∧(1:Int)≤31∧(31:Int)≤59)=True:=eq_true (by decide)
   have b3:((0:Int)≤1∧(1:Int)≤12∧(12:Int)≤59)=True:=eq_true (by decide)
   have b4:((0:Int)≤0∧(0:Int)≤6∧(6:Int)≤59)=True:=eq_true (by decide)
   simp only [g0,g1,g2,g3,g4,Option.bind_some,ha,hb,hc,hd,he,b0,b1,b2,b3,b4,if_true]
   show (gf [(ag a 0 59).2,(ag b 0 23).2,(ag c 1 31).2,(ag d 1 12).2,(ag e 0 6).2] (9223372036854775802+6) 0).bind _=some (rH a b c d e)
   rw [JL]
   unfold rH
   cases (ag a 0 59).2<;>cases (ag b 0 23).2<;>cases (ag c 1 31).2<;>cases (ag d 1 12).2<;>cases (ag e 0 6).2<;>rfl
  ·have e5:(((aG s).1.length:Int) != 5)=true:=by rw [bne_iff_ne];omega
   rw [e5,cond_true,tK h];rfl
theorem Je (s:ByteArray):k9 s=some (aq s):=by
 unfold k9 aq
 cases q:(aG s).2 with
 | false =>
  rw [xB q];rfl
 | true =>
  rw [cond_true]
  by_cases h:(aG s).1.length=5
  ·obtain ⟨a,b,c,d,e,hl⟩:=Ib h
   have hm:∀ p∈[a,b,c,d,e],p.size≤2000000:=fun p hp=>by
    rw [← hl] at hp
    have:=qr hp
    omega
   have e5:((([a,b,c,d,e]:List ByteArray).length:Int) != 5)=false:=rfl
   rw [hl,e5,cond_false]
   have s0:∀ n v0 v1 v2 v3 v4,aJ [a,b,c,d,e] (n+1) v0 v1 v2 v3 v4 0=cond (ag a 0 59).2 (aJ [a,b,c,d,e] n (ag a 0 59).1 v1 v2 v3 v4 1) (some (.ret [] [] [] [] [] false)):=fun n v0 v1 v2 v3 v4=>by
    conv=>lhs;unfold aJ
    show (if a.size≤2000000 then _ else none)=_
    rw [if_pos (hm a (by simp))];rfl
   have s1:∀ n v0 v1 v2 v3 v4,aJ [a,b,c,d,e] (n+1) v0 v1 v2 v3 v4 1=cond (ag b 0 23).2 (aJ [a,b,c,d,e] n v0 (ag b 0 23).1 v2 v3 v4 2) (some (.ret [] [] [] [] [] false)):=fun n v0 v1 v2 v3 v4=>by
    conv=>lhs;unfold aJ
    show (if b.size≤2000000 then _ else none)=_
    rw [if_pos (hm b (by simp))];rfl
   have s2:∀ n v0 v1 v2 v3 v4,aJ [a,b,c,d,e] (n+1) v0 v1 v2 v3 v4 2=cond (ag c 1 31).2 (aJ [a,b,c,d,e] n v0 v1 (ag c 1 31).1 v3 v4 3) (some (.ret [] [] [] [] [] false)):=fun n v0 v1 v2 v3 v4=>by
    conv=>lhs;unfold aJ
    show (if c.size≤2000000 then _ else none)=_
    rw [if_pos (hm c (by simp))];rfl
   have s3:∀ n v0 v1 v2 v3 v4,aJ [a,b,c,d,e] (n+1) v0 v1 v2 v3 v4 3=cond (ag d 1 12).2 (aJ [a,b,c,d,e] n v0 v1 v2 (ag d 1 12).1 v4 4) (some (.ret [] [] [] [] [] false)):=fun n v0 v1 v2 v3 v4=>by
    conv=>lhs;unfold aJ
    show (if d.size≤2000000 then _ else none)=_
    rw [if_pos (hm d (by simp))];rfl
   have s4:∀ n v0 v1 v2 v3 v4,aJ [a,b,c,d,e] (n+1) v0 v1 v2 v3 v4 4=cond (ag e 0 6).2 (aJ [a,b,c,d,e] n v0 v1 v2 v3 (ag e 0 6).1 5) (some (.ret [] [] [] [] [] false)):=fun n v0 v1 v2 v3 v4=>by
    conv=>lhs;unfold aJ
    show (if (4:Int)=4 then (if e.size≤2000000 then _ else none) else none)=_
    rw [if_pos rfl,if_pos (hm e (by simp))];rfl
   have s5:∀ n v0 v1 v2 v3 v4,aJ [a,b,c,d,e] (n+1) v0 v1 v2 v3 v4 5=some (.x0 v0 v1 v2 v3 v4):=fun n v0 v1 v2 v3 v4=>rfl
   have st:aJ [a,b,c,d,e] (9223372036854775802+6) [] [] [] [] [] 0=_:=s0 _ _ _ _ _ _
   rw [s1,s2,s3,s4,s5] at st
   refine (congrArg (Option.bind · _) st).trans ?_
   show _=some (rH a b c d e)
   unfold rH
   cases (ag a 0 59).2<;>cases (ag b 0 23).2<;>cases (ag c 1 31).2<;>cases (ag d 1 12).2<;>cases (ag e 0 6).2<;>rfl
  ·have e5:(((aG s).1.length:Int) != 5)=true:=by rw [bne_iff_ne];omega
   rw [e5,cond_true,tK h];rfl
theorem qS {lo hi:Int} {s:ByteArray} (hs:s.size≤2000000) (hb:0≤lo∧lo≤hi∧hi≤59):am.sm (ag s lo hi).1:=by
 rcases (wa s lo hi hs hb).2.1 with h | h
 ·rw [h.2];exact ⟨by decide,fun y hy=>by cases hy⟩
 ·exact ⟨by have:=h.2.2.2.2;omega,fun y hy=>trivial⟩
theorem zD:am.sm noCron:=⟨⟨by decide,fun y hy=>by cases hy⟩,⟨by decide,fun y hy=>by cases hy⟩,⟨by decide,fun y hy=>by cases hy⟩,⟨by decide,fun y hy=>by cases hy⟩,⟨by decide,fun y hy=>by cases hy⟩⟩
theorem Cj (s:ByteArray):am.sm (aq s).1:=by
 unfold aq
 by_cases h:(aG s).1.length=5
 ·obtain ⟨a,b,c,d,e,hl⟩:=Ib h
  have hm:∀ p∈[a,b,c,d,e],p.size≤2000000:=fun p hp=>by
   rw [← hl] at hp
   have:=qr hp
   omega
  rw [hl]
  show am.sm (rH a b c d e).1
  unfold rH
  have:=qS (lo:=0) (hi:=59) (hm a (by simp)) (by decide)
  have:=qS (lo:=0) (hi:=23) (hm b (by simp)) (by decide)
  have:=qS (lo:=1) (hi:=31) (hm c (by simp)) (by decide)
  have:=qS (lo:=1) (hi:=12) (hm d (by simp)) (by decide)
  have:=qS (lo:=0) (hi:=6) (hm e (by simp)) (by decide)
  cases (ag a 0 59).2<;>cases (ag b 0 23).2<;>cases (ag c 1 31).2<;>cases (ag d 1 12).2<;>cases (ag e 0 6).2<;>first | exact zD | exact ⟨by assumption,by assumption,by assumption,by assumption,by assumption⟩
 ·rw [tK h];exact zD
theorem nJ (x0:ByteArray):Does E 34 [.one (tS x0)] [(true,GCron.t .own ((aq x0).1)),(false,[tB ((aq x0).2)])]:=by
 exact An x0 _ (Jf x0)
theorem en (x0:ByteArray) {bb:Bool} (hbb:(aq x0).2=bb):Does E 34 [.one (tS x0)] [(true,GCron.t .own ((aq x0).1)),(false,[tB bb])]:=by rw [← hbb];exact nJ x0
theorem zL (x0:ByteArray):Does E 64 [.one (tS x0)] [(true,GCron.t .own ((aq x0).1)),(false,[tB ((aq x0).2)])]:=by
 exact zY x0 _ (Je x0)
theorem pC (x0:ByteArray) {bb:Bool} (hbb:(aq x0).2=bb):Does E 64 [.one (tS x0)] [(true,GCron.t .own ((aq x0).1)),(false,[tB bb])]:=by rw [← hbb];exact zL x0
end Go.Proofs.YtdcbjglpdbcjpaaGreatDoor.Am
namespace Go.Proofs.YtdcbjglpdbcjpaaGreatDoor.Am
open Go Go.Proofs Classical
set_option maxRecDepth 100000
set_option linter.unusedVariables false
set_option linter.unusedSimpArgs false
inductive xJ where
 | ret (v4:Bool)
 | x0 
def kA (v0:List Int) (v1 v5:Int):US:=stL 18 [(0,.one (.s .far () 1 (v0.map etI))),(1,.one (tI v1)),(5,.one (tI v5))]
def ob (zv4:Bool):US:=stL 18 [(4,.one (tB zv4))]
def pp  : US:=stL 18 []
abbrev su:US→Exit→US→Prop:=Round E 39 (aw Tryz.f39 0)
def F0 (v0:List Int) (v1 v5:Int):xJ→Prop
 | .ret zv4=>Loops E 39 (aw Tryz.f39 0) (kA v0 v1 v5) .ret (ob zv4)
 | .x0=>Loops E 39 (aw Tryz.f39 0) (kA v0 v1 v5) (.exit 0) (pp)
noncomputable def iY (v1:Int):List Int→Nat→Option xJ
 | [],i=>some (.x0)
 | hd::rest,i=>cond (hd==v1)
  (some (.ret true))
  (iY v1 rest (i+1))
theorem FZ (v0:List Int) (v1:Int) (rest:List Int):∀ (i:Nat) ,(v0).drop i=rest→v0.length≤9223372036854775807→Ans (iY v1 rest i) (F0 v0 v1 (i:Int)):=by
 induction rest with
 | nil =>
  intro i hE hl
  have hb:=bo hE
  unfold iY
  exact KX (KZ (show su (kA v0 v1 (i:Int)) (.exit 0) (pp) from RP [.val (.int .i64 (v0.length:Int)),.b false] (ALn v0 etI<|AC hb<|AN)) (by intro h;cases h))
 | cons hd rest ih =>
  intro i hE hl
  have hb:=aY hE
  have hw:=aZ hE hl
  have hE2:=aH hE
  have hg:=bc hE
  unfold iY
  apply K0<;>intro h2
  ·exact KX (KZ (show su (kA v0 v1 (i:Int)) .ret (ob true) from RP [.val (.int .i64 (v0.length:Int)),.b true,.row (etI hd),.b true] (ALn v0 etI<|AC hb<|AR etI hg<|AC h2<|AN)) (by intro h;cases h))
  ·exact (ih (i+1) hE2 hl).mono fun y hy=>by have r:su (kA v0 v1 (i:Int)) .normal (kA v0 v1 (inc (i:Int))):=RP [.val (.int .i64 (v0.length:Int)),.b true,.row (etI hd),.b false] (ALn v0 etI<|AC hb<|AR etI hg<|AC h2<|AN);rw [hw] at r;cases y<;>exact KY r hy
noncomputable def uK (x0:List Int) (x1:Int):Option (Bool) :=
  if x0.length≤9223372036854775807 then (iY x1 x0 0).bind fun y=>match y with
   | .ret w0_4=>(some (w0_4))
   | .x0=>(some (false)) else none
theorem Hq (x0:List Int) (x1:Int):Ans (uK x0 x1) (fun r=>Does E 39 [.one (.s .far () 1 (x0.map etI)),.one (tI x1)] [(false,[tB r])]):=by
 unfold uK
 refine K2 (fun hl1 => ?_)
 refine K1 (fun y hy => ?_)
 replace hy:=FZ x0 x1 x0 0 rfl hl1 y hy
 cases y with
 | ret w0_4 =>
  have h0:=hy
  exact KX (DP Tryz.f39 [.lp .ret (ob w0_4)] (AL h0<|AN))
 | x0 =>
  have h0:=hy
  exact KX (DP Tryz.f39 [.lp (.exit 0) (pp)] (AL h0<|AN))
def cq (l:List Int) (x:Int):Bool:=l.any fun y=>y==x
theorem GS (x:Int):∀ (rest:List Int) (i:Nat),iY x rest i=some (if cq rest x=true then .ret true else .x0)
 | [],i=>rfl
 | y::rest,i=>by
  unfold iY
  rw [GS x rest (i+1)]
  unfold cq
  rw [List.any_cons]
  cases y==x<;>rfl
theorem pF (x0:List Int) (x1:Int) (h:x0.length≤1050000):Does E 39 [.one (.s .far () 1 (x0.map etI)),.one (tI x1)] [(false,[tB (cq x0 x1)])]:=by
 exact Hq x0 x1 _ (by
  unfold uK
  rw [if_pos (by omega),GS]
  cases q:cq x0 x1<;>rfl)
inductive mO where
 | ret (v4:Int)
 | x0 
def dH (v0:List Int) (v1 v7 v8:Int):US:=stL 19 [(0,.one (.s .far () 1 (v0.map etI))),(1,.one (tI v1)),(7,.one (tI v7)),(8,.one (tI v8))]
def ia (zv4:Int):US:=stL 19 [(4,.one (tI zv4))]
def iB  : US:=stL 19 []
abbrev jv:US→Exit→US→Prop:=Round E 85 (aw Tryz.f85 0)
def tq (v0:List Int) (v1 v7 v8:Int):mO→Prop
 | .ret zv4=>Loops E 85 (aw Tryz.f85 0) (dH v0 v1 v7 v8) .ret (ia zv4)
 | .x0=>Loops E 85 (aw Tryz.f85 0) (dH v0 v1 v7 v8) (.exit 0) (iB)
noncomputable def cm (v1:Int):List Int→Nat→Option mO
 | [],i=>some (.x0)
 | hd::rest,i=>cond (v1==hd)
  (some (.ret (i:Int)))
  (cm v1 rest (i+1))
theorem tp (v0:List Int) (v1:Int) (rest:List Int):∀ (i:Nat) ,(v0).drop i=rest→v0.length≤9223372036854775807→Ans (cm v1 rest i) (tq v0 v1 (v0.length:Int) (i:Int)):=by
 induction rest with
 | nil =>
  intro i hE hl
  have hb:=bo hE
  unfold cm
  exact KX (KZ (show jv (dH v0 v1 (v0.length:Int) (i:Int)) (.exit 0) (iB) from RP [.b false] (AC hb<|AN)) (by intro h;cases h))
 | cons hd rest ih =>
  intro i hE hl
  have hb:=aY hE
  have hw:=aZ hE hl
  have hE2:=aH hE
  have hg:=bc hE
  unfold cm
  apply K0<;>intro h2
  ·exact KX (KZ (show jv (dH v0 v1 (v0.length:Int) (i:Int)) .ret (ia (i:Int)) from RP [.b true,.row (etI hd),.b true] (AC hb<|AR etI hg<|AC h2<|AN)) (by intro h;cases h))
  ·exact (ih (i+1) hE2 hl).mono fun y hy=>by have r:jv (dH v0 v1 (v0.length:Int) (i:Int)) .normal (dH v0 v1 (v0.length:Int) (inc (i:Int))):=RP [.b true,.row (etI hd),.b false] (AC hb<|AR etI hg<|AC h2<|AN);rw [hw] at r;cases y<;>exact KY r hy
noncomputable def ee (x0:List Int) (x1:Int):Option (Int) :=
  if x0.length≤9223372036854775807 then (cm x1 x0 0).bind fun y=>match y with
   | .ret w0_4=>(some (w0_4))
   | .x0=>(some ((-1:Int))) else none
theorem uP (x0:List Int) (x1:Int):Ans (ee x0 x1) (fun r=>Does E 85 [.one (.s .far () 1 (x0.map etI)),.one (tI x1)] [(false,[tI r])]):=by
 unfold ee
 refine K2 (fun hl1 => ?_)
 refine K1 (fun y hy => ?_)
 replace hy:=tp x0 x1 x0 0 rfl hl1 y hy
 cases y with
 | ret w0_4 =>
  have h0:=hy
  exact KX (DP Tryz.f85 [.val (.int .i64 (x0.length:Int)),.lp .ret (ia w0_4)] (ALn x0 etI<|AL h0<|AN))
 | x0 =>
  have h0:=hy
  exact KX (DP Tryz.f85 [.val (.int .i64 (x0.length:Int)),.lp (.exit 0) (iB)] (ALn x0 etI<|AL h0<|AN))
noncomputable def wi (l:List Int) (x:Int):Int:=(ee l x).getD (-1)
theorem ID (x:Int):∀ (rest:List Int) (i:Nat),(∃ k:Nat,cm x rest i=some (.ret (k:Int))∧cq rest x=true)∨cm x rest i=some .x0∧cq rest x=false
 | [],i => .inr ⟨rfl,rfl⟩
 | y::rest,i=>by
  have e:(x==y)=(y==x):=by cases q:y==x with | true=>rw [eq_of_beq q];simp | false=>exact beq_eq_false_iff_ne.2 fun e=>by rw [e] at q;simp at q
  unfold cm cq
  rw [List.any_cons,e]
  cases y==x with
  | true=>exact .inl ⟨i,rfl,rfl⟩
  | false=>exact ID x rest (i+1)
theorem GP (l:List Int) (x:Int) (h:l.length≤1050000):ee l x=some (wi l x)∧decide (wi l x≥(0:Int))=cq l x:=by
 have e:∃ r,ee l x=some r∧decide (r≥(0:Int))=cq l x:=by
  unfold ee
  rw [if_pos (by omega)]
  rcases ID x l 0 with ⟨k,h1,h2⟩ | ⟨h1,h2⟩
  ·exact ⟨(k:Int),by rw [h1];rfl,by rw [h2];exact decide_eq_true (by omega)⟩
  ·exact ⟨-1,by rw [h1];rfl,by rw [h2];rfl⟩
 obtain ⟨r,h1,h2⟩:=e
 have p:wi l x=r:=by unfold wi;rw [h1];rfl
 rw [p];exact ⟨h1,h2⟩
theorem tD (x0:List Int) (x1:Int) (h:x0.length≤1050000):Does E 85 [.one (.s .far () 1 (x0.map etI)),.one (tI x1)] [(false,[tI (wi x0 x1)])]:=by
 exact uP x0 x1 _ (GP x0 x1 h).1
noncomputable def iA (x0:List Int) (x1:Int):Option (Bool) :=
  if x0.length≤1050000 then some (decide ((wi x0 x1)≥(0:Int))) else none
theorem rm (x0:List Int) (x1:Int):Ans (iA x0 x1) (fun r=>Does E 70 [.one (.s .far () 1 (x0.map etI)),.one (tI x1)] [(false,[tB r])]):=by
 unfold iA
 refine K2 (fun h0 => ?_)
 exact KX (DP Tryz.f70 [.ret [(false,[tI (wi x0 x1)])]] (AD (tD x0 x1 h0)<|AN))
theorem fk (x0:List Int) (x1:Int) (h:x0.length≤1050000):Does E 70 [.one (.s .far () 1 (x0.map etI)),.one (tI x1)] [(false,[tB (cq x0 x1)])]:=by
 exact rm x0 x1 _ (by
  unfold iA
  try rw [if_pos h]
  rw [(GP x0 x1 h).2])
inductive uL where
 | ret (v6:Bool)
 | x0 
def eF (v0:List Int) (v1 v2 v7:Int):US:=stL 41 [(0,.one (.s .far () 1 (v0.map etI))),(1,.one (tI v1)),(2,.one (tI v2)),(7,.one (tI v7))]
def jG (zv6:Bool):US:=stL 41 [(6,.one (tB zv6))]
def nb (v0:List Int):US:=stL 41 [(0,.one (.s .far () 1 (v0.map etI)))]
abbrev jZ:US→Exit→US→Prop:=Round E 76 (aw Tryz.f76 0)
def CG (v0:List Int) (v1 v2 v7:Int):uL→Prop
 | .ret zv6=>Loops E 76 (aw Tryz.f76 0) (eF v0 v1 v2 v7) .ret (jG zv6)
 | .x0=>Loops E 76 (aw Tryz.f76 0) (eF v0 v1 v2 v7) (.exit 0) (nb v0)
noncomputable def ff (v0:List Int) (v1 v2:Int):List Int→Nat→Option uL
 | [],i=>some (.x0)
 | hd::rest,i=>cond (aM hd v1 v2)
  (cond (decide ((i:Int)>(0:Int)))
   ((aA v0 (IntKind.wrap .i64 ((i:Int)-(1:Int)))).bind fun g1=>cond (decide (g1≥hd))
    (some (.ret false))
    (ff v0 v1 v2 rest (i+1)))
   (ff v0 v1 v2 rest (i+1)))
  (some (.ret false))
theorem CF (v0:List Int) (v1 v2:Int) (rest:List Int):∀ (i:Nat) ,(v0).drop i=rest→v0.length≤9223372036854775807→Ans (ff v0 v1 v2 rest i) (CG v0 v1 v2 (i:Int)):=by
 induction rest with
 | nil =>
  intro i hE hl
  have hb:=bo hE
  unfold ff
  exact KX (KZ (show jZ (eF v0 v1 v2 (i:Int)) (.exit 0) (nb v0) from RP [.val (.int .i64 (v0.length:Int)),.b false] (ALn v0 etI<|AC hb<|AN)) (by intro h;cases h))
 | cons hd rest ih =>
  intro i hE hl
  have hb:=aY hE
  have hw:=aZ hE hl
  have hE2:=aH hE
  have hg:=bc hE
  unfold ff
  apply K0<;>intro h2
  ·apply K0<;>intro h3
   ·refine K1 (fun g1 h4 => ?_)
    apply K0<;>intro h5
    ·exact KX (KZ (show jZ (eF v0 v1 v2 (i:Int)) .ret (jG false) from RP [.val (.int .i64 (v0.length:Int)),.b true,.row (etI hd),rT,.b true,.row (etI g1),.row (etI hd),.b true] (ALn v0 etI<|AC hb<|AR etI hg<|AD (K5 (bz hd v1 v2) h2)<|AC h3<|AR etI h4<|AR etI hg<|AC h5<|AN)) (by intro h;cases h))
    ·exact (ih (i+1) hE2 hl).mono fun y hy=>by have r:jZ (eF v0 v1 v2 (i:Int)) .normal (eF v0 v1 v2 (inc (i:Int))):=RP [.val (.int .i64 (v0.length:Int)),.b true,.row (etI hd),rT,.b true,.row (etI g1),.row (etI hd),.b false] (ALn v0 etI<|AC hb<|AR etI hg<|AD (K5 (bz hd v1 v2) h2)<|AC h3<|AR etI h4<|AR etI hg<|AC h5<|AN);rw [hw] at r;cases y<;>exact KY r hy
   ·exact (ih (i+1) hE2 hl).mono fun y hy=>by have r:jZ (eF v0 v1 v2 (i:Int)) .normal (eF v0 v1 v2 (inc (i:Int))):=RP [.val (.int .i64 (v0.length:Int)),.b true,.row (etI hd),rT,.b false] (ALn v0 etI<|AC hb<|AR etI hg<|AD (K5 (bz hd v1 v2) h2)<|AC h3<|AN);rw [hw] at r;cases y<;>exact KY r hy
  ·exact KX (KZ (show jZ (eF v0 v1 v2 (i:Int)) .ret (jG false) from RP [.val (.int .i64 (v0.length:Int)),.b true,.row (etI hd),rF] (ALn v0 etI<|AC hb<|AR etI hg<|AD (K5 (bz hd v1 v2) h2)<|AN)) (by intro h;cases h))
noncomputable def qv (x0:List Int) (x1 x2:Int):Option (Bool) :=
  if x0.length≤9223372036854775807 then (ff x0 x1 x2 x0 0).bind fun y=>match y with
   | .ret w0_6=>(some (w0_6))
   | .x0=>(some (decide ((x0.length:Int)>(0:Int)))) else none
theorem D8 (x0:List Int) (x1 x2:Int):Ans (qv x0 x1 x2) (fun r=>Does E 76 [.one (.s .far () 1 (x0.map etI)),.one (tI x1),.one (tI x2)] [(false,[tB r])]):=by
 unfold qv
 refine K2 (fun hl1 => ?_)
 refine K1 (fun y hy => ?_)
 replace hy:=CF x0 x1 x2 x0 0 rfl hl1 y hy
 cases y with
 | ret w0_6 =>
  have h0:=hy
  exact KX (DP Tryz.f76 [.lp .ret (jG w0_6)] (AL h0<|AN))
 | x0 =>
  have h0:=hy
  exact KX (DP Tryz.f76 [.lp (.exit 0) (nb x0),.val (.int .i64 (x0.length:Int))] (AL h0<|ALn x0 etI<|AN))
def jg (a b:Int):List Int→Option Int→Bool
 | [],_=>true
 | x::l,p=>aM x a b&&(match p with | some y=>decide (y<x) | none=>true)&&jg a b l (some x)
def aR (l:List Int) (a b:Int):Bool:=jg a b l none&&decide ((l.length:Int)>0)
theorem EB {aD rest:List Int} {x:Int} {i:Nat} (h:aD.drop i=x::rest):i=0∨∃ y,aD[i-1]?=some y:=by
 cases i with
 | zero=>exact .inl rfl
 | succ i =>
  right
  have:i<aD.length:=by
   rcases Nat.lt_or_ge i aD.length with g | g
   ·exact g
   ·rw [List.drop_eq_nil_of_le (by omega)] at h;cases h
  exact ⟨aD[i],by simp [this]⟩
def gU (aD:List Int) (i:Nat):Option Int:=if i=0 then none else aD[i-1]?
theorem zx {aD rest:List Int} {x:Int} {i:Nat} (h:aD.drop i=x::rest):gU aD (i+1)=some x:=by
 unfold gU
 rw [if_neg (by omega)]
 show aD[i]?=some x
 rw [← List.head?_drop,h];rfl
theorem G6 (aD:List Int) (a b:Int) (hl:aD.length≤1050000):∀ (rest:List Int) (i:Nat),aD.drop i=rest→ff aD a b rest i=some (if jg a b rest (gU aD i)=true then .x0 else .ret false)
 | [],i,_=>rfl
 | x::rest,i,h=>by
  have ih:=G6 aD a b hl rest (i+1) (aH h)
  rw [zx h] at ih
  have hi:i<aD.length:=by
   rcases Nat.lt_or_ge i aD.length with g | g
   ·exact g
   ·rw [List.drop_eq_nil_of_le g] at h;cases h
  unfold ff jg
  rw [ih]
  cases aM x a b with
  | false=>rfl
  | true =>
   rw [cond_true,Bool.true_and]
   rcases EB h with rfl | ⟨y,hy⟩
   ·simp [gU]
   ·by_cases z:i=0
    ·subst z;simp [gU]
    ·have hp:gU aD i=some y:=by unfold gU;rw [if_neg z,hy]
     have hg:aA aD (IntKind.wrap .i64 ((i:Int)-1))=some y:=by
      rw [du _ (by omega) (by omega)]
      have e:((i:Int)-1)=((i-1:Nat):Int):=by omega
      rw [e,es,hy]
     rw [hp,hg,decide_eq_true (by omega:(i:Int)>0),cond_true,Option.bind_some]
     simp only
     by_cases c:y≥x
     ·have yx:¬ y<x:=by omega
      rw [decide_eq_true c,cond_true];simp [yx]
     ·have yx:y<x:=by omega
      rw [decide_eq_false c,cond_false];simp [yx]
theorem b8 (x0:List Int) (x1:Int) (x2:Int) (h:x0.length≤1050000):Does E 76 [.one (.s .far () 1 (x0.map etI)),.one (tI x1),.one (tI x2)] [(false,[tB (aR x0 x1 x2)])]:=by
 exact D8 x0 x1 x2 _ (by
  unfold qv
  rw [if_pos (by omega),G6 x0 x1 x2 h x0 0 rfl]
  unfold aR gU
  rw [if_pos rfl]
  cases jg x1 x2 x0 none<;>rfl)
noncomputable def sq (x0:GCron):Option (Bool) :=
  if x0.f0.length≤1050000 then cond (aR x0.f0 (0:Int) (59:Int))
   (if x0.f1.length≤1050000 then cond (aR x0.f1 (0:Int) (23:Int))
    (if x0.f2.length≤1050000 then cond (aR x0.f2 (1:Int) (31:Int))
     (if x0.f3.length≤1050000 then cond (aR x0.f3 (1:Int) (12:Int))
      (if x0.f4.length≤1050000 then some (aR x0.f4 (0:Int) (6:Int)) else none)
      (some (false)) else none)
     (some (false)) else none)
    (some (false)) else none)
   (some (false)) else none
theorem FV (x0:GCron):Ans (sq x0) (fun r=>Does E 60 [.agg (GCron.t .far x0)] [(false,[tB r])]):=by
 unfold sq
 refine K2 (fun h0 => ?_)
 apply K0<;>intro h1
 ·refine K2 (fun h2 => ?_)
  apply K0<;>intro h3
  ·refine K2 (fun h4 => ?_)
   apply K0<;>intro h5
   ·refine K2 (fun h6 => ?_)
    apply K0<;>intro h7
    ·refine K2 (fun h8 => ?_)
     exact KX (DP Tryz.f60 [rT,rT,rT,rT,.ret [(false,[tB (aR x0.f4 (0:Int) (6:Int))])]] (AD (K5 (b8 x0.f0 (0:Int) (59:Int) h0) h1)<|AD (K5 (b8 x0.f1 (0:Int) (23:Int) h2) h3)<|AD (K5 (b8 x0.f2 (1:Int) (31:Int) h4) h5)<|AD (K5 (b8 x0.f3 (1:Int) (12:Int) h6) h7)<|AD (b8 x0.f4 (0:Int) (6:Int) h8)<|AN))
    ·exact KX (DP Tryz.f60 [rT,rT,rT,rF] (AD (K5 (b8 x0.f0 (0:Int) (59:Int) h0) h1)<|AD (K5 (b8 x0.f1 (0:Int) (23:Int) h2) h3)<|AD (K5 (b8 x0.f2 (1:Int) (31:Int) h4) h5)<|AD (K5 (b8 x0.f3 (1:Int) (12:Int) h6) h7)<|AN))
   ·exact KX (DP Tryz.f60 [rT,rT,rF] (AD (K5 (b8 x0.f0 (0:Int) (59:Int) h0) h1)<|AD (K5 (b8 x0.f1 (0:Int) (23:Int) h2) h3)<|AD (K5 (b8 x0.f2 (1:Int) (31:Int) h4) h5)<|AN))
  ·exact KX (DP Tryz.f60 [rT,rF] (AD (K5 (b8 x0.f0 (0:Int) (59:Int) h0) h1)<|AD (K5 (b8 x0.f1 (0:Int) (23:Int) h2) h3)<|AN))
 ·exact KX (DP Tryz.f60 [rF] (AD (K5 (b8 x0.f0 (0:Int) (59:Int) h0) h1)<|AN))
def gL (c:GCron):Bool:=aR c.f0 0 59&&(aR c.f1 0 23&&(aR c.f2 1 31&&(aR c.f3 1 12&&aR c.f4 0 6)))
theorem wO (x0:GCron) (h:am.sm x0):Does E 60 [.agg (GCron.t .far x0)] [(false,[tB (gL x0)])]:=by
 exact FV x0 _ (by
  have h0:=h.1.1
  have h1:=h.2.1.1
  have h2:=h.2.2.1.1
  have h3:=h.2.2.2.1.1
  have h4:=h.2.2.2.2.1
  unfold sq gL
  simp only [h0,h1,h2,h3,h4,if_true]
  cases aR x0.f0 0 59<;>cases aR x0.f1 0 23<;>cases aR x0.f2 1 31<;>cases aR x0.f3 1 12<;>rfl)
inductive vv where
 | ret (v2:Bool)
 | x2 
def eU (v1_0 v1_1 v1_2 v1_3 v1_4:List Int) (v5 v6:Int) (v7:List Int) (v11:Int) (v23:List Int) (v24 v25:Int):US:=stL 53 [(1,.box () [.s .far () 1 (v1_0.map etI),.s .far () 1 (v1_1.map etI),.s .far () 1 (v1_2.map etI),.s .far () 1 (v1_3.map etI),.s .far () 1 (v1_4.map etI)]),(5,.one (tI v5)),(6,.one (tI v6)),(7,.one (.s .far () 1 (v7.map etI))),(10,.clo (.arr [0,1,2,3,4]) [1,1,1,1,1]),(11,.one (tI v11)),(23,.one (.s .far () 1 (v23.map etI))),(24,.one (tI v24)),(25,.one (tI v25))]
def dY (zv2:Bool):US:=stL 53 [(2,.one (tB zv2))]
def cn (v1_0 v1_1 v1_2 v1_3 v1_4 v7:List Int) (v11:Int):US:=stL 53 [(1,.box () [.s .far () 1 (v1_0.map etI),.s .far () 1 (v1_1.map etI),.s .far () 1 (v1_2.map etI),.s .far () 1 (v1_3.map etI),.s .far () 1 (v1_4.map etI)]),(7,.one (.s .far () 1 (v7.map etI))),(10,.clo (.arr [0,1,2,3,4]) [1,1,1,1,1]),(11,.one (tI v11))]
abbrev kV:US→Exit→US→Prop:=Round E 81 (aw Tryz.f81 1)
def Dx (v1_0 v1_1 v1_2 v1_3 v1_4:List Int) (v5 v6:Int) (v7:List Int) (v11:Int) (v23:List Int) (v24 v25:Int):vv→Prop
 | .ret zv2=>Loops E 81 (aw Tryz.f81 1) (eU v1_0 v1_1 v1_2 v1_3 v1_4 v5 v6 v7 v11 v23 v24 v25) .ret (dY zv2)
 | .x2=>Loops E 81 (aw Tryz.f81 1) (eU v1_0 v1_1 v1_2 v1_3 v1_4 v5 v6 v7 v11 v23 v24 v25) (.exit 2) (cn v1_0 v1_1 v1_2 v1_3 v1_4 v7 v11)
noncomputable def cJ (v5 v6:Int) (v7:List Int):List Int→Nat→Option vv
 | [],i=>some (.x2)
 | hd::rest,i=>cond (aM hd v5 v6)
  (cond (decide ((i:Int)>(0:Int)))
   ((aA v7 (IntKind.wrap .i64 ((i:Int)-(1:Int)))).bind fun g1=>cond (decide (hd≤g1))
    (some (.ret false))
    (cJ v5 v6 v7 rest (i+1)))
   (cJ v5 v6 v7 rest (i+1)))
  (some (.ret false))
theorem kW (v1_0 v1_1 v1_2 v1_3 v1_4:List Int) (v5 v6:Int) (v7:List Int) (v11:Int) (v23:List Int) (rest:List Int):∀ (i:Nat) ,(v23).drop i=rest→v23.length≤9223372036854775807→Ans (cJ v5 v6 v7 rest i) (Dx v1_0 v1_1 v1_2 v1_3 v1_4 v5 v6 v7 v11 v23 (v23.length:Int) (i:Int)):=by
 induction rest with
 | nil =>
  intro i hE hl
  have hb:=bo hE
  unfold cJ
  exact KX (KZ (show kV (eU v1_0 v1_1 v1_2 v1_3 v1_4 v5 v6 v7 v11 v23 (v23.length:Int) (i:Int)) (.exit 2) (cn v1_0 v1_1 v1_2 v1_3 v1_4 v7 v11) from RP [.b false] (AC hb<|AN)) (by intro h;cases h))
 | cons hd rest ih =>
  intro i hE hl
  have hb:=aY hE
  have hw:=aZ hE hl
  have hE2:=aH hE
  have hg:=bc hE
  unfold cJ
  apply K0<;>intro h2
  ·apply K0<;>intro h3
   ·refine K1 (fun g1 h4 => ?_)
    apply K0<;>intro h5
    ·exact KX (KZ (show kV (eU v1_0 v1_1 v1_2 v1_3 v1_4 v5 v6 v7 v11 v23 (v23.length:Int) (i:Int)) .ret (dY false) from RP [.b true,.row (etI hd),rT,.b true,.row (etI g1),.b true] (AC hb<|AR etI hg<|AD (K5 (de hd v5 v6) h2)<|AC h3<|AR etI h4<|AC h5<|AN)) (by intro h;cases h))
    ·exact (ih (i+1) hE2 hl).mono fun y hy=>by have r:kV (eU v1_0 v1_1 v1_2 v1_3 v1_4 v5 v6 v7 v11 v23 (v23.length:Int) (i:Int)) .normal (eU v1_0 v1_1 v1_2 v1_3 v1_4 v5 v6 v7 v11 v23 (v23.length:Int) (inc (i:Int))):=RP [.b true,.row (etI hd),rT,.b true,.row (etI g1),.b false] (AC hb<|AR etI hg<|AD (K5 (de hd v5 v6) h2)<|AC h3<|AR etI h4<|AC h5<|AN);rw [hw] at r;cases y<;>exact KY r hy
   ·exact (ih (i+1) hE2 hl).mono fun y hy=>by have r:kV (eU v1_0 v1_1 v1_2 v1_3 v1_4 v5 v6 v7 v11 v23 (v23.length:Int) (i:Int)) .normal (eU v1_0 v1_1 v1_2 v1_3 v1_4 v5 v6 v7 v11 v23 (v23.length:Int) (inc (i:Int))):=RP [.b true,.row (etI hd),rT,.b false] (AC hb<|AR etI hg<|AD (K5 (de hd v5 v6) h2)<|AC h3<|AN);rw [hw] at r;cases y<;>exact KY r hy
  ·exact KX (KZ (show kV (eU v1_0 v1_1 v1_2 v1_3 v1_4 v5 v6 v7 v11 v23 (v23.length:Int) (i:Int)) .ret (dY false) from RP [.b true,.row (etI hd),rF] (AC hb<|AR etI hg<|AD (K5 (de hd v5 v6) h2)<|AN)) (by intro h;cases h))
inductive qi where
 | ret (v2:Bool)
 | x0 
def bi (v1_0 v1_1 v1_2 v1_3 v1_4:List Int) (v11:Int):US:=stL 53 [(1,.box () [.s .far () 1 (v1_0.map etI),.s .far () 1 (v1_1.map etI),.s .far () 1 (v1_2.map etI),.s .far () 1 (v1_3.map etI),.s .far () 1 (v1_4.map etI)]),(10,.clo (.arr [0,1,2,3,4]) [1,1,1,1,1]),(11,.one (tI v11))]
def bU (zv2:Bool):US:=stL 53 [(2,.one (tB zv2))]
def nL  : US:=stL 53 []
abbrev bS:US→Exit→US→Prop:=Round E 81 (aw Tryz.f81 0)
def Dw (v1_0 v1_1 v1_2 v1_3 v1_4:List Int) (v11:Int):qi→Prop
 | .ret zv2=>Loops E 81 (aw Tryz.f81 0) (bi v1_0 v1_1 v1_2 v1_3 v1_4 v11) .ret (bU zv2)
 | .x0=>Loops E 81 (aw Tryz.f81 0) (bi v1_0 v1_1 v1_2 v1_3 v1_4 v11) (.exit 0) (nL)
noncomputable def br (v1_0 v1_1 v1_2 v1_3 v1_4:List Int):Nat→Int→Option qi
 | 0,_=>none
 | n+1,v11=>cond (decide (v11<(5:Int)))
  (cond (v11==(0:Int))
   (if v1_0.length≤9223372036854775807 then (cJ ((az v11).1) ((az v11).2) v1_0 v1_0 0).bind fun y=>match y with
    | .ret w0_2=>(some (.ret w0_2))
    | .x2=>(cond ((v1_0.length:Int)==(0:Int))
     (some (.ret false))
     (br v1_0 v1_1 v1_2 v1_3 v1_4 n (inc v11))) else none)
   (cond (v11==(1:Int))
    (if v1_1.length≤9223372036854775807 then (cJ ((az v11).1) ((az v11).2) v1_1 v1_1 0).bind fun y=>match y with
     | .ret w0_2=>(some (.ret w0_2))
     | .x2=>(cond ((v1_1.length:Int)==(0:Int))
      (some (.ret false))
      (br v1_0 v1_1 v1_2 v1_3 v1_4 n (inc v11))) else none)
    (cond (v11==(2:Int))
     (if v1_2.length≤9223372036854775807 then (cJ ((az v11).1) ((az v11).2) v1_2 v1_2 0).bind fun y=>match y with
      | .ret w0_2=>(some (.ret w0_2))
      | .x2=>(cond ((v1_2.length:Int)==(0:Int))
       (some (.ret false))
       (br v1_0 v1_1 v1_2 v1_3 v1_4 n (inc v11))) else none)
     (cond (v11==(3:Int))
      (if v1_3.length≤9223372036854775807 then (cJ ((az v11).1) ((az v11).2) v1_3 v1_3 0).bind fun y=>match y with
       | .ret w0_2=>(some (.ret w0_2))
       | .x2=>(cond ((v1_3.length:Int)==(0:Int))
        (some (.ret false))
        (br v1_0 v1_1 v1_2 v1_3 v1_4 n (inc v11))) else none)
      (if v11=(4:Int) then if v1_4.length≤9223372036854775807 then (cJ ((az v11).1) ((az v11).2) v1_4 v1_4 0).bind fun y=>match y with
       | .ret w0_2=>(some (.ret w0_2))
       | .x2=>(cond ((v1_4.length:Int)==(0:Int))
        (some (.ret false))
        (br v1_0 v1_1 v1_2 v1_3 v1_4 n (inc v11))) else none else none)))))
  (some (.x0))
theorem Dv (v1_0 v1_1 v1_2 v1_3 v1_4:List Int) (n:Nat):∀ (v11:Int),Ans (br v1_0 v1_1 v1_2 v1_3 v1_4 n v11) (Dw v1_0 v1_1 v1_2 v1_3 v1_4 v11):=by
 induction n with
 | zero=>intros;exact Ans.none
 | succ n ih =>
  intro v11
  unfold br
  apply K0<;>intro h0
  ·apply K0<;>intro h1
   ·refine K2 (fun hl4 => ?_)
    refine K1 (fun y hy => ?_)
    replace hy:=kW v1_0 v1_1 v1_2 v1_3 v1_4 ((az v11).1) ((az v11).2) v1_0 v11 v1_0 v1_0 0 rfl hl4 y hy
    cases y with
    | ret w0_2 =>
     have h2:=hy
     exact KX (KZ (show bS (bi v1_0 v1_1 v1_2 v1_3 v1_4 v11) .ret (bU w0_2) from RP [.b true,.val (.int .i64 0),.ret [(false,[tI ((az v11).1)]),(false,[tI ((az v11).2)])],.val (.int .i64 (v1_0.length:Int)),.lp .ret (dY w0_2)] (AC h0<|AC (p:=v11=(0:Int)) (eq_of_beq h1)<|AD (bP v11)<|ALn v1_0 etI<|AL h2<|AN)) (by intro h;cases h))
    | x2 =>
     have h2:=hy
     apply K0<;>intro h3
     ·exact KX (KZ (show bS (bi v1_0 v1_1 v1_2 v1_3 v1_4 v11) .ret (bU false) from RP [.b true,.val (.int .i64 0),.ret [(false,[tI ((az v11).1)]),(false,[tI ((az v11).2)])],.val (.int .i64 (v1_0.length:Int)),.lp (.exit 2) (cn v1_0 v1_1 v1_2 v1_3 v1_4 v1_0 v11),.val (.int .i64 (v1_0.length:Int)),.b true] (AC h0<|AC (p:=v11=(0:Int)) (eq_of_beq h1)<|AD (bP v11)<|ALn v1_0 etI<|AL h2<|ALn v1_0 etI<|AC h3<|AN)) (by intro h;cases h))
     ·have r:bS (bi v1_0 v1_1 v1_2 v1_3 v1_4 v11) .normal (bi v1_0 v1_1 v1_2 v1_3 v1_4 (inc v11)):=RP [.b true,.val (.int .i64 0),.ret [(false,[tI ((az v11).1)]),(false,[tI ((az v11).2)])],.val (.int .i64 (v1_0.length:Int)),.lp (.exit 2) (cn v1_0 v1_1 v1_2 v1_3 v1_4 v1_0 v11),.val (.int .i64 (v1_0.length:Int)),.b false] (AC h0<|AC (p:=v11=(0:Int)) (eq_of_beq h1)<|AD (bP v11)<|ALn v1_0 etI<|AL h2<|ALn v1_0 etI<|AC h3<|AN);exact (ih (inc v11)).mono fun y hy=>by cases y<;>exact KY r hy
   ·apply K0<;>intro h2
    ·refine K2 (fun hl5 => ?_)
     refine K1 (fun y hy => ?_)
     replace hy:=kW v1_0 v1_1 v1_2 v1_3 v1_4 ((az v11).1) ((az v11).2) v1_1 v11 v1_1 v1_1 0 rfl hl5 y hy
     cases y with
     | ret w0_2 =>
      have h3:=hy
      exact KX (KZ (show bS (bi v1_0 v1_1 v1_2 v1_3 v1_4 v11) .ret (bU w0_2) from RP [.b true,.val (.int .i64 1),.ret [(false,[tI ((az v11).1)]),(false,[tI ((az v11).2)])],.val (.int .i64 (v1_1.length:Int)),.lp .ret (dY w0_2)] (AC h0<|AC (p:=v11=(1:Int)) (eq_of_beq h2)<|AD (bP v11)<|ALn v1_1 etI<|AL h3<|AN)) (by intro h;cases h))
     | x2 =>
      have h3:=hy
      apply K0<;>intro h4
      ·exact KX (KZ (show bS (bi v1_0 v1_1 v1_2 v1_3 v1_4 v11) .ret (bU false) from RP [.b true,.val (.int .i64 1),.ret [(false,[tI ((az v11).1)]),(false,[tI ((az v11).2)])],.val (.int .i64 (v1_1.length:Int)),.lp (.exit 2) (cn v1_0 v1_1 v1_2 v1_3 v1_4 v1_1 v11),.val (.int .i64 (v1_1.length:Int)),.b true] (AC h0<|AC (p:=v11=(1:Int)) (eq_of_beq h2)<|AD (bP v11)<|ALn v1_1 etI<|AL h3<|ALn v1_1 etI<|AC h4<|AN)) (by intro h;cases h))
      ·have r:bS (bi v1_0 v1_1 v1_2 v1_3 v1_4 v11) .normal (bi v1_0 v1_1 v1_2 v1_3 v1_4 (inc v11)):=RP [.b true,.val (.int .i64 1),.ret [(false,[tI ((az v11).1)]),(false,[tI ((az v11).2)])],.val (.int .i64 (v1_1.length:Int)),.lp (.exit 2) (cn v1_0 v1_1 v1_2 v1_3 v1_4 v1_1 v11),.val (.int .i64 (v1_1.length:Int)),.b false] (AC h0<|AC (p:=v11=(1:Int)) (eq_of_beq h2)<|AD (bP v11)<|ALn v1_1 etI<|AL h3<|ALn v1_1 etI<|AC h4<|AN);exact (ih (inc v11)).mono fun y hy=>by cases y<;>exact KY r hy
    ·apply K0<;>intro h3
     ·refine K2 (fun hl6 => ?_)
      refine K1 (fun y hy => ?_)
      replace hy:=kW v1_0 v1_1 v1_2 v1_3 v1_4 ((az v11).1) ((az v11).2) v1_2 v11 v1_2 v1_2 0 rfl hl6 y hy
      cases y with
      | ret w0_2 =>
       have h4:=hy
       exact KX (KZ (show bS (bi v1_0 v1_1 v1_2 v1_3 v1_4 v11) .ret (bU w0_2) from RP [.b true,.val (.int .i64 2),.ret [(false,[tI ((az v11).1)]),(false,[tI ((az v11).2)])],.val (.int .i64 (v1_2.length:Int)),.lp .ret (dY w0_2)] (AC h0<|AC (p:=v11=(2:Int)) (eq_of_beq h3)<|AD (bP v11)<|ALn v1_2 etI<|AL h4<|AN)) (by intro h;cases h))
      | x2 =>
       have h4:=hy
       apply K0<;>intro h5
       ·exact KX (KZ (show bS (bi v1_0 v1_1 v1_2 v1_3 v1_4 v11) .ret (bU false) from RP [.b true,.val (.int .i64 2),.ret [(false,[tI ((az v11).1)]),(false,[tI ((az v11).2)])],.val (.int .i64 (v1_2.length:Int)),.lp (.exit 2) (cn v1_0 v1_1 v1_2 v1_3 v1_4 v1_2 v11),.val (.int .i64 (v1_2.length:Int)),.b true] (AC h0<|AC (p:=v11=(2:Int)) (eq_of_beq h3)<|AD (bP v11)<|ALn v1_2 etI<|AL h4<|ALn v1_2 etI<|AC h5<|AN)) (by intro h;cases h))
       ·have r:bS (bi v1_0 v1_1 v1_2 v1_3 v1_4 v11) .normal (bi v1_0 v1_1 v1_2 v1_3 v1_4 (inc v11)):=RP [.b true,.val (.int .i64 2),.ret [(false,[tI ((az v11).1)]),(false,[tI ((az v11).2)])],.val (.int .i64 (v1_2.length:Int)),.lp (.exit 2) (cn v1_0 v1_1 v1_2 v1_3 v1_4 v1_2 v11),.val (.int .i64 (v1_2.length:Int)),.b false] (AC h0<|AC (p:=v11=(2:Int)) (eq_of_beq h3)<|AD (bP v11)<|ALn v1_2 etI<|AL h4<|ALn v1_2 etI<|AC h5<|AN);exact (ih (inc v11)).mono fun y hy=>by cases y<;>exact KY r hy
     ·apply K0<;>intro h4
      ·refine K2 (fun hl7 => ?_)
       refine K1 (fun y hy => ?_)
       replace hy:=kW v1_0 v1_1 v1_2 v1_3 v1_4 ((az v11).1) ((az v11).2) v1_3 v11 v1_3 v1_3 0 rfl hl7 y hy
       cases y with
       | ret w0_2 =>
        have h5:=hy
        exact KX (KZ (show bS (bi v1_0 v1_1 v1_2 v1_3 v1_4 v11) .ret (bU w0_2) from RP [.b true,.val (.int .i64 3),.ret [(false,[tI ((az v11).1)]),(false,[tI ((az v11).2)])],.val (.int .i64 (v1_3.length:Int)),.lp .ret (dY w0_2)] (AC h0<|AC (p:=v11=(3:Int)) (eq_of_beq h4)<|AD (bP v11)<|ALn v1_3 etI<|AL h5<|AN)) (by intro h;cases h))
       | x2 =>
        have h5:=hy
        apply K0<;>intro h6
        ·exact KX (KZ (show bS (bi v1_0 v1_1 v1_2 v1_3 v1_4 v11) .ret (bU false) from RP [.b true,.val (.int .i64 3),.ret [(false,[tI ((az v11).1)]),(false,[tI ((az v11).2)])],.val (.int .i64 (v1_3.length:Int)),.lp (.exit 2) (cn v1_0 v1_1 v1_2 v1_3 v1_4 v1_3 v11),.val (.int .i64 (v1_3.length:Int)),.b true] (AC h0<|AC (p:=v11=(3:Int)) (eq_of_beq h4)<|AD (bP v11)<|ALn v1_3 etI<|AL h5<|ALn v1_3 etI<|AC h6<|AN)) (by intro h;cases h))
        ·have r:bS (bi v1_0 v1_1 v1_2 v1_3 v1_4 v11) .normal (bi v1_0 v1_1 v1_2 v1_3 v1_4 (inc v11)):=RP [.b true,.val (.int .i64 3),.ret [(false,[tI ((az v11).1)]),(false,[tI ((az v11).2)])],.val (.int .i64 (v1_3.length:Int)),.lp (.exit 2) (cn v1_0 v1_1 v1_2 v1_3 v1_4 v1_3 v11),.val (.int .i64 (v1_3.length:Int)),.b false] (AC h0<|AC (p:=v11=(3:Int)) (eq_of_beq h4)<|AD (bP v11)<|ALn v1_3 etI<|AL h5<|ALn v1_3 etI<|AC h6<|AN);exact (ih (inc v11)).mono fun y hy=>by cases y<;>exact KY r hy
      ·refine K2 (fun h5 => ?_)
       refine K2 (fun hl7 => ?_)
       refine K1 (fun y hy => ?_)
       replace hy:=kW v1_0 v1_1 v1_2 v1_3 v1_4 ((az v11).1) ((az v11).2) v1_4 v11 v1_4 v1_4 0 rfl hl7 y hy
       cases y with
       | ret w0_2 =>
        have h6:=hy
        exact KX (KZ (show bS (bi v1_0 v1_1 v1_2 v1_3 v1_4 v11) .ret (bU w0_2) from RP [.b true,.val (.int .i64 4),.ret [(false,[tI ((az v11).1)]),(false,[tI ((az v11).2)])],.val (.int .i64 (v1_4.length:Int)),.lp .ret (dY w0_2)] (AC h0<|AC h5<|AD (bP v11)<|ALn v1_4 etI<|AL h6<|AN)) (by intro h;cases h))
       | x2 =>
        have h6:=hy
        apply K0<;>intro h7
        ·exact KX (KZ (show bS (bi v1_0 v1_1 v1_2 v1_3 v1_4 v11) .ret (bU false) from RP [.b true,.val (.int .i64 4),.ret [(false,[tI ((az v11).1)]),(false,[tI ((az v11).2)])],.val (.int .i64 (v1_4.length:Int)),.lp (.exit 2) (cn v1_0 v1_1 v1_2 v1_3 v1_4 v1_4 v11),.val (.int .i64 (v1_4.length:Int)),.b true] (AC h0<|AC h5<|AD (bP v11)<|ALn v1_4 etI<|AL h6<|ALn v1_4 etI<|AC h7<|AN)) (by intro h;cases h))
        ·have r:bS (bi v1_0 v1_1 v1_2 v1_3 v1_4 v11) .normal (bi v1_0 v1_1 v1_2 v1_3 v1_4 (inc v11)):=RP [.b true,.val (.int .i64 4),.ret [(false,[tI ((az v11).1)]),(false,[tI ((az v11).2)])],.val (.int .i64 (v1_4.length:Int)),.lp (.exit 2) (cn v1_0 v1_1 v1_2 v1_3 v1_4 v1_4 v11),.val (.int .i64 (v1_4.length:Int)),.b false] (AC h0<|AC h5<|AD (bP v11)<|ALn v1_4 etI<|AL h6<|ALn v1_4 etI<|AC h7<|AN);exact (ih (inc v11)).mono fun y hy=>by cases y<;>exact KY r hy
  ·exact KX (KZ (show bS (bi v1_0 v1_1 v1_2 v1_3 v1_4 v11) (.exit 0) (nL) from RP [.b false] (AC h0<|AN)) (by intro h;cases h))
noncomputable def oo (x0:GCron):Option (Bool) :=
  (br x0.f0 x0.f1 x0.f2 x0.f3 x0.f4 9223372036854775808 (0:Int)).bind fun y=>match y with
   | .ret w0_2=>(some (w0_2))
   | .x0=>(some (true))
theorem Ft (x0:GCron):Ans (oo x0) (fun r=>Does E 81 [.agg (GCron.t .far x0)] [(false,[tB r])]):=by
 unfold oo
 refine K1 (fun y hy => ?_)
 replace hy:=Dv x0.f0 x0.f1 x0.f2 x0.f3 x0.f4 9223372036854775808 (0:Int) y hy
 cases y with
 | ret w0_2 =>
  have h0:=hy
  exact KX (DP Tryz.f81 [.lp .ret (bU w0_2)] (AL h0<|AN))
 | x0 =>
  have h0:=hy
  exact KX (DP Tryz.f81 [.lp (.exit 0) (nL)] (AL h0<|AN))
theorem Gj (aD:List Int) (a b:Int) (hl:aD.length≤1050000):∀ (rest:List Int) (i:Nat),aD.drop i=rest→cJ a b aD rest i=some (if jg a b rest (gU aD i)=true then .x2 else .ret false)
 | [],i,_=>rfl
 | x::rest,i,h=>by
  have ih:=Gj aD a b hl rest (i+1) (aH h)
  rw [zx h] at ih
  have hi:i<aD.length:=by
   rcases Nat.lt_or_ge i aD.length with g | g
   ·exact g
   ·rw [List.drop_eq_nil_of_le g] at h;cases h
  unfold cJ jg
  rw [ih]
  cases aM x a b with
  | false=>rfl
  | true =>
   rw [cond_true,Bool.true_and]
   rcases EB h with rfl | ⟨y,hy⟩
   ·simp [gU]
   ·by_cases z:i=0
    ·subst z;simp [gU]
    ·have hp:gU aD i=some y:=by unfold gU;rw [if_neg z,hy]
     have hg:aA aD (IntKind.wrap .i64 ((i:Int)-1))=some y:=by
      rw [du _ (by omega) (by omega)]
      have e:((i:Int)-1)=((i-1:Nat):Int):=by omega
      rw [e,es,hy]
     rw [hp,hg,decide_eq_true (by omega:(i:Int)>0),cond_true,Option.bind_some]
     simp only
     by_cases c:y≥x
     ·have yx:¬ y<x:=by omega
      rw [decide_eq_true (show x≤y from c),cond_true];simp [yx]
     ·have yx:y<x:=by omega
      rw [decide_eq_false (show ¬ x≤y from c),cond_false];simp [yx]
theorem mb (l:List Int) (a b:Int) (hl:l.length≤1050000) (K:Option qi) :
  ((cJ a b l l 0).bind fun y=>match y with
    | .ret w=>some (.ret w)
    | .x2=>cond ((l.length:Int)==(0:Int)) (some (.ret false)) K)=(cond (aR l a b) K (some (.ret false))):=by
 rw [Gj l a b hl l 0 rfl]
 unfold aR gU
 rw [if_pos rfl]
 cases jg a b l none with
 | false=>rfl
 | true =>
  simp only [if_true,Option.bind_some,Bool.true_and]
  cases l with
  | nil=>rfl
  | cons x l =>
   rw [show (((x::l).length:Int)==(0:Int))=false from beq_eq_false_iff_ne.2 (by simp<;>omega),decide_eq_true (by simp<;>omega)]
   rfl
theorem HR (c:GCron) (h:am.sm c):oo c=some (gL c):=by
 have h0:=h.1.1
 have h1:=h.2.1.1
 have h2:=h.2.2.1.1
 have h3:=h.2.2.2.1.1
 have h4:=h.2.2.2.2.1
 unfold oo
 have e0:∀ n,br c.f0 c.f1 c.f2 c.f3 c.f4 (n+6) 0=some (if gL c=true then .x0 else .ret false):=by
  intro n
  have s5:br c.f0 c.f1 c.f2 c.f3 c.f4 (n+1) (inc (inc (inc (inc (inc 0)))))=some .x0:=rfl
  have s4:br c.f0 c.f1 c.f2 c.f3 c.f4 (n+2) (inc (inc (inc (inc 0))))=cond (aR c.f4 0 6) (some .x0) (some (.ret false)):=by
   rw [← mb c.f4 0 6 h4, ← s5]
   conv=>lhs;unfold br
   show (if inc (inc (inc (inc 0)))=4 then (if c.f4.length≤9223372036854775807 then _ else none) else none)=_
   rw [if_pos (by rfl),if_pos (by omega)]
   rfl
  have s3:br c.f0 c.f1 c.f2 c.f3 c.f4 (n+3) (inc (inc (inc 0)))=cond (aR c.f3 1 12) (cond (aR c.f4 0 6) (some .x0) (some (.ret false))) (some (.ret false)):=by
   rw [← mb c.f3 1 12 h3, ← s4]
   conv=>lhs;unfold br
   show (if c.f3.length≤9223372036854775807 then _ else none)=_
   rw [if_pos (by omega)]
   rfl
  have s2:br c.f0 c.f1 c.f2 c.f3 c.f4 (n+4) (inc (inc 0))=cond (aR c.f2 1 31) (cond (aR c.f3 1 12) (cond (aR c.f4 0 6) (some .x0) (some (.ret false))) (some (.ret false))) (some (.ret false)):=by
   rw [← mb c.f2 1 31 h2, ← s3]
   conv=>lhs;unfold br
   show (if c.f2.length≤9223372036854775807 then _ else none)=_
   rw [if_pos (by omega)]
   rfl
  have s1:br c.f0 c.f1 c.f2 c.f3 c.f4 (n+5) (inc 0)=cond (aR c.f1 0 23) (cond (aR c.f2 1 31) (cond (aR c.f3 1 12) (cond (aR c.f4 0 6) (some .x0) (some (.ret false))) (some (.ret false))) (some (.ret false))) (some (.ret false)):=by
   rw [← mb c.f1 0 23 h1, ← s2]
   conv=>lhs;unfold br
   show (if c.f1.length≤9223372036854775807 then _ else none)=_
   rw [if_pos (by omega)]
   rfl
  have s0:br c.f0 c.f1 c.f2 c.f3 c.f4 (n+6) 0=cond (aR c.f0 0 59) (cond (aR c.f1 0 23) (cond (aR c.f2 1 31) (cond (aR c.f3 1 12) (cond (aR c.f4 0 6) (some .x0) (some (.ret false))) (some (.ret false))) (some (.ret false))) (some (.ret false))) (some (.ret false)):=by
   rw [← mb c.f0 0 59 h0, ← s1]
   conv=>lhs;unfold br
   show (if c.f0.length≤9223372036854775807 then _ else none)=_
   rw [if_pos (by omega)]
   rfl
  rw [s0]
  unfold gL
  cases aR c.f0 0 59<;>cases aR c.f1 0 23<;>cases aR c.f2 1 31<;>cases aR c.f3 1 12<;>cases aR c.f4 0 6<;>rfl
 rw [e0 9223372036854775802]
 cases gL c<;>rfl
theorem wJ (x0:GCron) (h:am.sm x0):Does E 81 [.agg (GCron.t .far x0)] [(false,[tB (gL x0)])]:=by
 exact Ft x0 _ (HR x0 h)
noncomputable def ug (x0:List Int) (x1:Int):Option (Bool) :=
  some ((x0.length:Int)==(inc (IntKind.wrap .i64 (((az x1).2)-((az x1).1)))))
theorem GN (x0:List Int) (x1:Int):Ans (ug x0 x1) (fun r=>Does E 82 [.one (.s .far () 1 (x0.map etI)),.one (tI x1)] [(false,[tB r])]):=by
 unfold ug
 exact KX (DP Tryz.f82 [.ret [(false,[tI ((az x1).1)]),(false,[tI ((az x1).2)])],.val (.int .i64 (x0.length:Int))] (AD (bP x1)<|ALn x0 etI<|AN))
noncomputable def mm (l:List Int) (i:Int):Bool:=(ug l i).getD false
theorem fL (x0:List Int) (x1:Int):Does E 82 [.one (.s .far () 1 (x0.map etI)),.one (tI x1)] [(false,[tB (mm x0 x1)])]:=by
 exact GN x0 x1 _ rfl
end Go.Proofs.YtdcbjglpdbcjpaaGreatDoor.Am
namespace Go.Proofs.YtdcbjglpdbcjpaaGreatDoor.Am
open Go Go.Proofs Classical
set_option maxRecDepth 100000
set_option linter.unusedVariables false
set_option linter.unusedSimpArgs false
inductive uM where
 | x0 (v5:ByteArray)
def ix (v0:List Int) (v5:ByteArray) (v6:Int):US:=stL 29 [(0,.one (.s .far () 1 (v0.map etI))),(5,.one (tS v5)),(6,.one (tI v6))]
def nc (zv5:ByteArray):US:=stL 29 [(5,.one (tS zv5))]
abbrev pq:US→Exit→US→Prop:=Round E 61 (aw Tryz.f61 0)
def CJ (v0:List Int) (v5:ByteArray) (v6:Int):uM→Prop
 | .x0 zv5=>Loops E 61 (aw Tryz.f61 0) (ix v0 v5 v6) (.exit 0) (nc zv5)
noncomputable def dO  : List Int→Nat→ByteArray→Option uM
 | [],i,v5=>some (.x0 v5)
 | hd::rest,i,v5=>cond (decide ((i:Int)>(0:Int)))
  (if v5.size+(⟨#[44]⟩:ByteArray).size≤maxStr then if -9223372036854775808≤hd∧hd≤9223372036854775807 then if (v5++(⟨#[44]⟩:ByteArray)).size+(be hd).size≤maxStr then dO rest (i+1) ((v5++(⟨#[44]⟩:ByteArray))++(be hd)) else none else none else none)
  (if -9223372036854775808≤hd∧hd≤9223372036854775807 then if v5.size+(be hd).size≤maxStr then dO rest (i+1) (v5++(be hd)) else none else none)
theorem CI (v0:List Int) (rest:List Int):∀ (i:Nat) (v5:ByteArray),(v0).drop i=rest→v0.length≤9223372036854775807→Ans (dO rest i v5) (CJ v0 v5 (i:Int)):=by
 induction rest with
 | nil =>
  intro i v5 hE hl
  have hb:=bo hE
  unfold dO
  exact KX (KZ (show pq (ix v0 v5 (i:Int)) (.exit 0) (nc v5) from RP [.val (.int .i64 (v0.length:Int)),.b false] (ALn v0 etI<|AC hb<|AN)) (by intro h;cases h))
 | cons hd rest ih =>
  intro i v5 hE hl
  have hb:=aY hE
  have hw:=aZ hE hl
  have hE2:=aH hE
  have hg:=bc hE
  unfold dO
  apply K0<;>intro h1
  ·refine K2 (fun h2 => ?_)
   refine K2 (fun h4 => ?_)
   refine K2 (fun h5 => ?_)
   exact (ih (i+1) ((v5++(⟨#[44]⟩:ByteArray))++(be hd)) hE2 hl).mono fun y hy=>by have r:pq (ix v0 v5 (i:Int)) .normal (ix v0 ((v5++(⟨#[44]⟩:ByteArray))++(be hd)) (inc (i:Int))):=RP [.val (.int .i64 (v0.length:Int)),.b true,.b true,.val (.string (v5++(⟨#[44]⟩:ByteArray))),.row (etI hd),.ret [(false,[tS (be hd)])],.val (.string ((v5++(⟨#[44]⟩:ByteArray))++(be hd)))] (ALn v0 etI<|AC hb<|AC h1<|AC (fG (tab:=E.tab) (t:=9) h2)<|AR etI hg<|AD (ni hd h4)<|AC (fG (tab:=E.tab) (t:=9) h5)<|AN);rw [hw] at r;cases y<;>exact KY r hy
  ·refine K2 (fun h3 => ?_)
   refine K2 (fun h4 => ?_)
   exact (ih (i+1) (v5++(be hd)) hE2 hl).mono fun y hy=>by have r:pq (ix v0 v5 (i:Int)) .normal (ix v0 (v5++(be hd)) (inc (i:Int))):=RP [.val (.int .i64 (v0.length:Int)),.b true,.b false,.row (etI hd),.ret [(false,[tS (be hd)])],.val (.string (v5++(be hd)))] (ALn v0 etI<|AC hb<|AC h1<|AR etI hg<|AD (ni hd h3)<|AC (fG (tab:=E.tab) (t:=9) h4)<|AN);rw [hw] at r;cases y<;>exact KY r hy
noncomputable def nv (x0:List Int) (x1:Int):Option (ByteArray) :=
  cond ((x0.length:Int)==x1)
   (some ((⟨#[42]⟩:ByteArray)))
   (if x0.length≤9223372036854775807 then (dO x0 0 ByteArray.empty).bind fun y=>match y with
    | .x0 w0_5=>(some (w0_5)) else none)
theorem D9 (x0:List Int) (x1:Int):Ans (nv x0 x1) (fun r=>Does E 61 [.one (.s .far () 1 (x0.map etI)),.one (tI x1)] [(false,[tS r])]):=by
 unfold nv
 apply K0<;>intro h0
 ·exact KX (DP Tryz.f61 [.val (.int .i64 (x0.length:Int)),.b true] (ALn x0 etI<|AC h0<|AN))
 ·refine K2 (fun hl2 => ?_)
  refine K1 (fun y hy => ?_)
  replace hy:=CI x0 x0 0 ByteArray.empty rfl hl2 y hy
  cases y with
  | x0 w0_5 =>
   have h1:=hy
   exact KX (DP Tryz.f61 [.val (.int .i64 (x0.length:Int)),.b false,.lp (.exit 0) (nc w0_5)] (ALn x0 etI<|AC h0<|AL h1<|AN))
def fX (c:UInt8):List (List UInt8)→List UInt8
 | []=>[]
 | x::xs=>x++(xs.map fun y=>c::y).flatten
theorem up (c:UInt8):∀ xs:List (List UInt8),Lib.join xs [c]=fX c xs
 | []=>rfl
 | [x]=>by simp [Lib.join,List.intercalate,fX]
 | x::y::xs=>by
  have ih:=up c (y::xs)
  unfold Lib.join List.intercalate at ih ⊢
  rw [List.intersperse_cons_cons,List.flatten_cons,List.flatten_cons,ih]
  simp [fX]
theorem sQ (xs:List (List UInt8)) (c:UInt8):aQ (xs.map ofTx) ⟨#[c]⟩=ofTx (fX c xs):=by
 unfold aQ
 have:(xs.map ofTx).map (fun s:ByteArray=>s.data.toList)=xs:=by
  rw [List.map_map]
  conv=>rhs;rw [← List.map_id xs]
  rfl
 rw [this]
 show ofTx (Lib.join xs [c])=_
 rw [up]
theorem vj (c:UInt8) (k:Nat):∀ xs:List (List UInt8),(∀ x∈xs,x.length≤k)→(fX c xs).length≤xs.length*(k+1)
 | [],_=>by simp [fX]
 | x::xs,h=>by
  have hx:=h x (by simp)
  have:∀ ys:List (List UInt8),(∀ y∈ys,y.length≤k)→((ys.map fun y=>c::y).flatten).length≤ys.length*(k+1):=by
   intro ys
   induction ys with
   | nil=>intro _;simp
   | cons y ys ih =>
    intro h
    have:=ih fun z hz=>h z (by simp [hz])
    have:=h y (by simp)
    simp [Nat.add_mul] at *
    omega
  have:=this xs fun y hy=>h y (by simp [hy])
  simp only [fX,List.length_append,List.length_cons,Nat.add_mul]
  omega
theorem wk {x:Int} (h:0≤x∧x≤59):(tx (be x)).length≤2:=by
 show (Lib.itoa x).length≤2
 unfold Lib.itoa
 rw [if_neg (by omega)]
 exact rK 1 _ (by omega)
noncomputable def ay (l:List Int) (size:Int):ByteArray:=cond ((l.length:Int)==size) ⟨#[42]⟩ (ofTx (fX 44 (l.map fun x=>tx (be x))))
theorem fh {l:List Int} (hl:l.length≤60) (h:∀ z∈l,0≤z∧z≤59) (n:Int):(ay l n).size≤200:=by
 unfold ay
 cases (l.length:Int)==n with
 | true=>exact (by decide:(⟨#[42]⟩:ByteArray).size≤200)
 | false =>
  rw [cond_false,nH]
  have:=vj 44 2 (l.map fun x=>tx (be x)) (fun y hy=>by
   obtain ⟨x,hx,rfl⟩:=List.mem_map.1 hy
   exact wk (h x hx))
  rw [List.length_map] at this
  omega
theorem Hs:∀ (l:List Int) (i:Nat) (v:List UInt8),(∀ z∈l,0≤z∧z≤59)→0<i→v.length+l.length*3≤1000→dO l i (ofTx v)=some (.x0 (ofTx (v++((l.map fun x=>44::tx (be x)).flatten))))
 | [],i,v,_,_,_=>by unfold dO;simp
 | x::l,i,v,h,hi,hl=>by
  have hx:=h x (by simp)
  have hz:=wk hx
  have e44:(⟨#[44]⟩:ByteArray)=ofTx [44]:=rfl
  simp only [List.length_cons] at hl
  unfold dO
  rw [decide_eq_true (by omega),cond_true,e44,m4, ← re (be x),m4]
  simp only [nH,rt]
  rw [if_pos (by simp [maxStr];omega),if_pos (by omega),if_pos (by simp [maxStr];omega),Hs l (i+1) _ (fun z hz=>h z (by simp [hz])) (by omega) (by simp;omega)]
  simp
theorem Ji (l:List Int) (n:Int) (hl:l.length≤60) (h:∀ z∈l,0≤z∧z≤59):nv l n=some (ay l n):=by
 unfold nv ay
 cases (l.length:Int)==n with
 | true=>rfl
 | false =>
  rw [cond_false,cond_false,if_pos (by omega)]
  cases l with
  | nil=>rfl
  | cons x l =>
   have hx:=h x (by simp)
   have hz:=wk hx
   simp only [List.length_cons] at hl
   unfold dO
   have e:ByteArray.empty++be x=ofTx (tx (be x)):=by
    show ofTx []++ofTx (tx (be x))=_
    rw [m4];rfl
   have hz':(be x).size≤2:=by rw [cM];exact hz
   have e0:ByteArray.empty.size=0:=rfl
   rw [decide_eq_false (by omega),cond_false,if_pos (by omega),if_pos (by rw [e0];unfold maxStr;omega),e,Hs l _ _ (fun z hz=>h z (by simp [hz])) (by omega) (by omega),Option.bind_some]
   simp only [List.map_cons,fX,List.map_map]
   rfl
theorem kS (x0:List Int) (x1:Int) (h1:x0.length≤60) (h2:∀ z∈x0,0≤z∧z≤59):Does E 61 [.one (.s .far () 1 (x0.map etI)),.one (tI x1)] [(false,[tS (ay x0 x1)])]:=by
 exact D9 x0 x1 _ (Ji x0 x1 h1 h2)
noncomputable def mD (x0:GCron):Option (ByteArray×Bool) :=
  if am.sm x0 then cond (gL x0)
   (if x0.f0.length≤60 then if ∀ z∈x0.f0,0≤z∧z≤59 then if (ay x0.f0 (60:Int)).size+(⟨#[32]⟩:ByteArray).size≤maxStr then if x0.f1.length≤60 then if ∀ z∈x0.f1,0≤z∧z≤59 then if ((ay x0.f0 (60:Int))++(⟨#[32]⟩:ByteArray)).size+(ay x0.f1 (24:Int)).size≤maxStr then if (((ay x0.f0 (60:Int))++(⟨#[32]⟩:ByteArray))++(ay x0.f1 (24:Int))).size+(⟨#[32]⟩:ByteArray).size≤maxStr then if x0.f2.length≤60 then if ∀ z∈x0.f2,0≤z∧z≤59 then if ((((ay x0.f0 (60:Int))++(⟨#[32]⟩:ByteArray))++(ay x0.f1 (24:Int)))++(⟨#[32]⟩:ByteArray)).size+(ay x0.f2 (31:Int)).size≤maxStr then if (((((ay x0.f0 (60:Int))++(⟨#[32]⟩:ByteArray))++(ay x0.f1 (24:Int)))++(⟨#[32]⟩:ByteArray))++(ay x0.f2 (31:Int))).size+(⟨#[32]⟩:ByteArray).size≤maxStr then if x0.f3.length≤60 then if ∀ z∈x0.f3,0≤z∧z≤59 then if ((((((ay x0.f0 (60:Int))++(⟨#[32]⟩:ByteArray))++(ay x0.f1 (24:Int)))++(⟨#[32]⟩:ByteArray))++(ay x0.f2 (31:Int)))++(⟨#[32]⟩:ByteArray)).size+(ay x0.f3 (12:Int)).size≤maxStr then if (((((((ay x0.f0 (60:Int))++(⟨#[32]⟩:ByteArray))++(ay x0.f1 (24:Int)))++(⟨#[32]⟩:ByteArray))++(ay x0.f2 (31:Int)))++(⟨#[32]⟩:ByteArray))++(ay x0.f3 (12:Int))).size+(⟨#[32]⟩:ByteArray).size≤maxStr then if x0.f4.length≤60 then if ∀ z∈x0.f4,0≤z∧z≤59 then if ((((((((ay x0.f0 (60:Int))++(⟨#[32]⟩:ByteArray))++(ay x0.f1 (24:Int)))++(⟨#[32]⟩:ByteArray))++(ay x0.f2 (31:Int)))++(⟨#[32]⟩:ByteArray))++(ay x0.f3 (12:Int)))++(⟨#[32]⟩:ByteArray)).size+(ay x0.f4 (7:Int)).size≤maxStr then some (((((((((ay x0.f0 (60:Int))++(⟨#[32]⟩:ByteArray))++(ay x0.f1 (24:Int)))++(⟨#[32]⟩:ByteArray))++(ay x0.f2 (31:Int)))++(⟨#[32]⟩:ByteArray))++(ay x0.f3 (12:Int)))++(⟨#[32]⟩:ByteArray))++(ay x0.f4 (7:Int)),true) else none else none else none else none else none else none else none else none else none else none else none else none else none else none else none else none else none else none)
   (some (ByteArray.empty,false)) else none
theorem Cy (x0:GCron):Ans (mD x0) (fun r=>Does E 35 [.agg (GCron.t .far x0)] [(false,[tS r.1]),(false,[tB r.2])]):=by
 unfold mD
 refine K2 (fun h0 => ?_)
 apply K0<;>intro h1
 ·refine K2 (fun h2 => ?_)
  refine K2 (fun h3 => ?_)
  refine K2 (fun h4 => ?_)
  refine K2 (fun h5 => ?_)
  refine K2 (fun h6 => ?_)
  refine K2 (fun h7 => ?_)
  refine K2 (fun h8 => ?_)
  refine K2 (fun h9 => ?_)
  refine K2 (fun h10 => ?_)
  refine K2 (fun h11 => ?_)
  refine K2 (fun h12 => ?_)
  refine K2 (fun h13 => ?_)
  refine K2 (fun h14 => ?_)
  refine K2 (fun h15 => ?_)
  refine K2 (fun h16 => ?_)
  refine K2 (fun h17 => ?_)
  refine K2 (fun h18 => ?_)
  refine K2 (fun h19 => ?_)
  exact KX (DP Tryz.f35 [rT,.ret [(false,[tS (ay x0.f0 (60:Int))])],.val (.string ((ay x0.f0 (60:Int))++(⟨#[32]⟩:ByteArray))),.ret [(false,[tS (ay x0.f1 (24:Int))])],.val (.string (((ay x0.f0 (60:Int))++(⟨#[32]⟩:ByteArray))++(ay x0.f1 (24:Int)))),.val (.string ((((ay x0.f0 (60:Int))++(⟨#[32]⟩:ByteArray))++(ay x0.f1 (24:Int)))++(⟨#[32]⟩:ByteArray))),.ret [(false,[tS (ay x0.f2 (31:Int))])],.val (.string (((((ay x0.f0 (60:Int))++(⟨#[32]⟩:ByteArray))++(ay x0.f1 (24:Int)))++(⟨#[32]⟩:ByteArray))++(ay x0.f2 (31:Int)))),.val (.string ((((((ay x0.f0 (60:Int))++(⟨#[32]⟩:ByteArray))++(ay x0.f1 (24:Int)))++(⟨#[32]⟩:ByteArray))++(ay x0.f2 (31:Int)))++(⟨#[32]⟩:ByteArray))),.ret [(false,[tS (ay x0.f3 (12:Int))])],.val (.string (((((((ay x0.f0 (60:Int))++(⟨#[32]⟩:ByteArray))++(ay x0.f1 (24:Int)))++(⟨#[32]⟩:ByteArray))++(ay x0.f2 (31:Int)))++(⟨#[32]⟩:ByteArray))++(ay x0.f3 (12:Int)))),.val (.string ((((((((ay x0.f0 (60:Int))++(⟨#[32]⟩:ByteArray))++(ay x0.f1 (24:Int)))++(⟨#[32]⟩:ByteArray))++(ay x0.f2 (31:Int)))++(⟨#[32]⟩:ByteArray))++(ay x0.f3 (12:Int)))++(⟨#[32]⟩:ByteArray))),.ret [(false,[tS (ay x0.f4 (7:Int))])],.val (.string (((((((((ay x0.f0 (60:Int))++(⟨#[32]⟩:ByteArray))++(ay x0.f1 (24:Int)))++(⟨#[32]⟩:ByteArray))++(ay x0.f2 (31:Int)))++(⟨#[32]⟩:ByteArray))++(ay x0.f3 (12:Int)))++(⟨#[32]⟩:ByteArray))++(ay x0.f4 (7:Int))))] (AD (K5 (wO x0 h0) h1)<|AD (kS x0.f0 (60:Int) h2 h3)<|AC (fG (tab:=E.tab) (t:=9) h4)<|AD (kS x0.f1 (24:Int) h5 h6)<|AC (fG (tab:=E.tab) (t:=9) h7)<|AC (fG (tab:=E.tab) (t:=9) h8)<|AD (kS x0.f2 (31:Int) h9 h10)<|AC (fG (tab:=E.tab) (t:=9) h11)<|AC (fG (tab:=E.tab) (t:=9) h12)<|AD (kS x0.f3 (12:Int) h13 h14)<|AC (fG (tab:=E.tab) (t:=9) h15)<|AC (fG (tab:=E.tab) (t:=9) h16)<|AD (kS x0.f4 (7:Int) h17 h18)<|AC (fG (tab:=E.tab) (t:=9) h19)<|AN))
 ·exact KX (DP Tryz.f35 [rF] (AD (K5 (wO x0 h0) h1)<|AN))
inductive sP where
 | x2 (v7:List ByteArray)
def k8 (v1_0 v1_1 v1_2 v1_3 v1_4:List Int) (v4 v7:List ByteArray) (v14:Int) (v28:List Int) (v29 v30:Int):US:=stL 48 [(1,.box () [.s .far () 1 (v1_0.map etI),.s .far () 1 (v1_1.map etI),.s .far () 1 (v1_2.map etI),.s .far () 1 (v1_3.map etI),.s .far () 1 (v1_4.map etI)]),(4,.one (.s .own () 1 (v4.map etS))),(7,.one (.s .own () 1 (v7.map etS))),(13,.clo (.arr [0,1,2,3,4]) [1,1,1,1,1]),(14,.one (tI v14)),(28,.one (.s .far () 1 (v28.map etI))),(29,.one (tI v29)),(30,.one (tI v30))]
def et (v1_0 v1_1 v1_2 v1_3 v1_4:List Int) (v4:List ByteArray) (v14:Int) (zv7:List ByteArray):US:=stL 48 [(1,.box () [.s .far () 1 (v1_0.map etI),.s .far () 1 (v1_1.map etI),.s .far () 1 (v1_2.map etI),.s .far () 1 (v1_3.map etI),.s .far () 1 (v1_4.map etI)]),(4,.one (.s .own () 1 (v4.map etS))),(7,.one (.s .own () 1 (zv7.map etS))),(13,.clo (.arr [0,1,2,3,4]) [1,1,1,1,1]),(14,.one (tI v14))]
abbrev sO:US→Exit→US→Prop:=Round E 65 (aw Tryz.f65 1)
def zX (v1_0 v1_1 v1_2 v1_3 v1_4:List Int) (v4 v7:List ByteArray) (v14:Int) (v28:List Int) (v29 v30:Int):sP→Prop
 | .x2 zv7=>Loops E 65 (aw Tryz.f65 1) (k8 v1_0 v1_1 v1_2 v1_3 v1_4 v4 v7 v14 v28 v29 v30) (.exit 2) (et v1_0 v1_1 v1_2 v1_3 v1_4 v4 v14 zv7)
noncomputable def bW  : List Int→Nat→(List ByteArray)→Option sP
 | [],i,v7=>some (.x2 v7)
 | hd::rest,i,v7=>if -9223372036854775808≤hd∧hd≤9223372036854775807 then if (v7.length+([be hd]).length)*16≤140737488355328∧v7.length+([be hd]).length≤4611686018427387904 then bW rest (i+1) (v7++([be hd])) else none else none
theorem jd (v1_0 v1_1 v1_2 v1_3 v1_4:List Int) (v4:List ByteArray) (v14:Int) (v28:List Int) (rest:List Int):∀ (i:Nat) (v7:List ByteArray),(v28).drop i=rest→v28.length≤9223372036854775807→Ans (bW rest i v7) (zX v1_0 v1_1 v1_2 v1_3 v1_4 v4 v7 v14 v28 (v28.length:Int) (i:Int)):=by
 induction rest with
 | nil =>
  intro i v7 hE hl
  have hb:=bo hE
  unfold bW
  exact KX (KZ (show sO (k8 v1_0 v1_1 v1_2 v1_3 v1_4 v4 v7 v14 v28 (v28.length:Int) (i:Int)) (.exit 2) (et v1_0 v1_1 v1_2 v1_3 v1_4 v4 v14 v7) from RP [.b false] (AC hb<|AN)) (by intro h;cases h))
 | cons hd rest ih =>
  intro i v7 hE hl
  have hb:=aY hE
  have hw:=aZ hE hl
  have hE2:=aH hE
  have hg:=bc hE
  unfold bW
  refine K2 (fun h2 => ?_)
  refine K2 (fun h3 => ?_)
  exact (ih (i+1) (v7++([be hd])) hE2 hl).mono fun y hy=>by have r:sO (k8 v1_0 v1_1 v1_2 v1_3 v1_4 v4 v7 v14 v28 (v28.length:Int) (i:Int)) .normal (k8 v1_0 v1_1 v1_2 v1_3 v1_4 v4 (v7++([be hd])) v14 v28 (v28.length:Int) (inc (i:Int))):=RP [.b true,.row (etI hd),.ret [(false,[tS (be hd)])],.rows ((v7++([be hd])).map etS)] (AC hb<|AR etI hg<|AD (qa hd h2)<|AAp etS (fun _=>rfl) h3<|AN);rw [hw] at r;cases y<;>exact KY r hy
inductive nM where
 | x0 (v4:List ByteArray)
def aU (v1_0 v1_1 v1_2 v1_3 v1_4:List Int) (v4:List ByteArray) (v14:Int):US:=stL 48 [(1,.box () [.s .far () 1 (v1_0.map etI),.s .far () 1 (v1_1.map etI),.s .far () 1 (v1_2.map etI),.s .far () 1 (v1_3.map etI),.s .far () 1 (v1_4.map etI)]),(4,.one (.s .own () 1 (v4.map etS))),(13,.clo (.arr [0,1,2,3,4]) [1,1,1,1,1]),(14,.one (tI v14))]
def me (zv4:List ByteArray):US:=stL 48 [(4,.one (.s .own () 1 (zv4.map etS)))]
abbrev cB:US→Exit→US→Prop:=Round E 65 (aw Tryz.f65 0)
def zW (v1_0 v1_1 v1_2 v1_3 v1_4:List Int) (v4:List ByteArray) (v14:Int):nM→Prop
 | .x0 zv4=>Loops E 65 (aw Tryz.f65 0) (aU v1_0 v1_1 v1_2 v1_3 v1_4 v4 v14) (.exit 0) (me zv4)
noncomputable def aF (v1_0 v1_1 v1_2 v1_3 v1_4:List Int):Nat→(List ByteArray)→Int→Option nM
 | 0,_,_=>none
 | n+1,v4,v14=>cond (decide (v14<(5:Int)))
  (cond (v14==(0:Int))
   (cond (mm v1_0 v14)
    (if (v4.length+([(⟨#[42]⟩:ByteArray)]).length)*16≤140737488355328∧v4.length+([(⟨#[42]⟩:ByteArray)]).length≤4611686018427387904 then aF v1_0 v1_1 v1_2 v1_3 v1_4 n (v4++([(⟨#[42]⟩:ByteArray)])) (inc v14) else none)
    (if v1_0.length≤9223372036854775807 then (bW v1_0 0 ([])).bind fun y=>match y with
     | .x2 w0_7=>(if w0_7.length≤140737488355328∧(aQ w0_7 (⟨#[44]⟩:ByteArray)).size≤140737488355328 then if (v4.length+([aQ w0_7 (⟨#[44]⟩:ByteArray)]).length)*16≤140737488355328∧v4.length+([aQ w0_7 (⟨#[44]⟩:ByteArray)]).length≤4611686018427387904 then aF v1_0 v1_1 v1_2 v1_3 v1_4 n (v4++([aQ w0_7 (⟨#[44]⟩:ByteArray)])) (inc v14) else none else none) else none))
   (cond (v14==(1:Int))
    (cond (mm v1_1 v14)
     (if (v4.length+([(⟨#[42]⟩:ByteArray)]).length)*16≤140737488355328∧v4.length+([(⟨#[42]⟩:ByteArray)]).length≤4611686018427387904 then aF v1_0 v1_1 v1_2 v1_3 v1_4 n (v4++([(⟨#[42]⟩:ByteArray)])) (inc v14) else none)
     (if v1_1.length≤9223372036854775807 then (bW v1_1 0 ([])).bind fun y=>match y with
      | .x2 w0_7=>(if w0_7.length≤140737488355328∧(aQ w0_7 (⟨#[44]⟩:ByteArray)).size≤140737488355328 then if (v4.length+([aQ w0_7 (⟨#[44]⟩:ByteArray)]).length)*16≤140737488355328∧v4.length+([aQ w0_7 (⟨#[44]⟩:ByteArray)]).length≤4611686018427387904 then aF v1_0 v1_1 v1_2 v1_3 v1_4 n (v4++([aQ w0_7 (⟨#[44]⟩:ByteArray)])) (inc v14) else none else none) else none))
    (cond (v14==(2:Int))
     (cond (mm v1_2 v14)
      (if (v4.length+([(⟨#[42]⟩:ByteArray)]).length)*16≤140737488355328∧v4.length+([(⟨#[42]⟩:ByteArray)]).length≤4611686018427387904 then aF v1_0 v1_1 v1_2 v1_3 v1_4 n (v4++([(⟨#[42]⟩:ByteArray)])) (inc v14) else none)
      (if v1_2.length≤9223372036854775807 then (bW v1_2 0 ([])).bind fun y=>match y with
       | .x2 w0_7=>(if w0_7.length≤140737488355328∧(aQ w0_7 (⟨#[44]⟩:ByteArray)).size≤140737488355328 then if (v4.length+([aQ w0_7 (⟨#[44]⟩:ByteArray)]).length)*16≤140737488355328∧v4.length+([aQ w0_7 (⟨#[44]⟩:ByteArray)]).length≤4611686018427387904 then aF v1_0 v1_1 v1_2 v1_3 v1_4 n (v4++([aQ w0_7 (⟨#[44]⟩:ByteArray)])) (inc v14) else none else none) else none))
     (cond (v14==(3:Int))
      (cond (mm v1_3 v14)
       (if (v4.length+([(⟨#[42]⟩:ByteArray)]).length)*16≤140737488355328∧v4.length+([(⟨#[42]⟩:ByteArray)]).length≤4611686018427387904 then aF v1_0 v1_1 v1_2 v1_3 v1_4 n (v4++([(⟨#[42]⟩:ByteArray)])) (inc v14) else none)
       (if v1_3.length≤9223372036854775807 then (bW v1_3 0 ([])).bind fun y=>match y with
        | .x2 w0_7=>(if w0_7.length≤140737488355328∧(aQ w0_7 (⟨#[44]⟩:ByteArray)).size≤140737488355328 then if (v4.length+([aQ w0_7 (⟨#[44]⟩:ByteArray)]).length)*16≤140737488355328∧v4.length+([aQ w0_7 (⟨#[44]⟩:ByteArray)]).length≤4611686018427387904 then aF v1_0 v1_1 v1_2 v1_3 v1_4 n (v4++([aQ w0_7 (⟨#[44]⟩:ByteArray)])) (inc v14) else none else none) else none))
      (if v14=(4:Int) then cond (mm v1_4 v14)
       (if (v4.length+([(⟨#[42]⟩:ByteArray)]).length)*16≤140737488355328∧v4.length+([(⟨#[42]⟩:ByteArray)]).length≤4611686018427387904 then aF v1_0 v1_1 v1_2 v1_3 v1_4 n (v4++([(⟨#[42]⟩:ByteArray)])) (inc v14) else none)
       (if v1_4.length≤9223372036854775807 then (bW v1_4 0 ([])).bind fun y=>match y with
        | .x2 w0_7=>(if w0_7.length≤140737488355328∧(aQ w0_7 (⟨#[44]⟩:ByteArray)).size≤140737488355328 then if (v4.length+([aQ w0_7 (⟨#[44]⟩:ByteArray)]).length)*16≤140737488355328∧v4.length+([aQ w0_7 (⟨#[44]⟩:ByteArray)]).length≤4611686018427387904 then aF v1_0 v1_1 v1_2 v1_3 v1_4 n (v4++([aQ w0_7 (⟨#[44]⟩:ByteArray)])) (inc v14) else none else none) else none) else none)))))
  (some (.x0 v4))
theorem zV (v1_0 v1_1 v1_2 v1_3 v1_4:List Int) (n:Nat):∀ (v4:List ByteArray) (v14:Int),Ans (aF v1_0 v1_1 v1_2 v1_3 v1_4 n v4 v14) (zW v1_0 v1_1 v1_2 v1_3 v1_4 v4 v14):=by
 induction n with
 | zero=>intros;exact Ans.none
 | succ n ih =>
  intro v4 v14
  unfold aF
  apply K0<;>intro h0
  ·apply K0<;>intro h1
   ·apply K0<;>intro h2
    ·refine K2 (fun h3 => ?_)
     have r:cB (aU v1_0 v1_1 v1_2 v1_3 v1_4 v4 v14) .normal (aU v1_0 v1_1 v1_2 v1_3 v1_4 (v4++([(⟨#[42]⟩:ByteArray)])) (inc v14)):=RP [.b true,.val (.int .i64 0),rT,.rows ((v4++([(⟨#[42]⟩:ByteArray)])).map etS)] (AC h0<|AC (p:=v14=(0:Int)) (eq_of_beq h1)<|AD (K5 (fL v1_0 v14) h2)<|AAp etS (fun _=>rfl) h3<|AN);exact (ih (v4++([(⟨#[42]⟩:ByteArray)])) (inc v14)).mono fun y hy=>by cases y<;>exact KY r hy
    ·refine K2 (fun hl5 => ?_)
     refine K1 (fun y hy => ?_)
     replace hy:=jd v1_0 v1_1 v1_2 v1_3 v1_4 v4 v14 v1_0 v1_0 0 ([]) rfl hl5 y hy
     cases y with
     | x2 w0_7 =>
      have h3:=hy
      refine K2 (fun h4 => ?_)
      refine K2 (fun h5 => ?_)
      have r:cB (aU v1_0 v1_1 v1_2 v1_3 v1_4 v4 v14) .normal (aU v1_0 v1_1 v1_2 v1_3 v1_4 (v4++([aQ w0_7 (⟨#[44]⟩:ByteArray)])) (inc v14)):=RP [.b true,.val (.int .i64 0),rF,.val (.int .i64 (v1_0.length:Int)),.lp (.exit 2) (et v1_0 v1_1 v1_2 v1_3 v1_4 v4 v14 w0_7),.ret [(false,[tS (aQ w0_7 (⟨#[44]⟩:ByteArray))])],.rows ((v4++([aQ w0_7 (⟨#[44]⟩:ByteArray)])).map etS)] (AC h0<|AC (p:=v14=(0:Int)) (eq_of_beq h1)<|AD (K5 (fL v1_0 v14) h2)<|ALn v1_0 etI<|AL h3<|AV (ψ:=fun k=>E.C k 84 [.one (.s .far () 1 (((w0_7.map etS).drop 0).take (w0_7.map etS).length)),.one (tS (⟨#[44]⟩:ByteArray))]=some [(false,[tS (aQ w0_7 (⟨#[44]⟩:ByteArray))])]) (K4 (by simp only [List.take_length,List.drop_zero]) (fV w0_7 (⟨#[44]⟩:ByteArray) h4))<|AAp etS (fun _=>rfl) h5<|AN);exact (ih (v4++([aQ w0_7 (⟨#[44]⟩:ByteArray)])) (inc v14)).mono fun y hy=>by cases y<;>exact KY r hy
   ·apply K0<;>intro h2
    ·apply K0<;>intro h3
     ·refine K2 (fun h4 => ?_)
      have r:cB (aU v1_0 v1_1 v1_2 v1_3 v1_4 v4 v14) .normal (aU v1_0 v1_1 v1_2 v1_3 v1_4 (v4++([(⟨#[42]⟩:ByteArray)])) (inc v14)):=RP [.b true,.val (.int .i64 1),rT,.rows ((v4++([(⟨#[42]⟩:ByteArray)])).map etS)] (AC h0<|AC (p:=v14=(1:Int)) (eq_of_beq h2)<|AD (K5 (fL v1_1 v14) h3)<|AAp etS (fun _=>rfl) h4<|AN);exact (ih (v4++([(⟨#[42]⟩:ByteArray)])) (inc v14)).mono fun y hy=>by cases y<;>exact KY r hy
     ·refine K2 (fun hl6 => ?_)
      refine K1 (fun y hy => ?_)
      replace hy:=jd v1_0 v1_1 v1_2 v1_3 v1_4 v4 v14 v1_1 v1_1 0 ([]) rfl hl6 y hy
      cases y with
      | x2 w0_7 =>
       have h4:=hy
       refine K2 (fun h5 => ?_)
       refine K2 (fun h6 => ?_)
       have r:cB (aU v1_0 v1_1 v1_2 v1_3 v1_4 v4 v14) .normal (aU v1_0 v1_1 v1_2 v1_3 v1_4 (v4++([aQ w0_7 (⟨#[44]⟩:ByteArray)])) (inc v14)):=RP [.b true,.val (.int .i64 1),rF,.val (.int .i64 (v1_1.length:Int)),.lp (.exit 2) (et v1_0 v1_1 v1_2 v1_3 v1_4 v4 v14 w0_7),.ret [(false,[tS (aQ w0_7 (⟨#[44]⟩:ByteArray))])],.rows ((v4++([aQ w0_7 (⟨#[44]⟩:ByteArray)])).map etS)] (AC h0<|AC (p:=v14=(1:Int)) (eq_of_beq h2)<|AD (K5 (fL v1_1 v14) h3)<|ALn v1_1 etI<|AL h4<|AV (ψ:=fun k=>E.C k 84 [.one (.s .far () 1 (((w0_7.map etS).drop 0).take (w0_7.map etS).length)),.one (tS (⟨#[44]⟩:ByteArray))]=some [(false,[tS (aQ w0_7 (⟨#[44]⟩:ByteArray))])]) (K4 (by simp only [List.take_length,List.drop_zero]) (fV w0_7 (⟨#[44]⟩:ByteArray) h5))<|AAp etS (fun _=>rfl) h6<|AN);exact (ih (v4++([aQ w0_7 (⟨#[44]⟩:ByteArray)])) (inc v14)).mono fun y hy=>by cases y<;>exact KY r hy
    ·apply K0<;>intro h3
     ·apply K0<;>intro h4
      ·refine K2 (fun h5 => ?_)
       have r:cB (aU v1_0 v1_1 v1_2 v1_3 v1_4 v4 v14) .normal (aU v1_0 v1_1 v1_2 v1_3 v1_4 (v4++([(⟨#[42]⟩:ByteArray)])) (inc v14)):=RP [.b true,.val (.int .i64 2),rT,.rows ((v4++([(⟨#[42]⟩:ByteArray)])).map etS)] (AC h0<|AC (p:=v14=(2:Int)) (eq_of_beq h3)<|AD (K5 (fL v1_2 v14) h4)<|AAp etS (fun _=>rfl) h5<|AN);exact (ih (v4++([(⟨#[42]⟩:ByteArray)])) (inc v14)).mono fun y hy=>by cases y<;>exact KY r hy
      ·refine K2 (fun hl7 => ?_)
       refine K1 (fun y hy => ?_)
       replace hy:=jd v1_0 v1_1 v1_2 v1_3 v1_4 v4 v14 v1_2 v1_2 0 ([]) rfl hl7 y hy
       cases y with
       | x2 w0_7 =>
        have h5:=hy
        refine K2 (fun h6 => ?_)
        refine K2 (fun h7 => ?_)
        have r:cB (aU v1_0 v1_1 v1_2 v1_3 v1_4 v4 v14) .normal (aU v1_0 v1_1 v1_2 v1_3 v1_4 (v4++([aQ w0_7 (⟨#[44]⟩:ByteArray)])) (inc v14)):=RP [.b true,.val (.int .i64 2),rF,.val (.int .i64 (v1_2.length:Int)),.lp (.exit 2) (et v1_0 v1_1 v1_2 v1_3 v1_4 v4 v14 w0_7),.ret [(false,[tS (aQ w0_7 (⟨#[44]⟩:ByteArray))])],.rows ((v4++([aQ w0_7 (⟨#[44]⟩:ByteArray)])).map etS)] (AC h0<|AC (p:=v14=(2:Int)) (eq_of_beq h3)<|AD (K5 (fL v1_2 v14) h4)<|ALn v1_2 etI<|AL h5<|AV (ψ:=fun k=>E.C k 84 [.one (.s .far () 1 (((w0_7.map etS).drop 0).take (w0_7.map etS).length)),.one (tS (⟨#[44]⟩:ByteArray))]=some [(false,[tS (aQ w0_7 (⟨#[44]⟩:ByteArray))])]) (K4 (by simp only [List.take_length,List.drop_zero]) (fV w0_7 (⟨#[44]⟩:ByteArray) h6))<|AAp etS (fun _=>rfl) h7<|AN);exact (ih (v4++([aQ w0_7 (⟨#[44]⟩:ByteArray)])) (inc v14)).mono fun y hy=>by cases y<;>exact KY r hy
     ·apply K0<;>intro h4
      ·apply K0<;>intro h5
       ·refine K2 (fun h6 => ?_)
        have r:cB (aU v1_0 v1_1 v1_2 v1_3 v1_4 v4 v14) .normal (aU v1_0 v1_1 v1_2 v1_3 v1_4 (v4++([(⟨#[42]⟩:ByteArray)])) (inc v14)):=RP [.b true,.val (.int .i64 3),rT,.rows ((v4++([(⟨#[42]⟩:ByteArray)])).map etS)] (AC h0<|AC (p:=v14=(3:Int)) (eq_of_beq h4)<|AD (K5 (fL v1_3 v14) h5)<|AAp etS (fun _=>rfl) h6<|AN);exact (ih (v4++([(⟨#[42]⟩:ByteArray)])) (inc v14)).mono fun y hy=>by cases y<;>exact KY r hy
       ·refine K2 (fun hl8 => ?_)
        refine K1 (fun y hy => ?_)
        replace hy:=jd v1_0 v1_1 v1_2 v1_3 v1_4 v4 v14 v1_3 v1_3 0 ([]) rfl hl8 y hy
        cases y with
        | x2 w0_7 =>
         have h6:=hy
         refine K2 (fun h7 => ?_)
         refine K2 (fun h8 => ?_)
         have r:cB (aU v1_0 v1_1 v1_2 v1_3 v1_4 v4 v14) .normal (aU v1_0 v1_1 v1_2 v1_3 v1_4 (v4++([aQ w0_7 (⟨#[44]⟩:ByteArray)])) (inc v14)):=RP [.b true,.val (.int .i64 3),rF,.val (.int .i64 (v1_3.length:Int)),.lp (.exit 2) (et v1_0 v1_1 v1_2 v1_3 v1_4 v4 v14 w0_7),.ret [(false,[tS (aQ w0_7 (⟨#[44]⟩:ByteArray))])],.rows ((v4++([aQ w0_7 (⟨#[44]⟩:ByteArray)])).map etS)] (AC h0<|AC (p:=v14=(3:Int)) (eq_of_beq h4)<|AD (K5 (fL v1_3 v14) h5)<|ALn v1_3 etI<|AL h6<|AV (ψ:=fun k=>E.C k 84 [.one (.s .far () 1 (((w0_7.map etS).drop 0).take (w0_7.map etS).length)),.one (tS (⟨#[44]⟩:ByteArray))]=some [(false,[tS (aQ w0_7 (⟨#[44]⟩:ByteArray))])]) (K4 (by simp only [List.take_length,List.drop_zero]) (fV w0_7 (⟨#[44]⟩:ByteArray) h7))<|AAp etS (fun _=>rfl) h8<|AN);exact (ih (v4++([aQ w0_7 (⟨#[44]⟩:ByteArray)])) (inc v14)).mono fun y hy=>by cases y<;>exact KY r hy
      ·refine K2 (fun h5 => ?_)
       apply K0<;>intro h6
       ·refine K2 (fun h7 => ?_)
        have r:cB (aU v1_0 v1_1 v1_2 v1_3 v1_4 v4 v14) .normal (aU v1_0 v1_1 v1_2 v1_3 v1_4 (v4++([(⟨#[42]⟩:ByteArray)])) (inc v14)):=RP [.b true,.val (.int .i64 4),rT,.rows ((v4++([(⟨#[42]⟩:ByteArray)])).map etS)] (AC h0<|AC h5<|AD (K5 (fL v1_4 v14) h6)<|AAp etS (fun _=>rfl) h7<|AN);exact (ih (v4++([(⟨#[42]⟩:ByteArray)])) (inc v14)).mono fun y hy=>by cases y<;>exact KY r hy
       ·refine K2 (fun hl8 => ?_)
        refine K1 (fun y hy => ?_)
        replace hy:=jd v1_0 v1_1 v1_2 v1_3 v1_4 v4 v14 v1_4 v1_4 0 ([]) rfl hl8 y hy
        cases y with
        | x2 w0_7 =>
         have h7:=hy
         refine K2 (fun h8 => ?_)
         refine K2 (fun h9 => ?_)
         have r:cB (aU v1_0 v1_1 v1_2 v1_3 v1_4 v4 v14) .normal (aU v1_0 v1_1 v1_2 v1_3 v1_4 (v4++([aQ w0_7 (⟨#[44]⟩:ByteArray)])) (inc v14)):=RP [.b true,.val (.int .i64 4),rF,.val (.int .i64 (v1_4.length:Int)),.lp (.exit 2) (et v1_0 v1_1 v1_2 v1_3 v1_4 v4 v14 w0_7),.ret [(false,[tS (aQ w0_7 (⟨#[44]⟩:ByteArray))])],.rows ((v4++([aQ w0_7 (⟨#[44]⟩:ByteArray)])).map etS)] (AC h0<|AC h5<|AD (K5 (fL v1_4 v14) h6)<|ALn v1_4 etI<|AL h7<|AV (ψ:=fun k=>E.C k 84 [.one (.s .far () 1 (((w0_7.map etS).drop 0).take (w0_7.map etS).length)),.one (tS (⟨#[44]⟩:ByteArray))]=some [(false,[tS (aQ w0_7 (⟨#[44]⟩:ByteArray))])]) (K4 (by simp only [List.take_length,List.drop_zero]) (fV w0_7 (⟨#[44]⟩:ByteArray) h8))<|AAp etS (fun _=>rfl) h9<|AN);exact (ih (v4++([aQ w0_7 (⟨#[44]⟩:ByteArray)])) (inc v14)).mono fun y hy=>by cases y<;>exact KY r hy
  ·exact KX (KZ (show cB (aU v1_0 v1_1 v1_2 v1_3 v1_4 v4 v14) (.exit 0) (me v4) from RP [.b false] (AC h0<|AN)) (by intro h;cases h))
noncomputable def mf (x0:GCron):Option (ByteArray×Bool) :=
  if am.sm x0 then cond (gL x0)
   ((aF x0.f0 x0.f1 x0.f2 x0.f3 x0.f4 9223372036854775808 ([]) (0:Int)).bind fun y=>match y with
    | .x0 w0_4=>(if w0_4.length≤140737488355328∧(aQ w0_4 (⟨#[32]⟩:ByteArray)).size≤140737488355328 then some (aQ w0_4 (⟨#[32]⟩:ByteArray),true) else none))
   (some (ByteArray.empty,false)) else none
theorem BG (x0:GCron):Ans (mf x0) (fun r=>Does E 65 [.agg (GCron.t .far x0)] [(false,[tS r.1]),(false,[tB r.2])]):=by
 unfold mf
 refine K2 (fun h0 => ?_)
 apply K0<;>intro h1
 ·refine K1 (fun y hy => ?_)
  replace hy:=zV x0.f0 x0.f1 x0.f2 x0.f3 x0.f4 9223372036854775808 ([]) (0:Int) y hy
  cases y with
  | x0 w0_4 =>
   have h2:=hy
   refine K2 (fun h3 => ?_)
   exact KX (DP Tryz.f65 [rT,.lp (.exit 0) (me w0_4),.ret [(false,[tS (aQ w0_4 (⟨#[32]⟩:ByteArray))])]] (AD (K5 (wJ x0 h0) h1)<|AL h2<|AV (ψ:=fun k=>E.C k 84 [.one (.s .far () 1 (((w0_4.map etS).drop 0).take (w0_4.map etS).length)),.one (tS (⟨#[32]⟩:ByteArray))]=some [(false,[tS (aQ w0_4 (⟨#[32]⟩:ByteArray))])]) (K4 (by simp only [List.take_length,List.drop_zero]) (fV w0_4 (⟨#[32]⟩:ByteArray) h3))<|AN))
 ·exact KX (DP Tryz.f65 [rF] (AD (K5 (wJ x0 h0) h1)<|AN))
theorem zA {a b:Int}:∀ {l:List Int} {p:Option Int},jg a b l p=true→l.Pairwise (· < ·)∧∀ y,p=some y→∀ x∈l,y<x
 | [],p,_=>⟨by simp,fun y _ x hx=>by cases hx⟩
 | z::l,p,h=>by
  unfold jg at h
  simp only [Bool.and_eq_true] at h
  obtain ⟨h1,h2⟩:=zA h.2
  have h3:=h2 z rfl
  refine ⟨List.pairwise_cons.2 ⟨h3,h1⟩,fun y e x hx => ?_⟩
  subst e
  have h4:y<z:=by simpa using h.1.2
  rcases List.mem_cons.1 hx with rfl | hx
  ·exact h4
  ·have:=h3 x hx;omega
theorem Ct {a b:Int}:∀ {l:List Int} {p:Option Int},jg a b l p=true→∀ x∈l,a≤x∧x≤b
 | [],_,_,x,hx=>by cases hx
 | y::l,p,h,x,hx=>by
  unfold jg at h
  simp only [Bool.and_eq_true] at h
  rcases List.mem_cons.1 hx with rfl | hx
  ·have:=h.1.1;unfold aM at this;simpa using this
  ·exact Ct h.2 x hx
theorem zn {l:List Int} {a b:Int} (h:aR l a b=true):∀ x∈l,a≤x∧x≤b:=by
 unfold aR at h
 rw [Bool.and_eq_true] at h
 have h:=h.1
 exact Ct h
theorem FM {l:List Int} {a b:Int} (h:aR l a b=true) (hab:a≤b+1):(l.length:Int)≤b+1-a:=by
 have hi:=zn h
 unfold aR at h
 rw [Bool.and_eq_true] at h
 exact sg a b l a (zA h.1).1 hi hab
theorem wT {c:GCron} (h:gL c=true):aR c.f0 0 59=true∧aR c.f1 0 23=true∧aR c.f2 1 31=true∧aR c.f3 1 12=true∧aR c.f4 0 6=true:=by
 unfold gL at h
 simp only [Bool.and_eq_true] at h
 exact h
theorem fR {l:List Int} {a b:Int} (h:aR l a b=true) (h0:0≤a) (h1:a≤b) (h2:b≤59):l.length≤60∧∀ z∈l,0≤z∧z≤59:=by
 have:=FM h (by omega)
 exact ⟨by omega,fun z hz=>by have:=zn h z hz;omega⟩
noncomputable def rI (c:GCron):ByteArray:=ofTx (fX 32 [tx (ay c.f0 60),tx (ay c.f1 24),tx (ay c.f2 31),tx (ay c.f3 12),tx (ay c.f4 7)])
noncomputable def aX (c:GCron):ByteArray×Bool:=cond (gL c) (rI c,true) (ByteArray.empty,false)
theorem J1 (a b c d e:ByteArray):((((((((a++⟨#[32]⟩)++b)++⟨#[32]⟩)++c)++⟨#[32]⟩)++d)++⟨#[32]⟩)++e:ByteArray)=ofTx (fX 32 [tx a,tx b,tx c,tx d,tx e]):=by
 apply xS
 have e32:tx (⟨#[32]⟩:ByteArray)=[32]:=rfl
 simp [Hz,e32,rt,fX]
theorem JO (c:GCron) (h:am.sm c):mD c=some (aX c):=by
 unfold mD aX
 rw [if_pos h]
 cases q:gL c with
 | false=>rfl
 | true =>
  obtain ⟨k0,k1,k2,k3,k4⟩:=wT q
  have a0:=fR k0 (by decide) (by decide) (by decide)
  have a1:=fR k1 (by decide) (by decide) (by decide)
  have a2:=fR k2 (by decide) (by decide) (by decide)
  have a3:=fR k3 (by decide) (by decide) (by decide)
  have a4:=fR k4 (by decide) (by decide) (by decide)
  have z0:=fh a0.1 a0.2 60
  have z1:=fh a1.1 a1.2 24
  have z2:=fh a2.1 a2.2 31
  have z3:=fh a3.1 a3.2 12
  have z4:=fh a4.1 a4.2 7
  have e32:(⟨#[32]⟩:ByteArray).size=1:=rfl
  rw [cond_true,cond_true]
  simp only [if_pos a0.1,if_pos a0.2,if_pos a1.1,if_pos a1.2,if_pos a2.1,if_pos a2.2,if_pos a3.1,if_pos a3.2,if_pos a4.1,if_pos a4.2,ByteArray.size_append,e32,maxStr]
  repeat rw [if_pos (by omega)]
  rw [J1]
  rfl
theorem IH:∀ (l:List Int) (i:Nat) (v:List ByteArray),(∀ z∈l,0≤z∧z≤59)→v.length+l.length≤1000→bW l i v=some (.x2 (v++l.map be))
 | [],i,v,_,_=>by unfold bW;simp
 | x::l,i,v,h,hl=>by
  have hx:=h x (by simp)
  simp only [List.length_cons] at hl
  unfold bW
  rw [if_pos (by omega),if_pos (by simp;omega),IH l (i+1) _ (fun z hz=>h z (by simp [hz])) (by simp;omega)]
  simp
theorem nI (l:List Int) (hl:l.length≤60) (hm:∀ z∈l,0≤z∧z≤59) (v:List ByteArray) (hv:v.length≤10) (b:Bool) (n:Int) (hb:b=((l.length:Int)==n)) (K:List ByteArray→Option nM) :
  cond b
    (if (v.length+([(⟨#[42]⟩:ByteArray)]).length)*16≤140737488355328∧v.length+([(⟨#[42]⟩:ByteArray)]).length≤4611686018427387904 then K (v++([(⟨#[42]⟩:ByteArray)])) else none)
    (if l.length≤9223372036854775807 then (bW l 0 ([])).bind fun y=>match y with
     | .x2 w0_7=>(if w0_7.length≤140737488355328∧(aQ w0_7 (⟨#[44]⟩:ByteArray)).size≤140737488355328 then if (v.length+([aQ w0_7 (⟨#[44]⟩:ByteArray)]).length)*16≤140737488355328∧v.length+([aQ w0_7 (⟨#[44]⟩:ByteArray)]).length≤4611686018427387904 then K (v++([aQ w0_7 (⟨#[44]⟩:ByteArray)])) else none else none) else none)=K (v++[ay l n]):=by
 subst hb
 have hj:aQ (l.map be) ⟨#[44]⟩=ofTx (fX 44 (l.map fun x=>tx (be x))):=by
  have e:l.map be=(l.map fun x=>tx (be x)).map ofTx:=by rw [List.map_map];rfl
  rw [e,sQ]
 unfold ay
 have hz:=fh hl hm n
 unfold ay at hz
 cases q:(l.length:Int)==n with
 | true=>rw [cond_true,if_pos (by simp;omega),cond_true]
 | false =>
  rw [q,cond_false] at hz
  rw [cond_false,cond_false,if_pos (by omega),IH l 0 [] hm (by simp;omega),Option.bind_some]
  simp only [List.nil_append]
  rw [hj,if_pos (by rw [List.length_map];omega),if_pos (by simp;omega)]
theorem JN (c:GCron) (h:am.sm c):mf c=some (aX c):=by
 unfold mf aX
 rw [if_pos h]
 cases q:gL c with
 | false=>rfl
 | true =>
  obtain ⟨k0,k1,k2,k3,k4⟩:=wT q
  have a0:=fR k0 (by decide) (by decide) (by decide)
  have a1:=fR k1 (by decide) (by decide) (by decide)
  have a2:=fR k2 (by decide) (by decide) (by decide)
  have a3:=fR k3 (by decide) (by decide) (by decide)
  have a4:=fR k4 (by decide) (by decide) (by decide)
  have z0:=fh a0.1 a0.2 60
  have z1:=fh a1.1 a1.2 24
  have z2:=fh a2.1 a2.2 31
  have z3:=fh a3.1 a3.2 12
  have z4:=fh a4.1 a4.2 7
  have s0:∀ n,aF c.f0 c.f1 c.f2 c.f3 c.f4 (n+1) [] 0=aF c.f0 c.f1 c.f2 c.f3 c.f4 n ([]++[ay c.f0 60]) 1:=fun n =>
   nI c.f0 a0.1 a0.2 [] (by simp) (mm c.f0 0) 60 rfl fun w=>aF c.f0 c.f1 c.f2 c.f3 c.f4 n w 1
  have s1:∀ n v,v.length≤10→aF c.f0 c.f1 c.f2 c.f3 c.f4 (n+1) v 1=aF c.f0 c.f1 c.f2 c.f3 c.f4 n (v++[ay c.f1 24]) 2:=fun n v hv =>
   nI c.f1 a1.1 a1.2 v hv (mm c.f1 1) 24 rfl fun w=>aF c.f0 c.f1 c.f2 c.f3 c.f4 n w 2
  have s2:∀ n v,v.length≤10→aF c.f0 c.f1 c.f2 c.f3 c.f4 (n+1) v 2=aF c.f0 c.f1 c.f2 c.f3 c.f4 n (v++[ay c.f2 31]) 3:=fun n v hv =>
   nI c.f2 a2.1 a2.2 v hv (mm c.f2 2) 31 rfl fun w=>aF c.f0 c.f1 c.f2 c.f3 c.f4 n w 3
  have s3:∀ n v,v.length≤10→aF c.f0 c.f1 c.f2 c.f3 c.f4 (n+1) v 3=aF c.f0 c.f1 c.f2 c.f3 c.f4 n (v++[ay c.f3 12]) 4:=fun n v hv =>
   nI c.f3 a3.1 a3.2 v hv (mm c.f3 3) 12 rfl fun w=>aF c.f0 c.f1 c.f2 c.f3 c.f4 n w 4
  have s4:∀ n v,v.length≤10→aF c.f0 c.f1 c.f2 c.f3 c.f4 (n+1) v 4=aF c.f0 c.f1 c.f2 c.f3 c.f4 n (v++[ay c.f4 7]) 5:=fun n v hv =>
   nI c.f4 a4.1 a4.2 v hv (mm c.f4 4) 7 rfl fun w=>aF c.f0 c.f1 c.f2 c.f3 c.f4 n w 5
  have s5:∀ n v,aF c.f0 c.f1 c.f2 c.f3 c.f4 (n+1) v 5=some (.x0 v):=fun n v=>rfl
  have st:aF c.f0 c.f1 c.f2 c.f3 c.f4 (9223372036854775802+6) [] 0=_:=s0 _
  rw [s1 _ _ (by simp),s2 _ _ (by simp),s3 _ _ (by simp),s4 _ _ (by simp),s5] at st
  simp only [List.nil_append,List.cons_append] at st
  rw [cond_true,cond_true]
  refine (congrArg (Option.bind · _) st).trans ?_
  rw [Option.bind_some]
  have ej:aQ [ay c.f0 60,ay c.f1 24,ay c.f2 31,ay c.f3 12,ay c.f4 7] ⟨#[32]⟩=rI c:=sQ [tx (ay c.f0 60),tx (ay c.f1 24),tx (ay c.f2 31),tx (ay c.f3 12),tx (ay c.f4 7)] 32
  have el:(rI c).size≤2000:=by
   unfold rI
   rw [nH]
   have:=vj 32 200 [tx (ay c.f0 60),tx (ay c.f1 24),tx (ay c.f2 31),tx (ay c.f3 12),tx (ay c.f4 7)] (fun x hx=>by
    simp only [List.mem_cons,List.not_mem_nil,or_false] at hx
    rcases hx with rfl | rfl | rfl | rfl | rfl<;>rw [← cM]<;>assumption)
   simp only [List.length_cons,List.length_nil] at this
   omega
  show (if _ then _ else none)=_
  rw [ej,if_pos ⟨by simp,by omega⟩]
theorem eo (x0:GCron) (h:am.sm x0):Does E 35 [.agg (GCron.t .far x0)] [(false,[tS ((aX x0).1)]),(false,[tB ((aX x0).2)])]:=by
 exact Cy x0 _ (JO x0 h)
theorem tu (x0:GCron) (h:am.sm x0):Does E 65 [.agg (GCron.t .far x0)] [(false,[tS ((aX x0).1)]),(false,[tB ((aX x0).2)])]:=by
 exact BG x0 _ (JN x0 h)
end Go.Proofs.YtdcbjglpdbcjpaaGreatDoor.Am
