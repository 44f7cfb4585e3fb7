/- Rules. -/
import Derived.Test.YtgaiiephdjllkaaGreatDoorWords
namespace Go.Proofs.YtgaiiephdjllkaaGreatDoor.Am
open Go Go.Proofs Classical
set_option maxRecDepth 100000
set_option linter.unusedVariables false
set_option linter.unusedSimpArgs false
inductive qk where
 | ret (v2_0 v2_1 v2_2 v2_3 v2_4:List Int) (v3:Bool)
 | x0 
def fI (v2_0 v2_1 v2_2 v2_3 v2_4 v6_0 v6_1 v6_2 v6_3 v6_4:List Int) (v7:List Bool) (v8:Int):US:=stL 85 [(2,.box () [.s .own () 1 (v2_0.map etI),.s .own () 1 (v2_1.map etI),.s .own () 1 (v2_2.map etI),.s .own () 1 (v2_3.map etI),.s .own () 1 (v2_4.map etI)]),(6,.box () [.s .own () 1 (v6_0.map etI),.s .own () 1 (v6_1.map etI),.s .own () 1 (v6_2.map etI),.s .own () 1 (v6_3.map etI),.s .own () 1 (v6_4.map etI)]),(7,.one (.s .own () 1 (v7.map etB))),(8,.one (tI v8))]
def kf (zv2_0 zv2_1 zv2_2 zv2_3 zv2_4:List Int) (zv3:Bool):US:=stL 85 [(2,.box () [.s .own () 1 (zv2_0.map etI),.s .own () 1 (zv2_1.map etI),.s .own () 1 (zv2_2.map etI),.s .own () 1 (zv2_3.map etI),.s .own () 1 (zv2_4.map etI)]),(3,.one (tB zv3))]
def kX (v2_0 v2_1 v2_2 v2_3 v2_4 v6_0 v6_1 v6_2 v6_3 v6_4:List Int):US:=stL 85 [(2,.box () [.s .own () 1 (v2_0.map etI),.s .own () 1 (v2_1.map etI),.s .own () 1 (v2_2.map etI),.s .own () 1 (v2_3.map etI),.s .own () 1 (v2_4.map etI)]),(6,.box () [.s .own () 1 (v6_0.map etI),.s .own () 1 (v6_1.map etI),.s .own () 1 (v6_2.map etI),.s .own () 1 (v6_3.map etI),.s .own () 1 (v6_4.map etI)])]
abbrev mo:US→Exit→US→Prop:=Round E 43 (av Tryz.f43 0)
def xg (v2_0 v2_1 v2_2 v2_3 v2_4 v6_0 v6_1 v6_2 v6_3 v6_4:List Int) (v7:List Bool) (v8:Int):qk→Prop
 | .ret zv2_0 zv2_1 zv2_2 zv2_3 zv2_4 zv3=>Loops E 43 (av Tryz.f43 0) (fI v2_0 v2_1 v2_2 v2_3 v2_4 v6_0 v6_1 v6_2 v6_3 v6_4 v7 v8) .ret (kf zv2_0 zv2_1 zv2_2 zv2_3 zv2_4 zv3)
 | .x0=>Loops E 43 (av Tryz.f43 0) (fI v2_0 v2_1 v2_2 v2_3 v2_4 v6_0 v6_1 v6_2 v6_3 v6_4 v7 v8) (.exit 0) (kX v2_0 v2_1 v2_2 v2_3 v2_4 v6_0 v6_1 v6_2 v6_3 v6_4)
noncomputable def fJ (v7:List Bool):Nat→Int→Option qk
 | 0,_=>none
 | n+1,v8=>cond (decide (v8<(5:Int)))
  ((aN v7 v8).bind fun g0=>cond (g0)
   (fJ v7 n (inc v8))
   (some (.ret ([]) ([]) ([]) ([]) ([]) false)))
  (some (.x0))
theorem xf (v2_0 v2_1 v2_2 v2_3 v2_4 v6_0 v6_1 v6_2 v6_3 v6_4:List Int) (v7:List Bool) (n:Nat):∀ (v8:Int),Ans (fJ v7 n v8) (xg v2_0 v2_1 v2_2 v2_3 v2_4 v6_0 v6_1 v6_2 v6_3 v6_4 v7 v8):=by
 induction n with
 | zero=>intros;exact Ans.none
 | succ n ih =>
  intro v8
  unfold fJ
  apply JJ<;>intro h0
  ·refine JK (fun g0 h1 => ?_)
   apply JJ<;>intro h2
   ·have r:mo (fI v2_0 v2_1 v2_2 v2_3 v2_4 v6_0 v6_1 v6_2 v6_3 v6_4 v7 v8) .normal (fI v2_0 v2_1 v2_2 v2_3 v2_4 v6_0 v6_1 v6_2 v6_3 v6_4 v7 (inc v8)):=RP [.b true,.row ([tB true])] (AC h0<|AC (p:=0≤v8∧v8<((v7.map etB).length:Int)) (kz h1)<|AC (p:=(v7.map etB)[0+v8.toNat]?=some ([tB true])) ((eY h1).trans (congrArg some (show [tB g0]=[tB true] by rw [h2])))<|AN);exact (ih (inc v8)).mono fun y hy=>by cases y<;>exact JH r hy
   ·exact JG (JI (show mo (fI v2_0 v2_1 v2_2 v2_3 v2_4 v6_0 v6_1 v6_2 v6_3 v6_4 v7 v8) .ret (kf ([]) ([]) ([]) ([]) ([]) false) from RP [.b true,.row ([tB false])] (AC h0<|AC (p:=0≤v8∧v8<((v7.map etB).length:Int)) (kz h1)<|AC (p:=(v7.map etB)[0+v8.toNat]?=some ([tB false])) ((eY h1).trans (congrArg some (show [tB g0]=[tB false] by rw [h2])))<|AN)) (by intro h;cases h))
  ·exact JG (JI (show mo (fI v2_0 v2_1 v2_2 v2_3 v2_4 v6_0 v6_1 v6_2 v6_3 v6_4 v7 v8) (.exit 0) (kX v2_0 v2_1 v2_2 v2_3 v2_4 v6_0 v6_1 v6_2 v6_3 v6_4) from RP [.b false] (AC h0<|AN)) (by intro h;cases h))
noncomputable def kI (x0:ByteArray):Option (GCron×Bool) :=
  cond ((aC x0).2)
   (cond ((((aC x0).1).length:Int) != (5:Int))
    (some ((GCron.mk ([]:List Int) ([]:List Int) ([]:List Int) ([]:List Int) ([]:List Int)),false))
    (if 0≤(5:Int)∧(5:Int)≤(5:Int)∧((1:Nat):Int)*(5:Int)≤281474976710656∧(5:Int)≤4611686018427387904 then (aN ((aC x0).1) (0:Int)).bind fun g0=>if g0.size≤2000000 then if 0≤(0:Int)∧(0:Int)≤(59:Int)∧(59:Int)≤59 then (aN (List.replicate (5:Int).toNat false) (0:Int)).bind fun g1=>(aN ((aC x0).1) (1:Int)).bind fun g2=>if g2.size≤2000000 then if 0≤(0:Int)∧(0:Int)≤(23:Int)∧(23:Int)≤59 then (aN ((List.replicate (5:Int).toNat false).set (0:Int).toNat ((ag g0 (0:Int) (59:Int)).2)) (1:Int)).bind fun g3=>(aN ((aC x0).1) (2:Int)).bind fun g4=>if g4.size≤2000000 then if 0≤(1:Int)∧(1:Int)≤(31:Int)∧(31:Int)≤59 then (aN (((List.replicate (5:Int).toNat false).set (0:Int).toNat ((ag g0 (0:Int) (59:Int)).2)).set (1:Int).toNat ((ag g2 (0:Int) (23:Int)).2)) (2:Int)).bind fun g5=>(aN ((aC x0).1) (3:Int)).bind fun g6=>if g6.size≤2000000 then if 0≤(1:Int)∧(1:Int)≤(12:Int)∧(12:Int)≤59 then (aN ((((List.replicate (5:Int).toNat false).set (0:Int).toNat ((ag g0 (0:Int) (59:Int)).2)).set (1:Int).toNat ((ag g2 (0:Int) (23:Int)).2)).set (2:Int).toNat ((ag g4 (1:Int) (31:Int)).2)) (3:Int)).bind fun g7=>(aN ((aC x0).1) (4:Int)).bind fun g8=>if g8.size≤2000000 then if 0≤(0:Int)∧(0:Int)≤(6:Int)∧(6:Int)≤59 then (aN (((((List.replicate (5:Int).toNat false).set (0:Int).toNat ((ag g0 (0:Int) (59:Int)).2)).set (1:Int).toNat ((ag g2 (0:Int) (23:Int)).2)).set (2:Int).toNat ((ag g4 (1:Int) (31:Int)).2)).set (3:Int).toNat ((ag g6 (1:Int) (12:Int)).2)) (4:Int)).bind fun g9=>(fJ ((((((List.replicate (5:Int).toNat false).set (0:Int).toNat ((ag g0 (0:Int) (59:Int)).2)).set (1:Int).toNat ((ag g2 (0:Int) (23:Int)).2)).set (2:Int).toNat ((ag g4 (1:Int) (31:Int)).2)).set (3:Int).toNat ((ag g6 (1:Int) (12:Int)).2)).set (4:Int).toNat ((ag g8 (0:Int) (6:Int)).2)) 9223372036854775808 (0:Int)).bind fun y=>match y with
     | .ret w0_2_0 w0_2_1 w0_2_2 w0_2_3 w0_2_4 w0_3=>(some ((GCron.mk w0_2_0 w0_2_1 w0_2_2 w0_2_3 w0_2_4),w0_3))
     | .x0=>(some ((GCron.mk ((ag g0 (0:Int) (59:Int)).1) ((ag g2 (0:Int) (23:Int)).1) ((ag g4 (1:Int) (31:Int)).1) ((ag g6 (1:Int) (12:Int)).1) ((ag g8 (0:Int) (6:Int)).1)),true)) else none else none else none else none else none else none else none else none else none else none else none))
   (some ((GCron.mk ([]:List Int) ([]:List Int) ([]:List Int) ([]:List Int) ([]:List Int)),false))
theorem yC (x0:ByteArray):Ans (kI x0) (fun r=>Does E 43 [.one (tS x0)] [(true,GCron.t .own r.1),(false,[tB r.2])]):=by
 unfold kI
 apply JJ<;>intro h0
 ·apply JJ<;>intro h1
  ·exact JG (DP Tryz.f43 [.ret [(false,[.s .own () 1 (((aC x0).1).map etS)]),(false,[tB true])],.val (.int .i64 (((aC x0).1).length:Int)),.b true] (AD (kw x0 h0)<|ALn ((aC x0).1) etS<|AC h1<|AN))
  ·refine JL (fun h2 => ?_)
   refine JK (fun g0 h3 => ?_)
   refine JL (fun h4 => ?_)
   refine JL (fun h5 => ?_)
   refine JK (fun g1 h6 => ?_)
   refine JK (fun g2 h7 => ?_)
   refine JL (fun h8 => ?_)
   refine JL (fun h9 => ?_)
   refine JK (fun g3 h10 => ?_)
   refine JK (fun g4 h11 => ?_)
   refine JL (fun h12 => ?_)
   refine JL (fun h13 => ?_)
   refine JK (fun g5 h14 => ?_)
   refine JK (fun g6 h15 => ?_)
   refine JL (fun h16 => ?_)
   refine JL (fun h17 => ?_)
   refine JK (fun g7 h18 => ?_)
   refine JK (fun g8 h19 => ?_)
   refine JL (fun h20 => ?_)
   refine JL (fun h21 => ?_)
   refine JK (fun g9 h22 => ?_)
   refine JK (fun y hy => ?_)
   replace hy:=xf ([]) ([]) ([]) ([]) ([]) ((ag g0 (0:Int) (59:Int)).1) ((ag g2 (0:Int) (23:Int)).1) ((ag g4 (1:Int) (31:Int)).1) ((ag g6 (1:Int) (12:Int)).1) ((ag g8 (0:Int) (6:Int)).1) ((((((List.replicate (5:Int).toNat false).set (0:Int).toNat ((ag g0 (0:Int) (59:Int)).2)).set (1:Int).toNat ((ag g2 (0:Int) (23:Int)).2)).set (2:Int).toNat ((ag g4 (1:Int) (31:Int)).2)).set (3:Int).toNat ((ag g6 (1:Int) (12:Int)).2)).set (4:Int).toNat ((ag g8 (0:Int) (6:Int)).2)) 9223372036854775808 (0:Int) y hy
   cases y with
   | ret w0_2_0 w0_2_1 w0_2_2 w0_2_3 w0_2_4 w0_3 =>
    have h23:=hy
    exact JG (DP Tryz.f43 [.ret [(false,[.s .own () 1 (((aC x0).1).map etS)]),(false,[tB true])],.val (.int .i64 (((aC x0).1).length:Int)),.b false,.rows ((List.replicate (5:Int).toNat false).map etB),.row (etS g0),.ret [(false,[.s .own () 1 (((ag g0 (0:Int) (59:Int)).1).map etI)]),(false,[tB ((ag g0 (0:Int) (59:Int)).2)])],.row (etB g1),.rows (((List.replicate (5:Int).toNat false).set (0:Int).toNat ((ag g0 (0:Int) (59:Int)).2)).map etB),.row (etS g2),.ret [(false,[.s .own () 1 (((ag g2 (0:Int) (23:Int)).1).map etI)]),(false,[tB ((ag g2 (0:Int) (23:Int)).2)])],.row (etB g3),.rows ((((List.replicate (5:Int).toNat false).set (0:Int).toNat ((ag g0 (0:Int) (59:Int)).2)).set (1:Int).toNat ((ag g2 (0:Int) (23:Int)).2)).map etB),.row (etS g4),.ret [(false,[.s .own () 1 (((ag g4 (1:Int) (31:Int)).1).map etI)]),(false,[tB ((ag g4 (1:Int) (31:Int)).2)])],.row (etB g5),.rows (((((List.replicate (5:Int).toNat false).set (0:Int).toNat ((ag g0 (0:Int) (59:Int)).2)).set (1:Int).toNat ((ag g2 (0:Int) (23:Int)).2)).set (2:Int).toNat ((ag g4 (1:Int) (31:Int)).2)).map etB),.row (etS g6),.ret [(false,[.s .own () 1 (((ag g6 (1:Int) (12:Int)).1).map etI)]),(false,[tB ((ag g6 (1:Int) (12:Int)).2)])],.row (etB g7),.rows ((((((List.replicate (5:Int).toNat false).set (0:Int).toNat ((ag g0 (0:Int) (59:Int)).2)).set (1:Int).toNat ((ag g2 (0:Int) (23:Int)).2)).set (2:Int).toNat ((ag g4 (1:Int) (31:Int)).2)).set (3:Int).toNat ((ag g6 (1:Int) (12:Int)).2)).map etB),.row (etS g8),.ret [(false,[.s .own () 1 (((ag g8 (0:Int) (6:Int)).1).map etI)]),(false,[tB ((ag g8 (0:Int) (6:Int)).2)])],.row (etB g9),.rows (((((((List.replicate (5:Int).toNat false).set (0:Int).toNat ((ag g0 (0:Int) (59:Int)).2)).set (1:Int).toNat ((ag g2 (0:Int) (23:Int)).2)).set (2:Int).toNat ((ag g4 (1:Int) (31:Int)).2)).set (3:Int).toNat ((ag g6 (1:Int) (12:Int)).2)).set (4:Int).toNat ((ag g8 (0:Int) (6:Int)).2)).map etB),.lp .ret (kf w0_2_0 w0_2_1 w0_2_2 w0_2_3 w0_2_4 w0_3)] (AD (kw x0 h0)<|ALn ((aC x0).1) etS<|AC h1<|AC h2<|AC (p:=List.replicate (5:Int).toNat [tB false]=(List.replicate (5:Int).toNat false).map etB) (mR rfl)<|AG etS h3<|AD (dv g0 (0:Int) (59:Int) h4 h5)<|AG etB h6<|AC (p:=((List.replicate (5:Int).toNat false).map etB).set (0+(0:Int).toNat) (ao (etB g1) 0 [tB ((ag g0 (0:Int) (59:Int)).2)])=((List.replicate (5:Int).toNat false).set (0:Int).toNat ((ag g0 (0:Int) (59:Int)).2)).map etB) (eQ (by rfl))<|AG etS h7<|AD (dv g2 (0:Int) (23:Int) h8 h9)<|AG etB h10<|AC (p:=(((List.replicate (5:Int).toNat false).set (0:Int).toNat ((ag g0 (0:Int) (59:Int)).2)).map etB).set (0+(1:Int).toNat) (ao (etB g3) 0 [tB ((ag g2 (0:Int) (23:Int)).2)])=(((List.replicate (5:Int).toNat false).set (0:Int).toNat ((ag g0 (0:Int) (59:Int)).2)).set (1:Int).toNat ((ag g2 (0:Int) (23:Int)).2)).map etB) (eQ (by rfl))<|AG etS h11<|AD (dv g4 (1:Int) (31:Int) h12 h13)<|AG etB h14<|AC (p:=((((List.replicate (5:Int).toNat false).set (0:Int).toNat ((ag g0 (0:Int) (59:Int)).2)).set (1:Int).toNat ((ag g2 (0:Int) (23:Int)).2)).map etB).set (0+(2:Int).toNat) (ao (etB g5) 0 [tB ((ag g4 (1:Int) (31:Int)).2)])=((((List.replicate (5:Int).toNat false).set (0:Int).toNat ((ag g0 (0:Int) (59:Int)).2)).set (1:Int).toNat ((ag g2 (0:Int) (23:Int)).2)).set (2:Int).toNat ((ag g4 (1:Int) (31:Int)).2)).map etB) (eQ (by rfl))<|AG etS h15<|AD (dv g6 (1:Int) (12:Int) h16 h17)<|AG etB h18<|AC (p:=(((((List.replicate (5:Int).toNat false).set (0:Int).toNat ((ag g0 (0:Int) (59:Int)).2)).set (1:Int).toNat ((ag g2 (0:Int) (23:Int)).2)).set (2:Int).toNat ((ag g4 (1:Int) (31:Int)).2)).map etB).set (0+(3:Int).toNat) (ao (etB g7) 0 [tB ((ag g6 (1:Int) (12:Int)).2)])=(((((List.replicate (5:Int).toNat false).set (0:Int).toNat ((ag g0 (0:Int) (59:Int)).2)).set (1:Int).toNat ((ag g2 (0:Int) (23:Int)).2)).set (2:Int).toNat ((ag g4 (1:Int) (31:Int)).2)).set (3:Int).toNat ((ag g6 (1:Int) (12:Int)).2)).map etB) (eQ (by rfl))<|AG etS h19<|AD (dv g8 (0:Int) (6:Int) h20 h21)<|AG etB h22<|AC (p:=((((((List.replicate (5:Int).toNat false).set (0:Int).toNat ((ag g0 (0:Int) (59:Int)).2)).set (1:Int).toNat ((ag g2 (0:Int) (23:Int)).2)).set (2:Int).toNat ((ag g4 (1:Int) (31:Int)).2)).set (3:Int).toNat ((ag g6 (1:Int) (12:Int)).2)).map etB).set (0+(4:Int).toNat) (ao (etB g9) 0 [tB ((ag g8 (0:Int) (6:Int)).2)])=((((((List.replicate (5:Int).toNat false).set (0:Int).toNat ((ag g0 (0:Int) (59:Int)).2)).set (1:Int).toNat ((ag g2 (0:Int) (23:Int)).2)).set (2:Int).toNat ((ag g4 (1:Int) (31:Int)).2)).set (3:Int).toNat ((ag g6 (1:Int) (12:Int)).2)).set (4:Int).toNat ((ag g8 (0:Int) (6:Int)).2)).map etB) (eQ (by rfl))<|AL h23<|AN))
   | x0 =>
    have h23:=hy
    exact JG (DP Tryz.f43 [.ret [(false,[.s .own () 1 (((aC x0).1).map etS)]),(false,[tB true])],.val (.int .i64 (((aC x0).1).length:Int)),.b false,.rows ((List.replicate (5:Int).toNat false).map etB),.row (etS g0),.ret [(false,[.s .own () 1 (((ag g0 (0:Int) (59:Int)).1).map etI)]),(false,[tB ((ag g0 (0:Int) (59:Int)).2)])],.row (etB g1),.rows (((List.replicate (5:Int).toNat false).set (0:Int).toNat ((ag g0 (0:Int) (59:Int)).2)).map etB),.row (etS g2),.ret [(false,[.s .own () 1 (((ag g2 (0:Int) (23:Int)).1).map etI)]),(false,[tB ((ag g2 (0:Int) (23:Int)).2)])],.row (etB g3),.rows ((((List.replicate (5:Int).toNat false).set (0:Int).toNat ((ag g0 (0:Int) (59:Int)).2)).set (1:Int).toNat ((ag g2 (0:Int) (23:Int)).2)).map etB),.row (etS g4),.ret [(false,[.s .own () 1 (((ag g4 (1:Int) (31:Int)).1).map etI)]),(false,[tB ((ag g4 (1:Int) (31:Int)).2)])],.row (etB g5),.rows (((((List.replicate (5:Int).toNat false).set (0:Int).toNat ((ag g0 (0:Int) (59:Int)).2)).set (1:Int).toNat ((ag g2 (0:Int) (23:Int)).2)).set (2:Int).toNat ((ag g4 (1:Int) (31:Int)).2)).map etB),.row (etS g6),.ret [(false,[.s .own () 1 (((ag g6 (1:Int) (12:Int)).1).map etI)]),(false,[tB ((ag g6 (1:Int) (12:Int)).2)])],.row (etB g7),.rows ((((((List.replicate (5:Int).toNat false).set (0:Int).toNat ((ag g0 (0:Int) (59:Int)).2)).set (1:Int).toNat ((ag g2 (0:Int) (23:Int)).2)).set (2:Int).toNat ((ag g4 (1:Int) (31:Int)).2)).set (3:Int).toNat ((ag g6 (1:Int) (12:Int)).2)).map etB),.row (etS g8),.ret [(false,[.s .own () 1 (((ag g8 (0:Int) (6:Int)).1).map etI)]),(false,[tB ((ag g8 (0:Int) (6:Int)).2)])],.row (etB g9),.rows (((((((List.replicate (5:Int).toNat false).set (0:Int).toNat ((ag g0 (0:Int) (59:Int)).2)).set (1:Int).toNat ((ag g2 (0:Int) (23:Int)).2)).set (2:Int).toNat ((ag g4 (1:Int) (31:Int)).2)).set (3:Int).toNat ((ag g6 (1:Int) (12:Int)).2)).set (4:Int).toNat ((ag g8 (0:Int) (6:Int)).2)).map etB),.lp (.exit 0) (kX ([]) ([]) ([]) ([]) ([]) ((ag g0 (0:Int) (59:Int)).1) ((ag g2 (0:Int) (23:Int)).1) ((ag g4 (1:Int) (31:Int)).1) ((ag g6 (1:Int) (12:Int)).1) ((ag g8 (0:Int) (6:Int)).1))] (AD (kw x0 h0)<|ALn ((aC x0).1) etS<|AC h1<|AC h2<|AC (p:=List.replicate (5:Int).toNat [tB false]=(List.replicate (5:Int).toNat false).map etB) (mR rfl)<|AG etS h3<|AD (dv g0 (0:Int) (59:Int) h4 h5)<|AG etB h6<|AC (p:=((List.replicate (5:Int).toNat false).map etB).set (0+(0:Int).toNat) (ao (etB g1) 0 [tB ((ag g0 (0:Int) (59:Int)).2)])=((List.replicate (5:Int).toNat false).set (0:Int).toNat ((ag g0 (0:Int) (59:Int)).2)).map etB) (eQ (by rfl))<|AG etS h7<|AD (dv g2 (0:Int) (23:Int) h8 h9)<|AG etB h10<|AC (p:=(((List.replicate (5:Int).toNat false).set (0:Int).toNat ((ag g0 (0:Int) (59:Int)).2)).map etB).set (0+(1:Int).toNat) (ao (etB g3) 0 [tB ((ag g2 (0:Int) (23:Int)).2)])=(((List.replicate (5:Int).toNat false).set (0:Int).toNat ((ag g0 (0:Int) (59:Int)).2)).set (1:Int).toNat ((ag g2 (0:Int) (23:Int)).2)).map etB) (eQ (by rfl))<|AG etS h11<|AD (dv g4 (1:Int) (31:Int) h12 h13)<|AG etB h14<|AC (p:=((((List.replicate (5:Int).toNat false).set (0:Int).toNat ((ag g0 (0:Int) (59:Int)).2)).set (1:Int).toNat ((ag g2 (0:Int) (23:Int)).2)).map etB).set (0+(2:Int).toNat) (ao (etB g5) 0 [tB ((ag g4 (1:Int) (31:Int)).2)])=((((List.replicate (5:Int).toNat false).set (0:Int).toNat ((ag g0 (0:Int) (59:Int)).2)).set (1:Int).toNat ((ag g2 (0:Int) (23:Int)).2)).set (2:Int).toNat ((ag g4 (1:Int) (31:Int)).2)).map etB) (eQ (by rfl))<|AG etS h15<|AD (dv g6 (1:Int) (12:Int) h16 h17)<|AG etB h18<|AC (p:=(((((List.replicate (5:Int).toNat false).set (0:Int).toNat ((ag g0 (0:Int) (59:Int)).2)).set (1:Int).toNat ((ag g2 (0:Int) (23:Int)).2)).set (2:Int).toNat ((ag g4 (1:Int) (31:Int)).2)).map etB).set (0+(3:Int).toNat) (ao (etB g7) 0 [tB ((ag g6 (1:Int) (12:Int)).2)])=(((((List.replicate (5:Int).toNat false).set (0:Int).toNat ((ag g0 (0:Int) (59:Int)).2)).set (1:Int).toNat ((ag g2 (0:Int) (23:Int)).2)).set (2:Int).toNat ((ag g4 (1:Int) (31:Int)).2)).set (3:Int).toNat ((ag g6 (1:Int) (12:Int)).2)).map etB) (eQ (by rfl))<|AG etS h19<|AD (dv g8 (0:Int) (6:Int) h20 h21)<|AG etB h22<|AC (p:=((((((List.replicate (5:Int).toNat false).set (0:Int).toNat ((ag g0 (0:Int) (59:Int)).2)).set (1:Int).toNat ((ag g2 (0:Int) (23:Int)).2)).set (2:Int).toNat ((ag g4 (1:Int) (31:Int)).2)).set (3:Int).toNat ((ag g6 (1:Int) (12:Int)).2)).map etB).set (0+(4:Int).toNat) (ao (etB g9) 0 [tB ((ag g8 (0:Int) (6:Int)).2)])=((((((List.replicate (5:Int).toNat false).set (0:Int).toNat ((ag g0 (0:Int) (59:Int)).2)).set (1:Int).toNat ((ag g2 (0:Int) (23:Int)).2)).set (2:Int).toNat ((ag g4 (1:Int) (31:Int)).2)).set (3:Int).toNat ((ag g6 (1:Int) (12:Int)).2)).set (4:Int).toNat ((ag g8 (0:Int) (6:Int)).2)).map etB) (eQ (by rfl))<|AL h23<|AN))
 ·exact JG (DP Tryz.f43 [.ret [(false,[.s .own () 1 (((aC x0).1).map etS)]),(false,[tB false])]] (AD (kw x0 h0)<|AN))
inductive pY where
 | ret (v2_0 v2_1 v2_2 v2_3 v2_4:List Int) (v3:Bool)
 | x0 (v6_0 v6_1 v6_2 v6_3 v6_4:List Int)
def be (v2_0 v2_1 v2_2 v2_3 v2_4:List Int) (v4:List ByteArray) (v6_0 v6_1 v6_2 v6_3 v6_4:List Int) (v25:Int):US:=stL 46 [(2,.box () [.s .own () 1 (v2_0.map etI),.s .own () 1 (v2_1.map etI),.s .own () 1 (v2_2.map etI),.s .own () 1 (v2_3.map etI),.s .own () 1 (v2_4.map etI)]),(4,.one (.s .own () 1 (v4.map etS))),(6,.box () [.s .own () 1 (v6_0.map etI),.s .own () 1 (v6_1.map etI),.s .own () 1 (v6_2.map etI),.s .own () 1 (v6_3.map etI),.s .own () 1 (v6_4.map etI)]),(24,.clo (.arr [0,1,2,3,4]) [6,6,6,6,6]),(25,.one (tI v25))]
def di (zv2_0 zv2_1 zv2_2 zv2_3 zv2_4:List Int) (zv3:Bool):US:=stL 46 [(2,.box () [.s .own () 1 (zv2_0.map etI),.s .own () 1 (zv2_1.map etI),.s .own () 1 (zv2_2.map etI),.s .own () 1 (zv2_3.map etI),.s .own () 1 (zv2_4.map etI)]),(3,.one (tB zv3))]
def kQ (v2_0 v2_1 v2_2 v2_3 v2_4 zv6_0 zv6_1 zv6_2 zv6_3 zv6_4:List Int):US:=stL 46 [(2,.box () [.s .own () 1 (v2_0.map etI),.s .own () 1 (v2_1.map etI),.s .own () 1 (v2_2.map etI),.s .own () 1 (v2_3.map etI),.s .own () 1 (v2_4.map etI)]),(6,.box () [.s .own () 1 (zv6_0.map etI),.s .own () 1 (zv6_1.map etI),.s .own () 1 (zv6_2.map etI),.s .own () 1 (zv6_3.map etI),.s .own () 1 (zv6_4.map etI)])]
abbrev ck:US→Exit→US→Prop:=Round E 74 (av Tryz.f74 0)
def wQ (v2_0 v2_1 v2_2 v2_3 v2_4:List Int) (v4:List ByteArray) (v6_0 v6_1 v6_2 v6_3 v6_4:List Int) (v25:Int):pY→Prop
 | .ret zv2_0 zv2_1 zv2_2 zv2_3 zv2_4 zv3=>Loops E 74 (av Tryz.f74 0) (be v2_0 v2_1 v2_2 v2_3 v2_4 v4 v6_0 v6_1 v6_2 v6_3 v6_4 v25) .ret (di zv2_0 zv2_1 zv2_2 zv2_3 zv2_4 zv3)
 | .x0 zv6_0 zv6_1 zv6_2 zv6_3 zv6_4=>Loops E 74 (av Tryz.f74 0) (be v2_0 v2_1 v2_2 v2_3 v2_4 v4 v6_0 v6_1 v6_2 v6_3 v6_4 v25) (.exit 0) (kQ v2_0 v2_1 v2_2 v2_3 v2_4 zv6_0 zv6_1 zv6_2 zv6_3 zv6_4)
noncomputable def aD (v4:List ByteArray):Nat→(List Int)→(List Int)→(List Int)→(List Int)→(List Int)→Int→Option pY
 | 0,_,_,_,_,_,_=>none
 | n+1,v6_0,v6_1,v6_2,v6_3,v6_4,v25=>cond (decide (v25<(5:Int)))
  (cond (v25==(0:Int))
   ((aN v4 v25).bind fun g0=>if g0.size≤2000000 then cond ((aF g0 v25).2)
    (aD v4 n ((aF g0 v25).1) v6_1 v6_2 v6_3 v6_4 (inc v25))
    (some (.ret ([]) ([]) ([]) ([]) ([]) false)) else none)
   (cond (v25==(1:Int))
    ((aN v4 v25).bind fun g0=>if g0.size≤2000000 then cond ((aF g0 v25).2)
     (aD v4 n v6_0 ((aF g0 v25).1) v6_2 v6_3 v6_4 (inc v25))
     (some (.ret ([]) ([]) ([]) ([]) ([]) false)) else none)
    (cond (v25==(2:Int))
     ((aN v4 v25).bind fun g0=>if g0.size≤2000000 then cond ((aF g0 v25).2)
      (aD v4 n v6_0 v6_1 ((aF g0 v25).1) v6_3 v6_4 (inc v25))
      (some (.ret ([]) ([]) ([]) ([]) ([]) false)) else none)
     (cond (v25==(3:Int))
      ((aN v4 v25).bind fun g0=>if g0.size≤2000000 then cond ((aF g0 v25).2)
       (aD v4 n v6_0 v6_1 v6_2 ((aF g0 v25).1) v6_4 (inc v25))
       (some (.ret ([]) ([]) ([]) ([]) ([]) false)) else none)
      (if v25=(4:Int) then (aN v4 v25).bind fun g0=>if g0.size≤2000000 then cond ((aF g0 v25).2)
       (aD v4 n v6_0 v6_1 v6_2 v6_3 ((aF g0 v25).1) (inc v25))
       (some (.ret ([]) ([]) ([]) ([]) ([]) false)) else none else none)))))
  (some (.x0 v6_0 v6_1 v6_2 v6_3 v6_4))
theorem wP (v2_0 v2_1 v2_2 v2_3 v2_4:List Int) (v4:List ByteArray) (n:Nat):∀ (v6_0 v6_1 v6_2 v6_3 v6_4:List Int) (v25:Int),Ans (aD v4 n v6_0 v6_1 v6_2 v6_3 v6_4 v25) (wQ v2_0 v2_1 v2_2 v2_3 v2_4 v4 v6_0 v6_1 v6_2 v6_3 v6_4 v25):=by
 induction n with
 | zero=>intros;exact Ans.none
 | succ n ih =>
  intro v6_0 v6_1 v6_2 v6_3 v6_4 v25
  unfold aD
  apply JJ<;>intro h0
  ·apply JJ<;>intro h1
   ·refine JK (fun g0 h2 => ?_)
    refine JL (fun h3 => ?_)
    apply JJ<;>intro h4
    ·have r:ck (be v2_0 v2_1 v2_2 v2_3 v2_4 v4 v6_0 v6_1 v6_2 v6_3 v6_4 v25) .normal (be v2_0 v2_1 v2_2 v2_3 v2_4 v4 ((aF g0 v25).1) v6_1 v6_2 v6_3 v6_4 (inc v25)):=RP [.b true,.val (.int .i64 0),.row (etS g0),.ret [(false,[.s .own () 1 (((aF g0 v25).1).map etI)]),(false,[tB true])]] (AC h0<|AC (p:=v25=(0:Int)) (eq_of_beq h1)<|AG etS h2<|AD (bX g0 v25 h3 h4)<|AN);exact (ih ((aF g0 v25).1) v6_1 v6_2 v6_3 v6_4 (inc v25)).mono fun y hy=>by cases y<;>exact JH r hy
    ·exact JG (JI (show ck (be v2_0 v2_1 v2_2 v2_3 v2_4 v4 v6_0 v6_1 v6_2 v6_3 v6_4 v25) .ret (di ([]) ([]) ([]) ([]) ([]) false) from RP [.b true,.val (.int .i64 0),.row (etS g0),.ret [(false,[.s .own () 1 (((aF g0 v25).1).map etI)]),(false,[tB false])]] (AC h0<|AC (p:=v25=(0:Int)) (eq_of_beq h1)<|AG etS h2<|AD (bX g0 v25 h3 h4)<|AN)) (by intro h;cases h))
   ·apply JJ<;>intro h2
    ·refine JK (fun g0 h3 => ?_)
     refine JL (fun h4 => ?_)
     apply JJ<;>intro h5
     ·have r:ck (be v2_0 v2_1 v2_2 v2_3 v2_4 v4 v6_0 v6_1 v6_2 v6_3 v6_4 v25) .normal (be v2_0 v2_1 v2_2 v2_3 v2_4 v4 v6_0 ((aF g0 v25).1) v6_2 v6_3 v6_4 (inc v25)):=RP [.b true,.val (.int .i64 1),.row (etS g0),.ret [(false,[.s .own () 1 (((aF g0 v25).1).map etI)]),(false,[tB true])]] (AC h0<|AC (p:=v25=(1:Int)) (eq_of_beq h2)<|AG etS h3<|AD (bX g0 v25 h4 h5)<|AN);exact (ih v6_0 ((aF g0 v25).1) v6_2 v6_3 v6_4 (inc v25)).mono fun y hy=>by cases y<;>exact JH r hy
     ·exact JG (JI (show ck (be v2_0 v2_1 v2_2 v2_3 v2_4 v4 v6_0 v6_1 v6_2 v6_3 v6_4 v25) .ret (di ([]) ([]) ([]) ([]) ([]) false) from RP [.b true,.val (.int .i64 1),.row (etS g0),.ret [(false,[.s .own () 1 (((aF g0 v25).1).map etI)]),(false,[tB false])]] (AC h0<|AC (p:=v25=(1:Int)) (eq_of_beq h2)<|AG etS h3<|AD (bX g0 v25 h4 h5)<|AN)) (by intro h;cases h))
    ·apply JJ<;>intro h3
     ·refine JK (fun g0 h4 => ?_)
      refine JL (fun h5 => ?_)
      apply JJ<;>intro h6
      ·have r:ck (be v2_0 v2_1 v2_2 v2_3 v2_4 v4 v6_0 v6_1 v6_2 v6_3 v6_4 v25) .normal (be v2_0 v2_1 v2_2 v2_3 v2_4 v4 v6_0 v6_1 ((aF g0 v25).1) v6_3 v6_4 (inc v25)):=RP [.b true,.val (.int .i64 2),.row (etS g0),.ret [(false,[.s .own () 1 (((aF g0 v25).1).map etI)]),(false,[tB true])]] (AC h0<|AC (p:=v25=(2:Int)) (eq_of_beq h3)<|AG etS h4<|AD (bX g0 v25 h5 h6)<|AN);exact (ih v6_0 v6_1 ((aF g0 v25).1) v6_3 v6_4 (inc v25)).mono fun y hy=>by cases y<;>exact JH r hy
      ·exact JG (JI (show ck (be v2_0 v2_1 v2_2 v2_3 v2_4 v4 v6_0 v6_1 v6_2 v6_3 v6_4 v25) .ret (di ([]) ([]) ([]) ([]) ([]) false) from RP [.b true,.val (.int .i64 2),.row (etS g0),.ret [(false,[.s .own () 1 (((aF g0 v25).1).map etI)]),(false,[tB false])]] (AC h0<|AC (p:=v25=(2:Int)) (eq_of_beq h3)<|AG etS h4<|AD (bX g0 v25 h5 h6)<|AN)) (by intro h;cases h))
     ·apply JJ<;>intro h4
      ·refine JK (fun g0 h5 => ?_)
       refine JL (fun h6 => ?_)
       apply JJ<;>intro h7
       ·have r:ck (be v2_0 v2_1 v2_2 v2_3 v2_4 v4 v6_0 v6_1 v6_2 v6_3 v6_4 v25) .normal (be v2_0 v2_1 v2_2 v2_3 v2_4 v4 v6_0 v6_1 v6_2 ((aF g0 v25).1) v6_4 (inc v25)):=RP [.b true,.val (.int .i64 3),.row (etS g0),.ret [(false,[.s .own () 1 (((aF g0 v25).1).map etI)]),(false,[tB true])]] (AC h0<|AC (p:=v25=(3:Int)) (eq_of_beq h4)<|AG etS h5<|AD (bX g0 v25 h6 h7)<|AN);exact (ih v6_0 v6_1 v6_2 ((aF g0 v25).1) v6_4 (inc v25)).mono fun y hy=>by cases y<;>exact JH r hy
       ·exact JG (JI (show ck (be v2_0 v2_1 v2_2 v2_3 v2_4 v4 v6_0 v6_1 v6_2 v6_3 v6_4 v25) .ret (di ([]) ([]) ([]) ([]) ([]) false) from RP [.b true,.val (.int .i64 3),.row (etS g0),.ret [(false,[.s .own () 1 (((aF g0 v25).1).map etI)]),(false,[tB false])]] (AC h0<|AC (p:=v25=(3:Int)) (eq_of_beq h4)<|AG etS h5<|AD (bX g0 v25 h6 h7)<|AN)) (by intro h;cases h))
      ·refine JL (fun h5 => ?_)
       refine JK (fun g0 h6 => ?_)
       refine JL (fun h7 => ?_)
       apply JJ<;>intro h8
       ·have r:ck (be v2_0 v2_1 v2_2 v2_3 v2_4 v4 v6_0 v6_1 v6_2 v6_3 v6_4 v25) .normal (be v2_0 v2_1 v2_2 v2_3 v2_4 v4 v6_0 v6_1 v6_2 v6_3 ((aF g0 v25).1) (inc v25)):=RP [.b true,.val (.int .i64 4),.row (etS g0),.ret [(false,[.s .own () 1 (((aF g0 v25).1).map etI)]),(false,[tB true])]] (AC h0<|AC h5<|AG etS h6<|AD (bX g0 v25 h7 h8)<|AN);exact (ih v6_0 v6_1 v6_2 v6_3 ((aF g0 v25).1) (inc v25)).mono fun y hy=>by cases y<;>exact JH r hy
       ·exact JG (JI (show ck (be v2_0 v2_1 v2_2 v2_3 v2_4 v4 v6_0 v6_1 v6_2 v6_3 v6_4 v25) .ret (di ([]) ([]) ([]) ([]) ([]) false) from RP [.b true,.val (.int .i64 4),.row (etS g0),.ret [(false,[.s .own () 1 (((aF g0 v25).1).map etI)]),(false,[tB false])]] (AC h0<|AC h5<|AG etS h6<|AD (bX g0 v25 h7 h8)<|AN)) (by intro h;cases h))
  ·exact JG (JI (show ck (be v2_0 v2_1 v2_2 v2_3 v2_4 v4 v6_0 v6_1 v6_2 v6_3 v6_4 v25) (.exit 0) (kQ v2_0 v2_1 v2_2 v2_3 v2_4 v6_0 v6_1 v6_2 v6_3 v6_4) from RP [.b false] (AC h0<|AN)) (by intro h;cases h))
noncomputable def kB (x0:ByteArray):Option (GCron×Bool) :=
  cond ((aC x0).2)
   (cond ((((aC x0).1).length:Int) != (5:Int))
    (some ((GCron.mk ([]:List Int) ([]:List Int) ([]:List Int) ([]:List Int) ([]:List Int)),false))
    ((aD ((aC x0).1) 9223372036854775808 ([]) ([]) ([]) ([]) ([]) (0:Int)).bind fun y=>match y with
     | .ret w0_2_0 w0_2_1 w0_2_2 w0_2_3 w0_2_4 w0_3=>(some ((GCron.mk w0_2_0 w0_2_1 w0_2_2 w0_2_3 w0_2_4),w0_3))
     | .x0 w0_6_0 w0_6_1 w0_6_2 w0_6_3 w0_6_4=>(some ((GCron.mk w0_6_0 w0_6_1 w0_6_2 w0_6_3 w0_6_4),true))))
   (some ((GCron.mk ([]:List Int) ([]:List Int) ([]:List Int) ([]:List Int) ([]:List Int)),false))
theorem yk (x0:ByteArray):Ans (kB x0) (fun r=>Does E 74 [.one (tS x0)] [(true,GCron.t .own r.1),(false,[tB r.2])]):=by
 unfold kB
 apply JJ<;>intro h0
 ·apply JJ<;>intro h1
  ·exact JG (DP Tryz.f74 [.ret [(false,[.s .own () 1 (((aC x0).1).map etS)]),(false,[tB true])],.val (.int .i64 (((aC x0).1).length:Int)),.b true] (AD (kv x0 h0)<|ALn ((aC x0).1) etS<|AC h1<|AN))
  ·refine JK (fun y hy => ?_)
   replace hy:=wP ([]) ([]) ([]) ([]) ([]) ((aC x0).1) 9223372036854775808 ([]) ([]) ([]) ([]) ([]) (0:Int) y hy
   cases y with
   | ret w0_2_0 w0_2_1 w0_2_2 w0_2_3 w0_2_4 w0_3 =>
    have h2:=hy
    exact JG (DP Tryz.f74 [.ret [(false,[.s .own () 1 (((aC x0).1).map etS)]),(false,[tB true])],.val (.int .i64 (((aC x0).1).length:Int)),.b false,.lp .ret (di w0_2_0 w0_2_1 w0_2_2 w0_2_3 w0_2_4 w0_3)] (AD (kv x0 h0)<|ALn ((aC x0).1) etS<|AC h1<|AL h2<|AN))
   | x0 w0_6_0 w0_6_1 w0_6_2 w0_6_3 w0_6_4 =>
    have h2:=hy
    exact JG (DP Tryz.f74 [.ret [(false,[.s .own () 1 (((aC x0).1).map etS)]),(false,[tB true])],.val (.int .i64 (((aC x0).1).length:Int)),.b false,.lp (.exit 0) (kQ ([]) ([]) ([]) ([]) ([]) w0_6_0 w0_6_1 w0_6_2 w0_6_3 w0_6_4)] (AD (kv x0 h0)<|ALn ((aC x0).1) etS<|AC h1<|AL h2<|AN))
 ·exact JG (DP Tryz.f74 [.ret [(false,[.s .own () 1 (((aC x0).1).map etS)]),(false,[tB false])]] (AD (kv x0 h0)<|AN))
def noCron:GCron:=⟨[],[],[],[],[]⟩
noncomputable def qB (a b c d e:ByteArray):GCron×Bool :=
 cond (ag a 0 59).2 (cond (ag b 0 23).2 (cond (ag c 1 31).2 (cond (ag d 1 12).2 (cond (ag e 0 6).2
  (⟨(ag a 0 59).1,(ag b 0 23).1,(ag c 1 31).1,(ag d 1 12).1,(ag e 0 6).1⟩,true) (noCron,false)) (noCron,false)) (noCron,false)) (noCron,false)) (noCron,false)
noncomputable def zq:List ByteArray→GCron×Bool
 | [a,b,c,d,e]=>qB a b c d e
 | _=>(noCron,false)
noncomputable def an (s:ByteArray):GCron×Bool:=zq (aC s).1
theorem vW {s:ByteArray} (h:(aC s).2=false):(aC s).1=[]:=by
 unfold aC at h ⊢
 split
 ·rfl
 ·rename_i h0
  rw [if_neg h0] at h
  split
  ·rename_i h1
   rw [if_pos h1] at h
   split
   ·rfl
   ·rename_i h2
    rw [if_neg h2] at h;cases h
  ·rfl
theorem Gj {α:Type} {l:List α} (h:l.length=5):∃ a b c d e,l=[a,b,c,d,e]:=by
 match l,h with
 | [a,b,c,d,e],_=>exact ⟨a,b,c,d,e,rfl⟩
theorem sb {l:List ByteArray} (h:l.length≠5):zq l=(noCron,false):=by
 unfold zq
 split
 ·exact absurd rfl h
 ·rfl
theorem HP (a b c d e:Bool) (n:Nat):fJ [a,b,c,d,e] (n+6) 0=some (cond a (cond b (cond c (cond d (cond e .x0 (.ret [] [] [] [] [] false)) (.ret [] [] [] [] [] false)) (.ret [] [] [] [] [] false)) (.ret [] [] [] [] [] false)) (.ret [] [] [] [] [] false)):=by
 cases a<;>cases b<;>cases c<;>cases d<;>cases e<;>rfl
theorem Hh (s:ByteArray):kI s=some (an s):=by
 unfold kI an
 cases q:(aC s).2 with
 | false =>
  rw [vW q];rfl
 | true =>
  rw [cond_true]
  by_cases h:(aC s).1.length=5
  ·obtain ⟨a,b,c,d,e,hl⟩:=Gj h
   have hm:∀ p∈[a,b,c,d,e],p.size≤2000000:=fun p hp=>by
    rw [← hl] at hp
    have:=pv hp
    omega
   have ha:(a.size≤2000000)=True:=eq_true (hm a (by simp))
   have hb:(b.size≤2000000)=True:=eq_true (hm b (by simp))
   have hc:(c.size≤2000000)=True:=eq_true (hm c (by simp))
   have hd:(d.size≤2000000)=True:=eq_true (hm d (by simp))
   have he:(e.size≤2000000)=True:=eq_true (hm e (by simp))
   have e5:((([a,b,c,d,e]:List ByteArray).length:Int) != 5)=false:=rfl
   rw [hl,e5,cond_false,if_pos (by decide)]
   have g0:aN [a,b,c,d,e] (0:Int)=some a:=rfl
   have g1:aN [a,b,c,d,e] (1:Int)=some b:=rfl
   have g2:aN [a,b,c,d,e] (2:Int)=some c:=rfl
   have g3:aN [a,b,c,d,e] (3:Int)=some d:=rfl
   have g4:aN [a,b,c,d,e] (4:Int)=some e:=rfl
   have b0:((0:Int)≤0∧(0:Int)≤59∧(59:Int)≤59)=True:=eq_true (by decide)
   have b1:((0:Int)≤0∧(0:Int)≤23∧(23:Int)≤59)=True:=eq_true (by decide)
   have b2:((0:Int)≤1∧(1:Int)≤31∧(31:Int)≤59)=True:=eq_true (by decide)
   have b3:((0:Int)≤1∧(1:Int)≤12∧(12:Int)≤59)=True:=eq_true (by decide)
   have b4:((0:Int)≤0∧(0:Int)≤6∧(6:Int)≤59)=True:=eq_true (by decide)
   simp only [g0,g1,g2,g3,g4,Option.bind_some,ha,hb,hc,hd,he,b0,b1,b2,b3,b4,if_true]
   show (fJ [(ag a 0 59).2,(ag b 0 23).2,(ag c 1 31).2,(ag d 1 12).2,(ag e 0 6).2] (9223372036854775802+6) 0).bind _=some (qB a b c d e)
   rw [HP]
   unfold qB
   cases (ag a 0 59).2<;>cases (ag b 0 23).2<;>cases (ag c 1 31).2<;>cases (ag d 1 12).2<;>cases (ag e 0 6).2<;>rfl
  ·have e5:(((aC s).1.length:Int) != 5)=true:=by rw [bne_iff_ne];omega
   rw [e5,cond_true,sb h];rfl
theorem Hg (s:ByteArray):kB s=some (an s):=by
 unfold kB an
 cases q:(aC s).2 with
 | false =>
  rw [vW q];rfl
 | true =>
  rw [cond_true]
  by_cases h:(aC s).1.length=5
  ·obtain ⟨a,b,c,d,e,hl⟩:=Gj h
   have hm:∀ p∈[a,b,c,d,e],p.size≤2000000:=fun p hp=>by
    rw [← hl] at hp
    have:=pv hp
    omega
   have e5:((([a,b,c,d,e]:List ByteArray).length:Int) != 5)=false:=rfl
   rw [hl,e5,cond_false]
   have s0:∀ n v0 v1 v2 v3 v4,aD [a,b,c,d,e] (n+1) v0 v1 v2 v3 v4 0=cond (ag a 0 59).2 (aD [a,b,c,d,e] n (ag a 0 59).1 v1 v2 v3 v4 1) (some (.ret [] [] [] [] [] false)):=fun n v0 v1 v2 v3 v4=>by
    conv=>lhs;unfold aD
    show (if a.size≤2000000 then _ else none)=_
    rw [if_pos (hm a (by simp))];rfl
   have s1:∀ n v0 v1 v2 v3 v4,aD [a,b,c,d,e] (n+1) v0 v1 v2 v3 v4 1=cond (ag b 0 23).2 (aD [a,b,c,d,e] n v0 (ag b 0 23).1 v2 v3 v4 2) (some (.ret [] [] [] [] [] false)):=fun n v0 v1 v2 v3 v4=>by
    conv=>lhs;unfold aD
    show (if b.size≤2000000 then _ else none)=_
    rw [if_pos (hm b (by simp))];rfl
   have s2:∀ n v0 v1 v2 v3 v4,aD [a,b,c,d,e] (n+1) v0 v1 v2 v3 v4 2=cond (ag c 1 31).2 (aD [a,b,c,d,e] n v0 v1 (ag c 1 31).1 v3 v4 3) (some (.ret [] [] [] [] [] false)):=fun n v0 v1 v2 v3 v4=>by
    conv=>lhs;unfold aD
    show (if c.size≤2000000 then _ else none)=_
    rw [if_pos (hm c (by simp))];rfl
   have s3:∀ n v0 v1 v2 v3 v4,aD [a,b,c,d,e] (n+1) v0 v1 v2 v3 v4 3=cond (ag d 1 12).2 (aD [a,b,c,d,e] n v0 v1 v2 (ag d 1 12).1 v4 4) (some (.ret [] [] [] [] [] false)):=fun n v0 v1 v2 v3 v4=>by
    conv=>lhs;unfold aD
    show (if d.size≤2000000 then _ else none)=_
    rw [if_pos (hm d (by simp))];rfl
   have s4:∀ n v0 v1 v2 v3 v4,aD [a,b,c,d,e] (n+1) v0 v1 v2 v3 v4 4=cond (ag e 0 6).2 (aD [a,b,c,d,e] n v0 v1 v2 v3 (ag e 0 6).1 5) (some (.ret [] [] [] [] [] false)):=fun n v0 v1 v2 v3 v4=>by
    conv=>lhs;unfold aD
    show (if (4:Int)=4 then (if e.size≤2000000 then _ else none) else none)=_
    rw [if_pos rfl,if_pos (hm e (by simp))];rfl
   have s5:∀ n v0 v1 v2 v3 v4,aD [a,b,c,d,e] (n+1) v0 v1 v2 v3 v4 5=some (.x0 v0 v1 v2 v3 v4):=fun n v0 v1 v2 v3 v4=>rfl
   have st:aD [a,b,c,d,e] (9223372036854775802+6) [] [] [] [] [] 0=_:=s0 _ _ _ _ _ _
   rw [s1,s2,s3,s4,s5] at st
   refine (congrArg (Option.bind · _) st).trans ?_
   show _=some (qB a b c d e)
   unfold qB
   cases (ag a 0 59).2<;>cases (ag b 0 23).2<;>cases (ag c 1 31).2<;>cases (ag d 1 12).2<;>cases (ag e 0 6).2<;>rfl
  ·have e5:(((aC s).1.length:Int) != 5)=true:=by rw [bne_iff_ne];omega
   rw [e5,cond_true,sb h];rfl
theorem pV {lo hi:Int} {s:ByteArray} (hs:s.size≤2000000) (hb:0≤lo∧lo≤hi∧hi≤59):ak.sm (ag s lo hi).1:=by
 rcases (uD s lo hi hs hb).2.1 with h | h
 ·rw [h.2];exact ⟨by decide,fun y hy=>by cases hy⟩
 ·exact ⟨by have:=h.2.2.2.2;omega,fun y hy=>trivial⟩
theorem xX:ak.sm noCron:=⟨⟨by decide,fun y hy=>by cases hy⟩,⟨by decide,fun y hy=>by cases hy⟩,⟨by decide,fun y hy=>by cases hy⟩,⟨by decide,fun y hy=>by cases hy⟩,⟨by decide,fun y hy=>by cases hy⟩⟩
theorem AF (s:ByteArray):ak.sm (an s).1:=by
 unfold an
 by_cases h:(aC s).1.length=5
 ·obtain ⟨a,b,c,d,e,hl⟩:=Gj h
  have hm:∀ p∈[a,b,c,d,e],p.size≤2000000:=fun p hp=>by
   rw [← hl] at hp
   have:=pv hp
   omega
  rw [hl]
  show ak.sm (qB a b c d e).1
  unfold qB
  have:=pV (lo:=0) (hi:=59) (hm a (by simp)) (by decide)
  have:=pV (lo:=0) (hi:=23) (hm b (by simp)) (by decide)
  have:=pV (lo:=1) (hi:=31) (hm c (by simp)) (by decide)
  have:=pV (lo:=1) (hi:=12) (hm d (by simp)) (by decide)
  have:=pV (lo:=0) (hi:=6) (hm e (by simp)) (by decide)
  cases (ag a 0 59).2<;>cases (ag b 0 23).2<;>cases (ag c 1 31).2<;>cases (ag d 1 12).2<;>cases (ag e 0 6).2<;>first | exact xX | exact ⟨by assumption,by assumption,by assumption,by assumption,by assumption⟩
 ·rw [sb h];exact xX
theorem mV (x0:ByteArray):Does E 43 [.one (tS x0)] [(true,GCron.t .own ((an x0).1)),(false,[tB ((an x0).2)])]:=by
 exact yC x0 _ (Hh x0)
theorem dY (x0:ByteArray) {bb:Bool} (hbb:(an x0).2=bb):Does E 43 [.one (tS x0)] [(true,GCron.t .own ((an x0).1)),(false,[tB bb])]:=by rw [← hbb];exact mV x0
theorem x9 (x0:ByteArray):Does E 74 [.one (tS x0)] [(true,GCron.t .own ((an x0).1)),(false,[tB ((an x0).2)])]:=by
 exact yk x0 _ (Hg x0)
theorem oE (x0:ByteArray) {bb:Bool} (hbb:(an x0).2=bb):Does E 74 [.one (tS x0)] [(true,GCron.t .own ((an x0).1)),(false,[tB bb])]:=by rw [← hbb];exact x9 x0
end Go.Proofs.YtgaiiephdjllkaaGreatDoor.Am
namespace Go.Proofs.YtgaiiephdjllkaaGreatDoor.Am
open Go Go.Proofs Classical
set_option maxRecDepth 100000
set_option linter.unusedVariables false
set_option linter.unusedSimpArgs false
inductive wh where
 | ret (v4:Bool)
 | x0 
def jQ (v0:List Int) (v1 v5:Int):US:=stL 18 [(0,.one (.s .far () 1 (v0.map etI))),(1,.one (tI v1)),(5,.one (tI v5))]
def ni (zv4:Bool):US:=stL 18 [(4,.one (tB zv4))]
def ov  : US:=stL 18 []
abbrev re:US→Exit→US→Prop:=Round E 72 (av Tryz.f72 0)
def Eh (v0:List Int) (v1 v5:Int):wh→Prop
 | .ret zv4=>Loops E 72 (av Tryz.f72 0) (jQ v0 v1 v5) .ret (ni zv4)
 | .x0=>Loops E 72 (av Tryz.f72 0) (jQ v0 v1 v5) (.exit 0) (ov)
noncomputable def iv (v1:Int):List Int→Nat→Option wh
 | [],i=>some (.x0)
 | hd::rest,i=>cond (hd==v1)
  (some (.ret true))
  (iv v1 rest (i+1))
theorem Eg (v0:List Int) (v1:Int) (rest:List Int):∀ (i:Nat) ,(v0).drop i=rest→v0.length≤9223372036854775807→Ans (iv v1 rest i) (Eh v0 v1 (i:Int)):=by
 induction rest with
 | nil =>
  intro i hE hl
  have hb:=bG hE
  unfold iv
  exact JG (JI (show re (jQ v0 v1 (i:Int)) (.exit 0) (ov) from RP [.val (.int .i64 (v0.length:Int)),.b false] (ALn v0 etI<|AC hb<|AN)) (by intro h;cases h))
 | cons hd rest ih =>
  intro i hE hl
  have hb:=bm hE
  have hw:=bn hE hl
  have hE2:=aK hE
  have hg:=bo hE
  unfold iv
  apply JJ<;>intro h2
  ·exact JG (JI (show re (jQ v0 v1 (i:Int)) .ret (ni true) from RP [.val (.int .i64 (v0.length:Int)),.b true,.row (etI hd),.b true] (ALn v0 etI<|AC hb<|AR etI hg<|AC h2<|AN)) (by intro h;cases h))
  ·exact (ih (i+1) hE2 hl).mono fun y hy=>by have r:re (jQ v0 v1 (i:Int)) .normal (jQ v0 v1 (inc (i:Int))):=RP [.val (.int .i64 (v0.length:Int)),.b true,.row (etI hd),.b false] (ALn v0 etI<|AC hb<|AR etI hg<|AC h2<|AN);rw [hw] at r;cases y<;>exact JH r hy
noncomputable def tn (x0:List Int) (x1:Int):Option (Bool) :=
  if x0.length≤9223372036854775807 then (iv x1 x0 0).bind fun y=>match y with
   | .ret w0_4=>(some (w0_4))
   | .x0=>(some (false)) else none
theorem FD (x0:List Int) (x1:Int):Ans (tn x0 x1) (fun r=>Does E 72 [.one (.s .far () 1 (x0.map etI)),.one (tI x1)] [(false,[tB r])]):=by
 unfold tn
 refine JL (fun hl1 => ?_)
 refine JK (fun y hy => ?_)
 replace hy:=Eg x0 x1 x0 0 rfl hl1 y hy
 cases y with
 | ret w0_4 =>
  have h0:=hy
  exact JG (DP Tryz.f72 [.lp .ret (ni w0_4)] (AL h0<|AN))
 | x0 =>
  have h0:=hy
  exact JG (DP Tryz.f72 [.lp (.exit 0) (ov)] (AL h0<|AN))
def cl (l:List Int) (x:Int):Bool:=l.any fun y=>y==x
theorem E8 (x:Int):∀ (rest:List Int) (i:Nat),iv x rest i=some (if cl rest x=true then .ret true else .x0)
 | [],i=>rfl
 | y::rest,i=>by
  unfold iv
  rw [E8 x rest (i+1)]
  unfold cl
  rw [List.any_cons]
  cases y==x<;>rfl
theorem oG (x0:List Int) (x1:Int) (h:x0.length≤1050000):Does E 72 [.one (.s .far () 1 (x0.map etI)),.one (tI x1)] [(false,[tB (cl x0 x1)])]:=by
 exact FD x0 x1 _ (by
  unfold tn
  rw [if_pos (by omega),E8]
  cases q:cl x0 x1<;>rfl)
inductive l4 where
 | ret (v4:Int)
 | x0 
def du (v0:List Int) (v1 v7 v8:Int):US:=stL 19 [(0,.one (.s .far () 1 (v0.map etI))),(1,.one (tI v1)),(7,.one (tI v7)),(8,.one (tI v8))]
def gF (zv4:Int):US:=stL 19 [(4,.one (tI zv4))]
def gV  : US:=stL 19 []
abbrev iU:US→Exit→US→Prop:=Round E 97 (av Tryz.f97 0)
def rQ (v0:List Int) (v1 v7 v8:Int):l4→Prop
 | .ret zv4=>Loops E 97 (av Tryz.f97 0) (du v0 v1 v7 v8) .ret (gF zv4)
 | .x0=>Loops E 97 (av Tryz.f97 0) (du v0 v1 v7 v8) (.exit 0) (gV)
noncomputable def ci (v1:Int):List Int→Nat→Option l4
 | [],i=>some (.x0)
 | hd::rest,i=>cond (v1==hd)
  (some (.ret (i:Int)))
  (ci v1 rest (i+1))
theorem rP (v0:List Int) (v1:Int) (rest:List Int):∀ (i:Nat) ,(v0).drop i=rest→v0.length≤9223372036854775807→Ans (ci v1 rest i) (rQ v0 v1 (v0.length:Int) (i:Int)):=by
 induction rest with
 | nil =>
  intro i hE hl
  have hb:=bG hE
  unfold ci
  exact JG (JI (show iU (du v0 v1 (v0.length:Int) (i:Int)) (.exit 0) (gV) from RP [.b false] (AC hb<|AN)) (by intro h;cases h))
 | cons hd rest ih =>
  intro i hE hl
  have hb:=bm hE
  have hw:=bn hE hl
  have hE2:=aK hE
  have hg:=bo hE
  unfold ci
  apply JJ<;>intro h2
  ·exact JG (JI (show iU (du v0 v1 (v0.length:Int) (i:Int)) .ret (gF (i:Int)) from RP [.b true,.row (etI hd),.b true] (AC hb<|AR etI hg<|AC h2<|AN)) (by intro h;cases h))
  ·exact (ih (i+1) hE2 hl).mono fun y hy=>by have r:iU (du v0 v1 (v0.length:Int) (i:Int)) .normal (du v0 v1 (v0.length:Int) (inc (i:Int))):=RP [.b true,.row (etI hd),.b false] (AC hb<|AR etI hg<|AC h2<|AN);rw [hw] at r;cases y<;>exact JH r hy
noncomputable def dT (x0:List Int) (x1:Int):Option (Int) :=
  if x0.length≤9223372036854775807 then (ci x1 x0 0).bind fun y=>match y with
   | .ret w0_4=>(some (w0_4))
   | .x0=>(some ((-1:Int))) else none
theorem tu (x0:List Int) (x1:Int):Ans (dT x0 x1) (fun r=>Does E 97 [.one (.s .far () 1 (x0.map etI)),.one (tI x1)] [(false,[tI r])]):=by
 unfold dT
 refine JL (fun hl1 => ?_)
 refine JK (fun y hy => ?_)
 replace hy:=rP x0 x1 x0 0 rfl hl1 y hy
 cases y with
 | ret w0_4 =>
  have h0:=hy
  exact JG (DP Tryz.f97 [.val (.int .i64 (x0.length:Int)),.lp .ret (gF w0_4)] (ALn x0 etI<|AL h0<|AN))
 | x0 =>
  have h0:=hy
  exact JG (DP Tryz.f97 [.val (.int .i64 (x0.length:Int)),.lp (.exit 0) (gV)] (ALn x0 etI<|AL h0<|AN))
noncomputable def uK (l:List Int) (x:Int):Int:=(dT l x).getD (-1)
theorem GL (x:Int):∀ (rest:List Int) (i:Nat),(∃ k:Nat,ci x rest i=some (.ret (k:Int))∧cl rest x=true)∨ci x rest i=some .x0∧cl rest x=false
 | [],i => .inr ⟨rfl,rfl⟩
 | y::rest,i=>by
  have e:(x==y)=(y==x):=by cases q:y==x with | true=>rw [eq_of_beq q];simp | false=>exact beq_eq_false_iff_ne.2 fun e=>by rw [e] at q;simp at q
  unfold ci cl
  rw [List.any_cons,e]
  cases y==x with
  | true=>exact .inl ⟨i,rfl,rfl⟩
  | false=>exact GL x rest (i+1)
theorem E5 (l:List Int) (x:Int) (h:l.length≤1050000):dT l x=some (uK l x)∧decide (uK l x≥(0:Int))=cl l x:=by
 have e:∃ r,dT l x=some r∧decide (r≥(0:Int))=cl l x:=by
  unfold dT
  rw [if_pos (by omega)]
  rcases GL x l 0 with ⟨k,h1,h2⟩ | ⟨h1,h2⟩
  ·exact ⟨(k:Int),by rw [h1];rfl,by rw [h2];exact decide_eq_true (by omega)⟩
  ·exact ⟨-1,by rw [h1];rfl,by rw [h2];rfl⟩
 obtain ⟨r,h1,h2⟩:=e
 have p:uK l x=r:=by unfold uK;rw [h1];rfl
 rw [p];exact ⟨h1,h2⟩
theorem rY (x0:List Int) (x1:Int) (h:x0.length≤1050000):Does E 97 [.one (.s .far () 1 (x0.map etI)),.one (tI x1)] [(false,[tI (uK x0 x1)])]:=by
 exact tu x0 x1 _ (E5 x0 x1 h).1
noncomputable def gU (x0:List Int) (x1:Int):Option (Bool) :=
  if x0.length≤1050000 then some (decide ((uK x0 x1)≥(0:Int))) else none
theorem ql (x0:List Int) (x1:Int):Ans (gU x0 x1) (fun r=>Does E 80 [.one (.s .far () 1 (x0.map etI)),.one (tI x1)] [(false,[tB r])]):=by
 unfold gU
 refine JL (fun h0 => ?_)
 exact JG (DP Tryz.f80 [.ret [(false,[tI (uK x0 x1)])]] (AD (rY x0 x1 h0)<|AN))
theorem eU (x0:List Int) (x1:Int) (h:x0.length≤1050000):Does E 80 [.one (.s .far () 1 (x0.map etI)),.one (tI x1)] [(false,[tB (cl x0 x1)])]:=by
 exact ql x0 x1 _ (by
  unfold gU
  try rw [if_pos h]
  rw [(E5 x0 x1 h).2])
inductive tp where
 | ret (v6:Bool)
 | x0 
def ee (v0:List Int) (v1 v2 v7:Int):US:=stL 41 [(0,.one (.s .far () 1 (v0.map etI))),(1,.one (tI v1)),(2,.one (tI v2)),(7,.one (tI v7))]
def jb (zv6:Bool):US:=stL 41 [(6,.one (tB zv6))]
def mp (v0:List Int):US:=stL 41 [(0,.one (.s .far () 1 (v0.map etI)))]
abbrev jq:US→Exit→US→Prop:=Round E 88 (av Tryz.f88 0)
def A7 (v0:List Int) (v1 v2 v7:Int):tp→Prop
 | .ret zv6=>Loops E 88 (av Tryz.f88 0) (ee v0 v1 v2 v7) .ret (jb zv6)
 | .x0=>Loops E 88 (av Tryz.f88 0) (ee v0 v1 v2 v7) (.exit 0) (mp v0)
noncomputable def eO (v0:List Int) (v1 v2:Int):List Int→Nat→Option tp
 | [],i=>some (.x0)
 | hd::rest,i=>cond (aG hd v1 v2)
  (cond (decide ((i:Int)>(0:Int)))
   ((aN v0 (IntKind.wrap .i64 ((i:Int)-(1:Int)))).bind fun g1=>cond (decide (g1≥hd))
    (some (.ret false))
    (eO v0 v1 v2 rest (i+1)))
   (eO v0 v1 v2 rest (i+1)))
  (some (.ret false))
theorem A6 (v0:List Int) (v1 v2:Int) (rest:List Int):∀ (i:Nat) ,(v0).drop i=rest→v0.length≤9223372036854775807→Ans (eO v0 v1 v2 rest i) (A7 v0 v1 v2 (i:Int)):=by
 induction rest with
 | nil =>
  intro i hE hl
  have hb:=bG hE
  unfold eO
  exact JG (JI (show jq (ee v0 v1 v2 (i:Int)) (.exit 0) (mp v0) from RP [.val (.int .i64 (v0.length:Int)),.b false] (ALn v0 etI<|AC hb<|AN)) (by intro h;cases h))
 | cons hd rest ih =>
  intro i hE hl
  have hb:=bm hE
  have hw:=bn hE hl
  have hE2:=aK hE
  have hg:=bo hE
  unfold eO
  apply JJ<;>intro h2
  ·apply JJ<;>intro h3
   ·refine JK (fun g1 h4 => ?_)
    apply JJ<;>intro h5
    ·exact JG (JI (show jq (ee v0 v1 v2 (i:Int)) .ret (jb false) from RP [.val (.int .i64 (v0.length:Int)),.b true,.row (etI hd),rT,.b true,.row (etI g1),.row (etI hd),.b true] (ALn v0 etI<|AC hb<|AR etI hg<|AD (JO (bu hd v1 v2) h2)<|AC h3<|AR etI h4<|AR etI hg<|AC h5<|AN)) (by intro h;cases h))
    ·exact (ih (i+1) hE2 hl).mono fun y hy=>by have r:jq (ee v0 v1 v2 (i:Int)) .normal (ee v0 v1 v2 (inc (i:Int))):=RP [.val (.int .i64 (v0.length:Int)),.b true,.row (etI hd),rT,.b true,.row (etI g1),.row (etI hd),.b false] (ALn v0 etI<|AC hb<|AR etI hg<|AD (JO (bu hd v1 v2) h2)<|AC h3<|AR etI h4<|AR etI hg<|AC h5<|AN);rw [hw] at r;cases y<;>exact JH r hy
   ·exact (ih (i+1) hE2 hl).mono fun y hy=>by have r:jq (ee v0 v1 v2 (i:Int)) .normal (ee v0 v1 v2 (inc (i:Int))):=RP [.val (.int .i64 (v0.length:Int)),.b true,.row (etI hd),rT,.b false] (ALn v0 etI<|AC hb<|AR etI hg<|AD (JO (bu hd v1 v2) h2)<|AC h3<|AN);rw [hw] at r;cases y<;>exact JH r hy
  ·exact JG (JI (show jq (ee v0 v1 v2 (i:Int)) .ret (jb false) from RP [.val (.int .i64 (v0.length:Int)),.b true,.row (etI hd),rF] (ALn v0 etI<|AC hb<|AR etI hg<|AD (JO (bu hd v1 v2) h2)<|AN)) (by intro h;cases h))
noncomputable def pA (x0:List Int) (x1 x2:Int):Option (Bool) :=
  if x0.length≤9223372036854775807 then (eO x0 x1 x2 x0 0).bind fun y=>match y with
   | .ret w0_6=>(some (w0_6))
   | .x0=>(some (decide ((x0.length:Int)>(0:Int)))) else none
theorem Cp (x0:List Int) (x1 x2:Int):Ans (pA x0 x1 x2) (fun r=>Does E 88 [.one (.s .far () 1 (x0.map etI)),.one (tI x1),.one (tI x2)] [(false,[tB r])]):=by
 unfold pA
 refine JL (fun hl1 => ?_)
 refine JK (fun y hy => ?_)
 replace hy:=A6 x0 x1 x2 x0 0 rfl hl1 y hy
 cases y with
 | ret w0_6 =>
  have h0:=hy
  exact JG (DP Tryz.f88 [.lp .ret (jb w0_6)] (AL h0<|AN))
 | x0 =>
  have h0:=hy
  exact JG (DP Tryz.f88 [.lp (.exit 0) (mp x0),.val (.int .i64 (x0.length:Int))] (AL h0<|ALn x0 etI<|AN))
def iE (a b:Int):List Int→Option Int→Bool
 | [],_=>true
 | x::l,p=>aG x a b&&(match p with | some y=>decide (y<x) | none=>true)&&iE a b l (some x)
def aR (l:List Int) (a b:Int):Bool:=iE a b l none&&decide ((l.length:Int)>0)
theorem CL {aO rest:List Int} {x:Int} {i:Nat} (h:aO.drop i=x::rest):i=0∨∃ y,aO[i-1]?=some y:=by
 cases i with
 | zero=>exact .inl rfl
 | succ i =>
  right
  have:i<aO.length:=by
   rcases Nat.lt_or_ge i aO.length with g | g
   ·exact g
   ·rw [List.drop_eq_nil_of_le (by omega)] at h;cases h
  exact ⟨aO[i],by simp [this]⟩
def gt (aO:List Int) (i:Nat):Option Int:=if i=0 then none else aO[i-1]?
theorem xS {aO rest:List Int} {x:Int} {i:Nat} (h:aO.drop i=x::rest):gt aO (i+1)=some x:=by
 unfold gt
 rw [if_neg (by omega)]
 show aO[i]?=some x
 rw [← List.head?_drop,h];rfl
theorem Ff (aO:List Int) (a b:Int) (hl:aO.length≤1050000):∀ (rest:List Int) (i:Nat),aO.drop i=rest→eO aO a b rest i=some (if iE a b rest (gt aO i)=true then .x0 else .ret false)
 | [],i,_=>rfl
 | x::rest,i,h=>by
  have ih:=Ff aO a b hl rest (i+1) (aK h)
  rw [xS h] at ih
  have hi:i<aO.length:=by
   rcases Nat.lt_or_ge i aO.length with g | g
   ·exact g
   ·rw [List.drop_eq_nil_of_le g] at h;cases h
  unfold eO iE
  rw [ih]
  cases aG x a b with
  | false=>rfl
  | true =>
   rw [cond_true,Bool.true_and]
   rcases CL h with rfl | ⟨y,hy⟩
   ·simp [gt]
   ·by_cases z:i=0
    ·subst z;simp [gt]
    ·have hp:gt aO i=some y:=by unfold gt;rw [if_neg z,hy]
     have hg:aN aO (IntKind.wrap .i64 ((i:Int)-1))=some y:=by
      rw [de _ (by omega) (by omega)]
      have e:((i:Int)-1)=((i-1:Nat):Int):=by omega
      rw [e,fN,hy]
     rw [hp,hg,decide_eq_true (by omega:(i:Int)>0),cond_true,Option.bind_some]
     simp only
     by_cases c:y≥x
     ·have yx:¬ y<x:=by omega
      rw [decide_eq_true c,cond_true];simp [yx]
     ·have yx:y<x:=by omega
      rw [decide_eq_false c,cond_false];simp [yx]
theorem bY (x0:List Int) (x1:Int) (x2:Int) (h:x0.length≤1050000):Does E 88 [.one (.s .far () 1 (x0.map etI)),.one (tI x1),.one (tI x2)] [(false,[tB (aR x0 x1 x2)])]:=by
 exact Cp x0 x1 x2 _ (by
  unfold pA
  rw [if_pos (by omega),Ff x0 x1 x2 h x0 0 rfl]
  unfold aR gt
  rw [if_pos rfl]
  cases iE x1 x2 x0 none<;>rfl)
noncomputable def rb (x0:GCron):Option (Bool) :=
  if x0.f0.length≤1050000 then cond (aR x0.f0 (0:Int) (59:Int))
   (if x0.f1.length≤1050000 then cond (aR x0.f1 (0:Int) (23:Int))
    (if x0.f2.length≤1050000 then cond (aR x0.f2 (1:Int) (31:Int))
     (if x0.f3.length≤1050000 then cond (aR x0.f3 (1:Int) (12:Int))
      (if x0.f4.length≤1050000 then some (aR x0.f4 (0:Int) (6:Int)) else none)
      (some (false)) else none)
     (some (false)) else none)
    (some (false)) else none)
   (some (false)) else none
theorem Eb (x0:GCron):Ans (rb x0) (fun r=>Does E 68 [.agg (GCron.t .far x0)] [(false,[tB r])]):=by
 unfold rb
 refine JL (fun h0 => ?_)
 apply JJ<;>intro h1
 ·refine JL (fun h2 => ?_)
  apply JJ<;>intro h3
  ·refine JL (fun h4 => ?_)
   apply JJ<;>intro h5
   ·refine JL (fun h6 => ?_)
    apply JJ<;>intro h7
    ·refine JL (fun h8 => ?_)
     exact JG (DP Tryz.f68 [rT,rT,rT,rT,.ret [(false,[tB (aR x0.f4 (0:Int) (6:Int))])]] (AD (JO (bY x0.f0 (0:Int) (59:Int) h0) h1)<|AD (JO (bY x0.f1 (0:Int) (23:Int) h2) h3)<|AD (JO (bY x0.f2 (1:Int) (31:Int) h4) h5)<|AD (JO (bY x0.f3 (1:Int) (12:Int) h6) h7)<|AD (bY x0.f4 (0:Int) (6:Int) h8)<|AN))
    ·exact JG (DP Tryz.f68 [rT,rT,rT,rF] (AD (JO (bY x0.f0 (0:Int) (59:Int) h0) h1)<|AD (JO (bY x0.f1 (0:Int) (23:Int) h2) h3)<|AD (JO (bY x0.f2 (1:Int) (31:Int) h4) h5)<|AD (JO (bY x0.f3 (1:Int) (12:Int) h6) h7)<|AN))
   ·exact JG (DP Tryz.f68 [rT,rT,rF] (AD (JO (bY x0.f0 (0:Int) (59:Int) h0) h1)<|AD (JO (bY x0.f1 (0:Int) (23:Int) h2) h3)<|AD (JO (bY x0.f2 (1:Int) (31:Int) h4) h5)<|AN))
  ·exact JG (DP Tryz.f68 [rT,rF] (AD (JO (bY x0.f0 (0:Int) (59:Int) h0) h1)<|AD (JO (bY x0.f1 (0:Int) (23:Int) h2) h3)<|AN))
 ·exact JG (DP Tryz.f68 [rF] (AD (JO (bY x0.f0 (0:Int) (59:Int) h0) h1)<|AN))
def gk (c:GCron):Bool:=aR c.f0 0 59&&(aR c.f1 0 23&&(aR c.f2 1 31&&(aR c.f3 1 12&&aR c.f4 0 6)))
theorem vf (x0:GCron) (h:ak.sm x0):Does E 68 [.agg (GCron.t .far x0)] [(false,[tB (gk x0)])]:=by
 exact Eb x0 _ (by
  have h0:=h.1.1
  have h1:=h.2.1.1
  have h2:=h.2.2.1.1
  have h3:=h.2.2.2.1.1
  have h4:=h.2.2.2.2.1
  unfold rb gk
  simp only [h0,h1,h2,h3,h4,if_true]
  cases aR x0.f0 0 59<;>cases aR x0.f1 0 23<;>cases aR x0.f2 1 31<;>cases aR x0.f3 1 12<;>rfl)
inductive uc where
 | ret (v2:Bool)
 | x2 
def ez (v1_0 v1_1 v1_2 v1_3 v1_4:List Int) (v5 v6:Int) (v7:List Int) (v11:Int) (v23:List Int) (v24 v25:Int):US:=stL 53 [(1,.box () [.s .far () 1 (v1_0.map etI),.s .far () 1 (v1_1.map etI),.s .far () 1 (v1_2.map etI),.s .far () 1 (v1_3.map etI),.s .far () 1 (v1_4.map etI)]),(5,.one (tI v5)),(6,.one (tI v6)),(7,.one (.s .far () 1 (v7.map etI))),(10,.clo (.arr [0,1,2,3,4]) [1,1,1,1,1]),(11,.one (tI v11)),(23,.one (.s .far () 1 (v23.map etI))),(24,.one (tI v24)),(25,.one (tI v25))]
def dM (zv2:Bool):US:=stL 53 [(2,.one (tB zv2))]
def cj (v1_0 v1_1 v1_2 v1_3 v1_4 v7:List Int) (v11:Int):US:=stL 53 [(1,.box () [.s .far () 1 (v1_0.map etI),.s .far () 1 (v1_1.map etI),.s .far () 1 (v1_2.map etI),.s .far () 1 (v1_3.map etI),.s .far () 1 (v1_4.map etI)]),(7,.one (.s .far () 1 (v7.map etI))),(10,.clo (.arr [0,1,2,3,4]) [1,1,1,1,1]),(11,.one (tI v11))]
abbrev kk:US→Exit→US→Prop:=Round E 93 (av Tryz.f93 1)
def BW (v1_0 v1_1 v1_2 v1_3 v1_4:List Int) (v5 v6:Int) (v7:List Int) (v11:Int) (v23:List Int) (v24 v25:Int):uc→Prop
 | .ret zv2=>Loops E 93 (av Tryz.f93 1) (ez v1_0 v1_1 v1_2 v1_3 v1_4 v5 v6 v7 v11 v23 v24 v25) .ret (dM zv2)
 | .x2=>Loops E 93 (av Tryz.f93 1) (ez v1_0 v1_1 v1_2 v1_3 v1_4 v5 v6 v7 v11 v23 v24 v25) (.exit 2) (cj v1_0 v1_1 v1_2 v1_3 v1_4 v7 v11)
noncomputable def cF (v5 v6:Int) (v7:List Int):List Int→Nat→Option uc
 | [],i=>some (.x2)
 | hd::rest,i=>cond (aG hd v5 v6)
  (cond (decide ((i:Int)>(0:Int)))
   ((aN v7 (IntKind.wrap .i64 ((i:Int)-(1:Int)))).bind fun g1=>cond (decide (hd≤g1))
    (some (.ret false))
    (cF v5 v6 v7 rest (i+1)))
   (cF v5 v6 v7 rest (i+1)))
  (some (.ret false))
theorem km (v1_0 v1_1 v1_2 v1_3 v1_4:List Int) (v5 v6:Int) (v7:List Int) (v11:Int) (v23:List Int) (rest:List Int):∀ (i:Nat) ,(v23).drop i=rest→v23.length≤9223372036854775807→Ans (cF v5 v6 v7 rest i) (BW v1_0 v1_1 v1_2 v1_3 v1_4 v5 v6 v7 v11 v23 (v23.length:Int) (i:Int)):=by
 induction rest with
 | nil =>
  intro i hE hl
  have hb:=bG hE
  unfold cF
  exact JG (JI (show kk (ez v1_0 v1_1 v1_2 v1_3 v1_4 v5 v6 v7 v11 v23 (v23.length:Int) (i:Int)) (.exit 2) (cj v1_0 v1_1 v1_2 v1_3 v1_4 v7 v11) from RP [.b false] (AC hb<|AN)) (by intro h;cases h))
 | cons hd rest ih =>
  intro i hE hl
  have hb:=bm hE
  have hw:=bn hE hl
  have hE2:=aK hE
  have hg:=bo hE
  unfold cF
  apply JJ<;>intro h2
  ·apply JJ<;>intro h3
   ·refine JK (fun g1 h4 => ?_)
    apply JJ<;>intro h5
    ·exact JG (JI (show kk (ez v1_0 v1_1 v1_2 v1_3 v1_4 v5 v6 v7 v11 v23 (v23.length:Int) (i:Int)) .ret (dM false) from RP [.b true,.row (etI hd),rT,.b true,.row (etI g1),.b true] (AC hb<|AR etI hg<|AD (JO (cW hd v5 v6) h2)<|AC h3<|AR etI h4<|AC h5<|AN)) (by intro h;cases h))
    ·exact (ih (i+1) hE2 hl).mono fun y hy=>by have r:kk (ez v1_0 v1_1 v1_2 v1_3 v1_4 v5 v6 v7 v11 v23 (v23.length:Int) (i:Int)) .normal (ez v1_0 v1_1 v1_2 v1_3 v1_4 v5 v6 v7 v11 v23 (v23.length:Int) (inc (i:Int))):=RP [.b true,.row (etI hd),rT,.b true,.row (etI g1),.b false] (AC hb<|AR etI hg<|AD (JO (cW hd v5 v6) h2)<|AC h3<|AR etI h4<|AC h5<|AN);rw [hw] at r;cases y<;>exact JH r hy
   ·exact (ih (i+1) hE2 hl).mono fun y hy=>by have r:kk (ez v1_0 v1_1 v1_2 v1_3 v1_4 v5 v6 v7 v11 v23 (v23.length:Int) (i:Int)) .normal (ez v1_0 v1_1 v1_2 v1_3 v1_4 v5 v6 v7 v11 v23 (v23.length:Int) (inc (i:Int))):=RP [.b true,.row (etI hd),rT,.b false] (AC hb<|AR etI hg<|AD (JO (cW hd v5 v6) h2)<|AC h3<|AN);rw [hw] at r;cases y<;>exact JH r hy
  ·exact JG (JI (show kk (ez v1_0 v1_1 v1_2 v1_3 v1_4 v5 v6 v7 v11 v23 (v23.length:Int) (i:Int)) .ret (dM false) from RP [.b true,.row (etI hd),rF] (AC hb<|AR etI hg<|AD (JO (cW hd v5 v6) h2)<|AN)) (by intro h;cases h))
inductive pj where
 | ret (v2:Bool)
 | x0 
def bf (v1_0 v1_1 v1_2 v1_3 v1_4:List Int) (v11:Int):US:=stL 53 [(1,.box () [.s .far () 1 (v1_0.map etI),.s .far () 1 (v1_1.map etI),.s .far () 1 (v1_2.map etI),.s .far () 1 (v1_3.map etI),.s .far () 1 (v1_4.map etI)]),(10,.clo (.arr [0,1,2,3,4]) [1,1,1,1,1]),(11,.one (tI v11))]
def bS (zv2:Bool):US:=stL 53 [(2,.one (tB zv2))]
def mX  : US:=stL 53 []
abbrev bQ:US→Exit→US→Prop:=Round E 93 (av Tryz.f93 0)
def BV (v1_0 v1_1 v1_2 v1_3 v1_4:List Int) (v11:Int):pj→Prop
 | .ret zv2=>Loops E 93 (av Tryz.f93 0) (bf v1_0 v1_1 v1_2 v1_3 v1_4 v11) .ret (bS zv2)
 | .x0=>Loops E 93 (av Tryz.f93 0) (bf v1_0 v1_1 v1_2 v1_3 v1_4 v11) (.exit 0) (mX)
noncomputable def bp (v1_0 v1_1 v1_2 v1_3 v1_4:List Int):Nat→Int→Option pj
 | 0,_=>none
 | n+1,v11=>cond (decide (v11<(5:Int)))
  (cond (v11==(0:Int))
   (if v1_0.length≤9223372036854775807 then (cF ((ax v11).1) ((ax v11).2) v1_0 v1_0 0).bind fun y=>match y with
    | .ret w0_2=>(some (.ret w0_2))
    | .x2=>(cond ((v1_0.length:Int)==(0:Int))
     (some (.ret false))
     (bp v1_0 v1_1 v1_2 v1_3 v1_4 n (inc v11))) else none)
   (cond (v11==(1:Int))
    (if v1_1.length≤9223372036854775807 then (cF ((ax v11).1) ((ax v11).2) v1_1 v1_1 0).bind fun y=>match y with
     | .ret w0_2=>(some (.ret w0_2))
     | .x2=>(cond ((v1_1.length:Int)==(0:Int))
      (some (.ret false))
      (bp v1_0 v1_1 v1_2 v1_3 v1_4 n (inc v11))) else none)
    (cond (v11==(2:Int))
     (if v1_2.length≤9223372036854775807 then (cF ((ax v11).1) ((ax v11).2) v1_2 v1_2 0).bind fun y=>match y with
      | .ret w0_2=>(some (.ret w0_2))
      | .x2=>(cond ((v1_2.length:Int)==(0:Int))
       (some (.ret false))
       (bp v1_0 v1_1 v1_2 v1_3 v1_4 n (inc v11))) else none)
     (cond (v11==(3:Int))
      (if v1_3.length≤9223372036854775807 then (cF ((ax v11).1) ((ax v11).2) v1_3 v1_3 0).bind fun y=>match y with
       | .ret w0_2=>(some (.ret w0_2))
       | .x2=>(cond ((v1_3.length:Int)==(0:Int))
        (some (.ret false))
        (bp v1_0 v1_1 v1_2 v1_3 v1_4 n (inc v11))) else none)
      (if v11=(4:Int) then if v1_4.length≤9223372036854775807 then (cF ((ax v11).1) ((ax v11).2) v1_4 v1_4 0).bind fun y=>match y with
       | .ret w0_2=>(some (.ret w0_2))
       | .x2=>(cond ((v1_4.length:Int)==(0:Int))
        (some (.ret false))
        (bp v1_0 v1_1 v1_2 v1_3 v1_4 n (inc v11))) else none else none)))))
  (some (.x0))
theorem BU (v1_0 v1_1 v1_2 v1_3 v1_4:List Int) (n:Nat):∀ (v11:Int),Ans (bp v1_0 v1_1 v1_2 v1_3 v1_4 n v11) (BV v1_0 v1_1 v1_2 v1_3 v1_4 v11):=by
 induction n with
 | zero=>intros;exact Ans.none
 | succ n ih =>
  intro v11
  unfold bp
  apply JJ<;>intro h0
  ·apply JJ<;>intro h1
   ·refine JL (fun hl4 => ?_)
    refine JK (fun y hy => ?_)
    replace hy:=km v1_0 v1_1 v1_2 v1_3 v1_4 ((ax v11).1) ((ax v11).2) v1_0 v11 v1_0 v1_0 0 rfl hl4 y hy
    cases y with
    | ret w0_2 =>
     have h2:=hy
     exact JG (JI (show bQ (bf v1_0 v1_1 v1_2 v1_3 v1_4 v11) .ret (bS w0_2) from RP [.b true,.val (.int .i64 0),.ret [(false,[tI ((ax v11).1)]),(false,[tI ((ax v11).2)])],.val (.int .i64 (v1_0.length:Int)),.lp .ret (dM w0_2)] (AC h0<|AC (p:=v11=(0:Int)) (eq_of_beq h1)<|AD (bM v11)<|ALn v1_0 etI<|AL h2<|AN)) (by intro h;cases h))
    | x2 =>
     have h2:=hy
     apply JJ<;>intro h3
     ·exact JG (JI (show bQ (bf v1_0 v1_1 v1_2 v1_3 v1_4 v11) .ret (bS false) from RP [.b true,.val (.int .i64 0),.ret [(false,[tI ((ax v11).1)]),(false,[tI ((ax v11).2)])],.val (.int .i64 (v1_0.length:Int)),.lp (.exit 2) (cj v1_0 v1_1 v1_2 v1_3 v1_4 v1_0 v11),.val (.int .i64 (v1_0.length:Int)),.b true] (AC h0<|AC (p:=v11=(0:Int)) (eq_of_beq h1)<|AD (bM v11)<|ALn v1_0 etI<|AL h2<|ALn v1_0 etI<|AC h3<|AN)) (by intro h;cases h))
     ·have r:bQ (bf v1_0 v1_1 v1_2 v1_3 v1_4 v11) .normal (bf v1_0 v1_1 v1_2 v1_3 v1_4 (inc v11)):=RP [.b true,.val (.int .i64 0),.ret [(false,[tI ((ax v11).1)]),(false,[tI ((ax v11).2)])],.val (.int .i64 (v1_0.length:Int)),.lp (.exit 2) (cj v1_0 v1_1 v1_2 v1_3 v1_4 v1_0 v11),.val (.int .i64 (v1_0.length:Int)),.b false] (AC h0<|AC (p:=v11=(0:Int)) (eq_of_beq h1)<|AD (bM v11)<|ALn v1_0 etI<|AL h2<|ALn v1_0 etI<|AC h3<|AN);exact (ih (inc v11)).mono fun y hy=>by cases y<;>exact JH r hy
   ·apply JJ<;>intro h2
    ·refine JL (fun hl5 => ?_)
     refine JK (fun y hy => ?_)
     replace hy:=km v1_0 v1_1 v1_2 v1_3 v1_4 ((ax v11).1) ((ax v11).2) v1_1 v11 v1_1 v1_1 0 rfl hl5 y hy
     cases y with
     | ret w0_2 =>
      have h3:=hy
      exact JG (JI (show bQ (bf v1_0 v1_1 v1_2 v1_3 v1_4 v11) .ret (bS w0_2) from RP [.b true,.val (.int .i64 1),.ret [(false,[tI ((ax v11).1)]),(false,[tI ((ax v11).2)])],.val (.int .i64 (v1_1.length:Int)),.lp .ret (dM w0_2)] (AC h0<|AC (p:=v11=(1:Int)) (eq_of_beq h2)<|AD (bM v11)<|ALn v1_1 etI<|AL h3<|AN)) (by intro h;cases h))
     | x2 =>
      have h3:=hy
      apply JJ<;>intro h4
      ·exact JG (JI (show bQ (bf v1_0 v1_1 v1_2 v1_3 v1_4 v11) .ret (bS false) from RP [.b true,.val (.int .i64 1),.ret [(false,[tI ((ax v11).1)]),(false,[tI ((ax v11).2)])],.val (.int .i64 (v1_1.length:Int)),.lp (.exit 2) (cj v1_0 v1_1 v1_2 v1_3 v1_4 v1_1 v11),.val (.int .i64 (v1_1.length:Int)),.b true] (AC h0<|AC (p:=v11=(1:Int)) (eq_of_beq h2)<|AD (bM v11)<|ALn v1_1 etI<|AL h3<|ALn v1_1 etI<|AC h4<|AN)) (by intro h;cases h))
      ·have r:bQ (bf v1_0 v1_1 v1_2 v1_3 v1_4 v11) .normal (bf v1_0 v1_1 v1_2 v1_3 v1_4 (inc v11)):=RP [.b true,.val (.int .i64 1),.ret [(false,[tI ((ax v11).1)]),(false,[tI ((ax v11).2)])],.val (.int .i64 (v1_1.length:Int)),.lp (.exit 2) (cj v1_0 v1_1 v1_2 v1_3 v1_4 v1_1 v11),.val (.int .i64 (v1_1.length:Int)),.b false] (AC h0<|AC (p:=v11=(1:Int)) (eq_of_beq h2)<|AD (bM v11)<|ALn v1_1 etI<|AL h3<|ALn v1_1 etI<|AC h4<|AN);exact (ih (inc v11)).mono fun y hy=>by cases y<;>exact JH r hy
    ·apply JJ<;>intro h3
     ·refine JL (fun hl6 => ?_)
      refine JK (fun y hy => ?_)
      replace hy:=km v1_0 v1_1 v1_2 v1_3 v1_4 ((ax v11).1) ((ax v11).2) v1_2 v11 v1_2 v1_2 0 rfl hl6 y hy
      cases y with
      | ret w0_2 =>
       have h4:=hy
       exact JG (JI (show bQ (bf v1_0 v1_1 v1_2 v1_3 v1_4 v11) .ret (bS w0_2) from RP [.b true,.val (.int .i64 2),.ret [(false,[tI ((ax v11).1)]),(false,[tI ((ax v11).2)])],.val (.int .i64 (v1_2.length:Int)),.lp .ret (dM w0_2)] (AC h0<|AC (p:=v11=(2:Int)) (eq_of_beq h3)<|AD (bM v11)<|ALn v1_2 etI<|AL h4<|AN)) (by intro h;cases h))
      | x2 =>
       have h4:=hy
       apply JJ<;>intro h5
       ·exact JG (JI (show bQ (bf v1_0 v1_1 v1_2 v1_3 v1_4 v11) .ret (bS false) from RP [.b true,.val (.int .i64 2),.ret [(false,[tI ((ax v11).1)]),(false,[tI ((ax v11).2)])],.val (.int .i64 (v1_2.length:Int)),.lp (.exit 2) (cj v1_0 v1_1 v1_2 v1_3 v1_4 v1_2 v11),.val (.int .i64 (v1_2.length:Int)),.b true] (AC h0<|AC (p:=v11=(2:Int)) (eq_of_beq h3)<|AD (bM v11)<|ALn v1_2 etI<|AL h4<|ALn v1_2 etI<|AC h5<|AN)) (by intro h;cases h))
       ·have r:bQ (bf v1_0 v1_1 v1_2 v1_3 v1_4 v11) .normal (bf v1_0 v1_1 v1_2 v1_3 v1_4 (inc v11)):=RP [.b true,.val (.int .i64 2),.ret [(false,[tI ((ax v11).1)]),(false,[tI ((ax v11).2)])],.val (.int .i64 (v1_2.length:Int)),.lp (.exit 2) (cj v1_0 v1_1 v1_2 v1_3 v1_4 v1_2 v11),.val (.int .i64 (v1_2.length:Int)),.b false] (AC h0<|AC (p:=v11=(2:Int)) (eq_of_beq h3)<|AD (bM v11)<|ALn v1_2 etI<|AL h4<|ALn v1_2 etI<|AC h5<|AN);exact (ih (inc v11)).mono fun y hy=>by cases y<;>exact JH r hy
     ·apply JJ<;>intro h4
      ·refine JL (fun hl7 => ?_)
       refine JK (fun y hy => ?_)
       replace hy:=km v1_0 v1_1 v1_2 v1_3 v1_4 ((ax v11).1) ((ax v11).2) v1_3 v11 v1_3 v1_3 0 rfl hl7 y hy
       cases y with
       | ret w0_2 =>
        have h5:=hy
        exact JG (JI (show bQ (bf v1_0 v1_1 v1_2 v1_3 v1_4 v11) .ret (bS w0_2) from RP [.b true,.val (.int .i64 3),.ret [(false,[tI ((ax v11).1)]),(false,[tI ((ax v11).2)])],.val (.int .i64 (v1_3.length:Int)),.lp .ret (dM w0_2)] (AC h0<|AC (p:=v11=(3:Int)) (eq_of_beq h4)<|AD (bM v11)<|ALn v1_3 etI<|AL h5<|AN)) (by intro h;cases h))
       | x2 =>
        have h5:=hy
        apply JJ<;>intro h6
        ·exact JG (JI (show bQ (bf v1_0 v1_1 v1_2 v1_3 v1_4 v11) .ret (bS false) from RP [.b true,.val (.int .i64 3),.ret [(false,[tI ((ax v11).1)]),(false,[tI ((ax v11).2)])],.val (.int .i64 (v1_3.length:Int)),.lp (.exit 2) (cj v1_0 v1_1 v1_2 v1_3 v1_4 v1_3 v11),.val (.int .i64 (v1_3.length:Int)),.b true] (AC h0<|AC (p:=v11=(3:Int)) (eq_of_beq h4)<|AD (bM v11)<|ALn v1_3 etI<|AL h5<|ALn v1_3 etI<|AC h6<|AN)) (by intro h;cases h))
        ·have r:bQ (bf v1_0 v1_1 v1_2 v1_3 v1_4 v11) .normal (bf v1_0 v1_1 v1_2 v1_3 v1_4 (inc v11)):=RP [.b true,.val (.int .i64 3),.ret [(false,[tI ((ax v11).1)]),(false,[tI ((ax v11).2)])],.val (.int .i64 (v1_3.length:Int)),.lp (.exit 2) (cj v1_0 v1_1 v1_2 v1_3 v1_4 v1_3 v11),.val (.int .i64 (v1_3.length:Int)),.b false] (AC h0<|AC (p:=v11=(3:Int)) (eq_of_beq h4)<|AD (bM v11)<|ALn v1_3 etI<|AL h5<|ALn v1_3 etI<|AC h6<|AN);exact (ih (inc v11)).mono fun y hy=>by cases y<;>exact JH r hy
      ·refine JL (fun h5 => ?_)
       refine JL (fun hl7 => ?_)
       refine JK (fun y hy => ?_)
       replace hy:=km v1_0 v1_1 v1_2 v1_3 v1_4 ((ax v11).1) ((ax v11).2) v1_4 v11 v1_4 v1_4 0 rfl hl7 y hy
       cases y with
       | ret w0_2 =>
        have h6:=hy
        exact JG (JI (show bQ (bf v1_0 v1_1 v1_2 v1_3 v1_4 v11) .ret (bS w0_2) from RP [.b true,.val (.int .i64 4),.ret [(false,[tI ((ax v11).1)]),(false,[tI ((ax v11).2)])],.val (.int .i64 (v1_4.length:Int)),.lp .ret (dM w0_2)] (AC h0<|AC h5<|AD (bM v11)<|ALn v1_4 etI<|AL h6<|AN)) (by intro h;cases h))
       | x2 =>
        have h6:=hy
        apply JJ<;>intro h7
        ·exact JG (JI (show bQ (bf v1_0 v1_1 v1_2 v1_3 v1_4 v11) .ret (bS false) from RP [.b true,.val (.int .i64 4),.ret [(false,[tI ((ax v11).1)]),(false,[tI ((ax v11).2)])],.val (.int .i64 (v1_4.length:Int)),.lp (.exit 2) (cj v1_0 v1_1 v1_2 v1_3 v1_4 v1_4 v11),.val (.int .i64 (v1_4.length:Int)),.b true] (AC h0<|AC h5<|AD (bM v11)<|ALn v1_4 etI<|AL h6<|ALn v1_4 etI<|AC h7<|AN)) (by intro h;cases h))
        ·have r:bQ (bf v1_0 v1_1 v1_2 v1_3 v1_4 v11) .normal (bf v1_0 v1_1 v1_2 v1_3 v1_4 (inc v11)):=RP [.b true,.val (.int .i64 4),.ret [(false,[tI ((ax v11).1)]),(false,[tI ((ax v11).2)])],.val (.int .i64 (v1_4.length:Int)),.lp (.exit 2) (cj v1_0 v1_1 v1_2 v1_3 v1_4 v1_4 v11),.val (.int .i64 (v1_4.length:Int)),.b false] (AC h0<|AC h5<|AD (bM v11)<|ALn v1_4 etI<|AL h6<|ALn v1_4 etI<|AC h7<|AN);exact (ih (inc v11)).mono fun y hy=>by cases y<;>exact JH r hy
  ·exact JG (JI (show bQ (bf v1_0 v1_1 v1_2 v1_3 v1_4 v11) (.exit 0) (mX) from RP [.b false] (AC h0<|AN)) (by intro h;cases h))
noncomputable def nq (x0:GCron):Option (Bool) :=
  (bp x0.f0 x0.f1 x0.f2 x0.f3 x0.f4 9223372036854775808 (0:Int)).bind fun y=>match y with
   | .ret w0_2=>(some (w0_2))
   | .x0=>(some (true))
theorem DA (x0:GCron):Ans (nq x0) (fun r=>Does E 93 [.agg (GCron.t .far x0)] [(false,[tB r])]):=by
 unfold nq
 refine JK (fun y hy => ?_)
 replace hy:=BU x0.f0 x0.f1 x0.f2 x0.f3 x0.f4 9223372036854775808 (0:Int) y hy
 cases y with
 | ret w0_2 =>
  have h0:=hy
  exact JG (DP Tryz.f93 [.lp .ret (bS w0_2)] (AL h0<|AN))
 | x0 =>
  have h0:=hy
  exact JG (DP Tryz.f93 [.lp (.exit 0) (mX)] (AL h0<|AN))
theorem EB (aO:List Int) (a b:Int) (hl:aO.length≤1050000):∀ (rest:List Int) (i:Nat),aO.drop i=rest→cF a b aO rest i=some (if iE a b rest (gt aO i)=true then .x2 else .ret false)
 | [],i,_=>rfl
 | x::rest,i,h=>by
  have ih:=EB aO a b hl rest (i+1) (aK h)
  rw [xS h] at ih
  have hi:i<aO.length:=by
   rcases Nat.lt_or_ge i aO.length with g | g
   ·exact g
   ·rw [List.drop_eq_nil_of_le g] at h;cases h
  unfold cF iE
  rw [ih]
  cases aG x a b with
  | false=>rfl
  | true =>
   rw [cond_true,Bool.true_and]
   rcases CL h with rfl | ⟨y,hy⟩
   ·simp [gt]
   ·by_cases z:i=0
    ·subst z;simp [gt]
    ·have hp:gt aO i=some y:=by unfold gt;rw [if_neg z,hy]
     have hg:aN aO (IntKind.wrap .i64 ((i:Int)-1))=some y:=by
      rw [de _ (by omega) (by omega)]
      have e:((i:Int)-1)=((i-1:Nat):Int):=by omega
      rw [e,fN,hy]
     rw [hp,hg,decide_eq_true (by omega:(i:Int)>0),cond_true,Option.bind_some]
     simp only
     by_cases c:y≥x
     ·have yx:¬ y<x:=by omega
      rw [decide_eq_true (show x≤y from c),cond_true];simp [yx]
     ·have yx:y<x:=by omega
      rw [decide_eq_false (show ¬ x≤y from c),cond_false];simp [yx]
theorem ls (l:List Int) (a b:Int) (hl:l.length≤1050000) (K:Option pj) :
  ((cF a b l l 0).bind fun y=>match y with
    | .ret w=>some (.ret w)
    | .x2=>cond ((l.length:Int)==(0:Int)) (some (.ret false)) K)=(cond (aR l a b) K (some (.ret false))):=by
 rw [EB l a b hl l 0 rfl]
 unfold aR gt
 rw [if_pos rfl]
 cases iE a b l none with
 | false=>rfl
 | true =>
  simp only [if_true,Option.bind_some,Bool.true_and]
  cases l with
  | nil=>rfl
  | cons x l =>
   rw [show (((x::l).length:Int)==(0:Int))=false from beq_eq_false_iff_ne.2 (by simp<;>omega),decide_eq_true (by simp<;>omega)]
   rfl
theorem F1 (c:GCron) (h:ak.sm c):nq c=some (gk c):=by
 have h0:=h.1.1
 have h1:=h.2.1.1
 have h2:=h.2.2.1.1
 have h3:=h.2.2.2.1.1
 have h4:=h.2.2.2.2.1
 unfold nq
 have e0:∀ n,bp c.f0 c.f1 c.f2 c.f3 c.f4 (n+6) 0=some (if gk c=true then .x0 else .ret false):=by
  intro n
  have s5:bp c.f0 c.f1 c.f2 c.f3 c.f4 (n+1) (inc (inc (inc (inc (inc 0)))))=some .x0:=rfl
  have s4:bp c.f0 c.f1 c.f2 c.f3 c.f4 (n+2) (inc (inc (inc (inc 0))))=cond (aR c.f4 0 6) (some .x0) (some (.ret false)):=by
   rw [← ls c.f4 0 6 h4, ← s5]
   conv=>lhs;unfold bp
   show (if inc (inc (inc (inc 0)))=4 then (if c.f4.length≤9223372036854775807 then _ else none) else none)=_
   rw [if_pos (by rfl),if_pos (by omega)]
   rfl
  have s3:bp c.f0 c.f1 c.f2 c.f3 c.f4 (n+3) (inc (inc (inc 0)))=cond (aR c.f3 1 12) (cond (aR c.f4 0 6) (some .x0) (some (.ret false))) (some (.ret false)):=by
   rw [← ls c.f3 1 12 h3, ← s4]
   conv=>lhs;unfold bp
   show (if c.f3.length≤9223372036854775807 then _ else none)=_
   rw [if_pos (by omega)]
   rfl
  have s2:bp c.f0 c.f1 c.f2 c.f3 c.f4 (n+4) (inc (inc 0))=cond (aR c.f2 1 31) (cond (aR c.f3 1 12) (cond (aR c.f4 0 6) (some .x0) (some (.ret false))) (some (.ret false))) (some (.ret false)):=by
   rw [← ls c.f2 1 31 h2, ← s3]
   conv=>lhs;unfold bp
   show (if c.f2.length≤9223372036854775807 then _ else none)=_
   rw [if_pos (by omega)]
   rfl
  have s1:bp c.f0 c.f1 c.f2 c.f3 c.f4 (n+5) (inc 0)=cond (aR c.f1 0 23) (cond (aR c.f2 1 31) (cond (aR c.f3 1 12) (cond (aR c.f4 0 6) (some .x0) (some (.ret false))) (some (.ret false))) (some (.ret false))) (some (.ret false)):=by
   rw [← ls c.f1 0 23 h1, ← s2]
   conv=>lhs;unfold bp
   show (if c.f1.length≤9223372036854775807 then _ else none)=_
   rw [if_pos (by omega)]
   rfl
  have s0:bp c.f0 c.f1 c.f2 c.f3 c.f4 (n+6) 0=cond (aR c.f0 0 59) (cond (aR c.f1 0 23) (cond (aR c.f2 1 31) (cond (aR c.f3 1 12) (cond (aR c.f4 0 6) (some .x0) (some (.ret false))) (some (.ret false))) (some (.ret false))) (some (.ret false))) (some (.ret false)):=by
   rw [← ls c.f0 0 59 h0, ← s1]
   conv=>lhs;unfold bp
   show (if c.f0.length≤9223372036854775807 then _ else none)=_
   rw [if_pos (by omega)]
   rfl
  rw [s0]
  unfold gk
  cases aR c.f0 0 59<;>cases aR c.f1 0 23<;>cases aR c.f2 1 31<;>cases aR c.f3 1 12<;>cases aR c.f4 0 6<;>rfl
 rw [e0 9223372036854775802]
 cases gk c<;>rfl
theorem u9 (x0:GCron) (h:ak.sm x0):Does E 93 [.agg (GCron.t .far x0)] [(false,[tB (gk x0)])]:=by
 exact DA x0 _ (F1 x0 h)
noncomputable def sL (x0:List Int) (x1:Int):Option (Bool) :=
  some ((x0.length:Int)==(inc (IntKind.wrap .i64 (((ax x1).2)-((ax x1).1)))))
theorem E4 (x0:List Int) (x1:Int):Ans (sL x0 x1) (fun r=>Does E 94 [.one (.s .far () 1 (x0.map etI)),.one (tI x1)] [(false,[tB r])]):=by
 unfold sL
 exact JG (DP Tryz.f94 [.ret [(false,[tI ((ax x1).1)]),(false,[tI ((ax x1).2)])],.val (.int .i64 (x0.length:Int))] (AD (bM x1)<|ALn x0 etI<|AN))
noncomputable def lE (l:List Int) (i:Int):Bool:=(sL l i).getD false
theorem fp (x0:List Int) (x1:Int):Does E 94 [.one (.s .far () 1 (x0.map etI)),.one (tI x1)] [(false,[tB (lE x0 x1)])]:=by
 exact E4 x0 x1 _ rfl
end Go.Proofs.YtgaiiephdjllkaaGreatDoor.Am
namespace Go.Proofs.YtgaiiephdjllkaaGreatDoor.Am
open Go Go.Proofs Classical
set_option maxRecDepth 100000
set_option linter.unusedVariables false
set_option linter.unusedSimpArgs false
inductive tq where
 | x0 (v5:ByteArray)
def gR (v0:List Int) (v5:ByteArray) (v6:Int):US:=stL 29 [(0,.one (.s .far () 1 (v0.map etI))),(5,.one (tS v5)),(6,.one (tI v6))]
def mq (zv5:ByteArray):US:=stL 29 [(5,.one (tS zv5))]
abbrev ow:US→Exit→US→Prop:=Round E 69 (av Tryz.f69 0)
def Ba (v0:List Int) (v5:ByteArray) (v6:Int):tq→Prop
 | .x0 zv5=>Loops E 69 (av Tryz.f69 0) (gR v0 v5 v6) (.exit 0) (mq zv5)
noncomputable def dA  : List Int→Nat→ByteArray→Option tq
 | [],i,v5=>some (.x0 v5)
 | hd::rest,i,v5=>cond (decide ((i:Int)>(0:Int)))
  (if v5.size+(⟨#[44]⟩:ByteArray).size≤maxStr then if -9223372036854775808≤hd∧hd≤9223372036854775807 then if (v5++(⟨#[44]⟩:ByteArray)).size+(bd hd).size≤maxStr then dA rest (i+1) ((v5++(⟨#[44]⟩:ByteArray))++(bd hd)) else none else none else none)
  (if -9223372036854775808≤hd∧hd≤9223372036854775807 then if v5.size+(bd hd).size≤maxStr then dA rest (i+1) (v5++(bd hd)) else none else none)
theorem A9 (v0:List Int) (rest:List Int):∀ (i:Nat) (v5:ByteArray),(v0).drop i=rest→v0.length≤9223372036854775807→Ans (dA rest i v5) (Ba v0 v5 (i:Int)):=by
 induction rest with
 | nil =>
  intro i v5 hE hl
  have hb:=bG hE
  unfold dA
  exact JG (JI (show ow (gR v0 v5 (i:Int)) (.exit 0) (mq v5) from RP [.val (.int .i64 (v0.length:Int)),.b false] (ALn v0 etI<|AC hb<|AN)) (by intro h;cases h))
 | cons hd rest ih =>
  intro i v5 hE hl
  have hb:=bm hE
  have hw:=bn hE hl
  have hE2:=aK hE
  have hg:=bo hE
  unfold dA
  apply JJ<;>intro h1
  ·refine JL (fun h2 => ?_)
   refine JL (fun h4 => ?_)
   refine JL (fun h5 => ?_)
   exact (ih (i+1) ((v5++(⟨#[44]⟩:ByteArray))++(bd hd)) hE2 hl).mono fun y hy=>by have r:ow (gR v0 v5 (i:Int)) .normal (gR v0 ((v5++(⟨#[44]⟩:ByteArray))++(bd hd)) (inc (i:Int))):=RP [.val (.int .i64 (v0.length:Int)),.b true,.b true,.val (.string (v5++(⟨#[44]⟩:ByteArray))),.row (etI hd),.ret [(false,[tS (bd hd)])],.val (.string ((v5++(⟨#[44]⟩:ByteArray))++(bd hd)))] (ALn v0 etI<|AC hb<|AC h1<|AC (fh (tab:=E.tab) (t:=9) h2)<|AR etI hg<|AD (mv hd h4)<|AC (fh (tab:=E.tab) (t:=9) h5)<|AN);rw [hw] at r;cases y<;>exact JH r hy
  ·refine JL (fun h3 => ?_)
   refine JL (fun h4 => ?_)
   exact (ih (i+1) (v5++(bd hd)) hE2 hl).mono fun y hy=>by have r:ow (gR v0 v5 (i:Int)) .normal (gR v0 (v5++(bd hd)) (inc (i:Int))):=RP [.val (.int .i64 (v0.length:Int)),.b true,.b false,.row (etI hd),.ret [(false,[tS (bd hd)])],.val (.string (v5++(bd hd)))] (ALn v0 etI<|AC hb<|AC h1<|AR etI hg<|AD (mv hd h3)<|AC (fh (tab:=E.tab) (t:=9) h4)<|AN);rw [hw] at r;cases y<;>exact JH r hy
noncomputable def mF (x0:List Int) (x1:Int):Option (ByteArray) :=
  cond ((x0.length:Int)==x1)
   (some ((⟨#[42]⟩:ByteArray)))
   (if x0.length≤9223372036854775807 then (dA x0 0 ByteArray.empty).bind fun y=>match y with
    | .x0 w0_5=>(some (w0_5)) else none)
theorem Cq (x0:List Int) (x1:Int):Ans (mF x0 x1) (fun r=>Does E 69 [.one (.s .far () 1 (x0.map etI)),.one (tI x1)] [(false,[tS r])]):=by
 unfold mF
 apply JJ<;>intro h0
 ·exact JG (DP Tryz.f69 [.val (.int .i64 (x0.length:Int)),.b true] (ALn x0 etI<|AC h0<|AN))
 ·refine JL (fun hl2 => ?_)
  refine JK (fun y hy => ?_)
  replace hy:=A9 x0 x0 0 ByteArray.empty rfl hl2 y hy
  cases y with
  | x0 w0_5 =>
   have h1:=hy
   exact JG (DP Tryz.f69 [.val (.int .i64 (x0.length:Int)),.b false,.lp (.exit 0) (mq w0_5)] (ALn x0 etI<|AC h0<|AL h1<|AN))
def fD (c:UInt8):List (List UInt8)→List UInt8
 | []=>[]
 | x::xs=>x++(xs.map fun y=>c::y).flatten
theorem sS (c:UInt8):∀ xs:List (List UInt8),Lib.join xs [c]=fD c xs
 | []=>rfl
 | [x]=>by simp [Lib.join,List.intercalate,fD]
 | x::y::xs=>by
  have ih:=sS c (y::xs)
  unfold Lib.join List.intercalate at ih ⊢
  rw [List.intersperse_cons_cons,List.flatten_cons,List.flatten_cons,ih]
  simp [fD]
theorem rv (xs:List (List UInt8)) (c:UInt8):aQ (xs.map ofTx) ⟨#[c]⟩=ofTx (fD c xs):=by
 unfold aQ
 have:(xs.map ofTx).map (fun s:ByteArray=>s.data.toList)=xs:=by
  rw [List.map_map]
  conv=>rhs;rw [← List.map_id xs]
  rfl
 rw [this]
 show ofTx (Lib.join xs [c])=_
 rw [sS]
theorem tU (c:UInt8) (k:Nat):∀ xs:List (List UInt8),(∀ x∈xs,x.length≤k)→(fD c xs).length≤xs.length*(k+1)
 | [],_=>by simp [fD]
 | x::xs,h=>by
  have hx:=h x (by simp)
  have:∀ ys:List (List UInt8),(∀ y∈ys,y.length≤k)→((ys.map fun y=>c::y).flatten).length≤ys.length*(k+1):=by
   intro ys
   induction ys with
   | nil=>intro _;simp
   | cons y ys ih =>
    intro h
    have:=ih fun z hz=>h z (by simp [hz])
    have:=h y (by simp)
    simp [Nat.add_mul] at *
    omega
  have:=this xs fun y hy=>h y (by simp [hy])
  simp only [fD,List.length_append,List.length_cons,Nat.add_mul]
  omega
theorem uL {x:Int} (h:0≤x∧x≤59):(tx (bd x)).length≤2:=by
 show (Lib.itoa x).length≤2
 unfold Lib.itoa
 rw [if_neg (by omega)]
 exact qD 1 _ (by omega)
noncomputable def aw (l:List Int) (size:Int):ByteArray:=cond ((l.length:Int)==size) ⟨#[42]⟩ (ofTx (fD 44 (l.map fun x=>tx (bd x))))
theorem eR {l:List Int} (hl:l.length≤60) (h:∀ z∈l,0≤z∧z≤59) (n:Int):(aw l n).size≤200:=by
 unfold aw
 cases (l.length:Int)==n with
 | true=>exact (by decide:(⟨#[42]⟩:ByteArray).size≤200)
 | false =>
  rw [cond_false,mQ]
  have:=tU 44 2 (l.map fun x=>tx (bd x)) (fun y hy=>by
   obtain ⟨x,hx,rfl⟩:=List.mem_map.1 hy
   exact uL (h x hx))
  rw [List.length_map] at this
  omega
theorem FF:∀ (l:List Int) (i:Nat) (v:List UInt8),(∀ z∈l,0≤z∧z≤59)→0<i→v.length+l.length*3≤1000→dA l i (ofTx v)=some (.x0 (ofTx (v++((l.map fun x=>44::tx (bd x)).flatten))))
 | [],i,v,_,_,_=>by unfold dA;simp
 | x::l,i,v,h,hi,hl=>by
  have hx:=h x (by simp)
  have hz:=uL hx
  have e44:(⟨#[44]⟩:ByteArray)=ofTx [44]:=rfl
  simp only [List.length_cons] at hl
  unfold dA
  rw [decide_eq_true (by omega),cond_true,e44,mg, ← qg (bd x),mg]
  simp only [mQ,qp]
  rw [if_pos (by simp [maxStr];omega),if_pos (by omega),if_pos (by simp [maxStr];omega),FF l (i+1) _ (fun z hz=>h z (by simp [hz])) (by omega) (by simp;omega)]
  simp
theorem Hl (l:List Int) (n:Int) (hl:l.length≤60) (h:∀ z∈l,0≤z∧z≤59):mF l n=some (aw l n):=by
 unfold mF aw
 cases (l.length:Int)==n with
 | true=>rfl
 | false =>
  rw [cond_false,cond_false,if_pos (by omega)]
  cases l with
  | nil=>rfl
  | cons x l =>
   have hx:=h x (by simp)
   have hz:=uL hx
   simp only [List.length_cons] at hl
   unfold dA
   have e:ByteArray.empty++bd x=ofTx (tx (bd x)):=by
    show ofTx []++ofTx (tx (bd x))=_
    rw [mg];rfl
   have hz':(bd x).size≤2:=by rw [cI];exact hz
   have e0:ByteArray.empty.size=0:=rfl
   rw [decide_eq_false (by omega),cond_false,if_pos (by omega),if_pos (by rw [e0];unfold maxStr;omega),e,FF l _ _ (fun z hz=>h z (by simp [hz])) (by omega) (by omega),Option.bind_some]
   simp only [List.map_cons,fD,List.map_map]
   rfl
theorem kh (x0:List Int) (x1:Int) (h1:x0.length≤60) (h2:∀ z∈x0,0≤z∧z≤59):Does E 69 [.one (.s .far () 1 (x0.map etI)),.one (tI x1)] [(false,[tS (aw x0 x1)])]:=by
 exact Cq x0 x1 _ (Hl x0 x1 h1 h2)
noncomputable def lR (x0:GCron):Option (ByteArray×Bool) :=
  if ak.sm x0 then cond (gk x0)
   (if x0.f0.length≤60 then if ∀ z∈x0.f0,0≤z∧z≤59 then if (aw x0.f0 (60:Int)).size+(⟨#[32]⟩:ByteArray).size≤maxStr then if x0.f1.length≤60 then if ∀ z∈x0.f1,0≤z∧z≤59 then if ((aw x0.f0 (60:Int))++(⟨#[32]⟩:ByteArray)).size+(aw x0.f1 (24:Int)).size≤maxStr then if (((aw x0.f0 (60:Int))++(⟨#[32]⟩:ByteArray))++(aw x0.f1 (24:Int))).size+(⟨#[32]⟩:ByteArray).size≤maxStr then if x0.f2.length≤60 then if ∀ z∈x0.f2,0≤z∧z≤59 then if ((((aw x0.f0 (60:Int))++(⟨#[32]⟩:ByteArray))++(aw x0.f1 (24:Int)))++(⟨#[32]⟩:ByteArray)).size+(aw x0.f2 (31:Int)).size≤maxStr then if (((((aw x0.f0 (60:Int))++(⟨#[32]⟩:ByteArray))++(aw x0.f1 (24:Int)))++(⟨#[32]⟩:ByteArray))++(aw x0.f2 (31:Int))).size+(⟨#[32]⟩:ByteArray).size≤maxStr then if x0.f3.length≤60 then if ∀ z∈x0.f3,0≤z∧z≤59 then if ((((((aw x0.f0 (60:Int))++(⟨#[32]⟩:ByteArray))++(aw x0.f1 (24:Int)))++(⟨#[32]⟩:ByteArray))++(aw x0.f2 (31:Int)))++(⟨#[32]⟩:ByteArray)).size+(aw x0.f3 (12:Int)).size≤maxStr then if (((((((aw x0.f0 (60:Int))++(⟨#[32]⟩:ByteArray))++(aw x0.f1 (24:Int)))++(⟨#[32]⟩:ByteArray))++(aw x0.f2 (31:Int)))++(⟨#[32]⟩:ByteArray))++(aw x0.f3 (12:Int))).size+(⟨#[32]⟩:ByteArray).size≤maxStr then if x0.f4.length≤60 then if ∀ z∈x0.f4,0≤z∧z≤59 then if ((((((((aw x0.f0 (60:Int))++(⟨#[32]⟩:ByteArray))++(aw x0.f1 (24:Int)))++(⟨#[32]⟩:ByteArray))++(aw x0.f2 (31:Int)))++(⟨#[32]⟩:ByteArray))++(aw x0.f3 (12:Int)))++(⟨#[32]⟩:ByteArray)).size+(aw x0.f4 (7:Int)).size≤maxStr then some (((((((((aw x0.f0 (60:Int))++(⟨#[32]⟩:ByteArray))++(aw x0.f1 (24:Int)))++(⟨#[32]⟩:ByteArray))++(aw x0.f2 (31:Int)))++(⟨#[32]⟩:ByteArray))++(aw x0.f3 (12:Int)))++(⟨#[32]⟩:ByteArray))++(aw x0.f4 (7:Int)),true) else none else none else none else none else none else none else none else none else none else none else none else none else none else none else none else none else none else none)
   (some (ByteArray.empty,false)) else none
theorem AZ (x0:GCron):Ans (lR x0) (fun r=>Does E 44 [.agg (GCron.t .far x0)] [(false,[tS r.1]),(false,[tB r.2])]):=by
 unfold lR
 refine JL (fun h0 => ?_)
 apply JJ<;>intro h1
 ·refine JL (fun h2 => ?_)
  refine JL (fun h3 => ?_)
  refine JL (fun h4 => ?_)
  refine JL (fun h5 => ?_)
  refine JL (fun h6 => ?_)
  refine JL (fun h7 => ?_)
  refine JL (fun h8 => ?_)
  refine JL (fun h9 => ?_)
  refine JL (fun h10 => ?_)
  refine JL (fun h11 => ?_)
  refine JL (fun h12 => ?_)
  refine JL (fun h13 => ?_)
  refine JL (fun h14 => ?_)
  refine JL (fun h15 => ?_)
  refine JL (fun h16 => ?_)
  refine JL (fun h17 => ?_)
  refine JL (fun h18 => ?_)
  refine JL (fun h19 => ?_)
  exact JG (DP Tryz.f44 [rT,.ret [(false,[tS (aw x0.f0 (60:Int))])],.val (.string ((aw x0.f0 (60:Int))++(⟨#[32]⟩:ByteArray))),.ret [(false,[tS (aw x0.f1 (24:Int))])],.val (.string (((aw x0.f0 (60:Int))++(⟨#[32]⟩:ByteArray))++(aw x0.f1 (24:Int)))),.val (.string ((((aw x0.f0 (60:Int))++(⟨#[32]⟩:ByteArray))++(aw x0.f1 (24:Int)))++(⟨#[32]⟩:ByteArray))),.ret [(false,[tS (aw x0.f2 (31:Int))])],.val (.string (((((aw x0.f0 (60:Int))++(⟨#[32]⟩:ByteArray))++(aw x0.f1 (24:Int)))++(⟨#[32]⟩:ByteArray))++(aw x0.f2 (31:Int)))),.val (.string ((((((aw x0.f0 (60:Int))++(⟨#[32]⟩:ByteArray))++(aw x0.f1 (24:Int)))++(⟨#[32]⟩:ByteArray))++(aw x0.f2 (31:Int)))++(⟨#[32]⟩:ByteArray))),.ret [(false,[tS (aw x0.f3 (12:Int))])],.val (.string (((((((aw x0.f0 (60:Int))++(⟨#[32]⟩:ByteArray))++(aw x0.f1 (24:Int)))++(⟨#[32]⟩:ByteArray))++(aw x0.f2 (31:Int)))++(⟨#[32]⟩:ByteArray))++(aw x0.f3 (12:Int)))),.val (.string ((((((((aw x0.f0 (60:Int))++(⟨#[32]⟩:ByteArray))++(aw x0.f1 (24:Int)))++(⟨#[32]⟩:ByteArray))++(aw x0.f2 (31:Int)))++(⟨#[32]⟩:ByteArray))++(aw x0.f3 (12:Int)))++(⟨#[32]⟩:ByteArray))),.ret [(false,[tS (aw x0.f4 (7:Int))])],.val (.string (((((((((aw x0.f0 (60:Int))++(⟨#[32]⟩:ByteArray))++(aw x0.f1 (24:Int)))++(⟨#[32]⟩:ByteArray))++(aw x0.f2 (31:Int)))++(⟨#[32]⟩:ByteArray))++(aw x0.f3 (12:Int)))++(⟨#[32]⟩:ByteArray))++(aw x0.f4 (7:Int))))] (AD (JO (vf x0 h0) h1)<|AD (kh x0.f0 (60:Int) h2 h3)<|AC (fh (tab:=E.tab) (t:=9) h4)<|AD (kh x0.f1 (24:Int) h5 h6)<|AC (fh (tab:=E.tab) (t:=9) h7)<|AC (fh (tab:=E.tab) (t:=9) h8)<|AD (kh x0.f2 (31:Int) h9 h10)<|AC (fh (tab:=E.tab) (t:=9) h11)<|AC (fh (tab:=E.tab) (t:=9) h12)<|AD (kh x0.f3 (12:Int) h13 h14)<|AC (fh (tab:=E.tab) (t:=9) h15)<|AC (fh (tab:=E.tab) (t:=9) h16)<|AD (kh x0.f4 (7:Int) h17 h18)<|AC (fh (tab:=E.tab) (t:=9) h19)<|AN))
 ·exact JG (DP Tryz.f44 [rF] (AD (JO (vf x0 h0) h1)<|AN))
inductive ru where
 | x2 (v7:List ByteArray)
def kA (v1_0 v1_1 v1_2 v1_3 v1_4:List Int) (v4 v7:List ByteArray) (v14:Int) (v28:List Int) (v29 v30:Int):US:=stL 48 [(1,.box () [.s .far () 1 (v1_0.map etI),.s .far () 1 (v1_1.map etI),.s .far () 1 (v1_2.map etI),.s .far () 1 (v1_3.map etI),.s .far () 1 (v1_4.map etI)]),(4,.one (.s .own () 1 (v4.map etS))),(7,.one (.s .own () 1 (v7.map etS))),(13,.clo (.arr [0,1,2,3,4]) [1,1,1,1,1]),(14,.one (tI v14)),(28,.one (.s .far () 1 (v28.map etI))),(29,.one (tI v29)),(30,.one (tI v30))]
def d6 (v1_0 v1_1 v1_2 v1_3 v1_4:List Int) (v4:List ByteArray) (v14:Int) (zv7:List ByteArray):US:=stL 48 [(1,.box () [.s .far () 1 (v1_0.map etI),.s .far () 1 (v1_1.map etI),.s .far () 1 (v1_2.map etI),.s .far () 1 (v1_3.map etI),.s .far () 1 (v1_4.map etI)]),(4,.one (.s .own () 1 (v4.map etS))),(7,.one (.s .own () 1 (zv7.map etS))),(13,.clo (.arr [0,1,2,3,4]) [1,1,1,1,1]),(14,.one (tI v14))]
abbrev rt:US→Exit→US→Prop:=Round E 75 (av Tryz.f75 1)
def yj (v1_0 v1_1 v1_2 v1_3 v1_4:List Int) (v4 v7:List ByteArray) (v14:Int) (v28:List Int) (v29 v30:Int):ru→Prop
 | .x2 zv7=>Loops E 75 (av Tryz.f75 1) (kA v1_0 v1_1 v1_2 v1_3 v1_4 v4 v7 v14 v28 v29 v30) (.exit 2) (d6 v1_0 v1_1 v1_2 v1_3 v1_4 v4 v14 zv7)
noncomputable def bT  : List Int→Nat→(List ByteArray)→Option ru
 | [],i,v7=>some (.x2 v7)
 | hd::rest,i,v7=>if -9223372036854775808≤hd∧hd≤9223372036854775807 then if (v7.length+([bd hd]).length)*16≤140737488355328∧v7.length+([bd hd]).length≤4611686018427387904 then bT rest (i+1) (v7++([bd hd])) else none else none
theorem iB (v1_0 v1_1 v1_2 v1_3 v1_4:List Int) (v4:List ByteArray) (v14:Int) (v28:List Int) (rest:List Int):∀ (i:Nat) (v7:List ByteArray),(v28).drop i=rest→v28.length≤9223372036854775807→Ans (bT rest i v7) (yj v1_0 v1_1 v1_2 v1_3 v1_4 v4 v7 v14 v28 (v28.length:Int) (i:Int)):=by
 induction rest with
 | nil =>
  intro i v7 hE hl
  have hb:=bG hE
  unfold bT
  exact JG (JI (show rt (kA v1_0 v1_1 v1_2 v1_3 v1_4 v4 v7 v14 v28 (v28.length:Int) (i:Int)) (.exit 2) (d6 v1_0 v1_1 v1_2 v1_3 v1_4 v4 v14 v7) from RP [.b false] (AC hb<|AN)) (by intro h;cases h))
 | cons hd rest ih =>
  intro i v7 hE hl
  have hb:=bm hE
  have hw:=bn hE hl
  have hE2:=aK hE
  have hg:=bo hE
  unfold bT
  refine JL (fun h2 => ?_)
  refine JL (fun h3 => ?_)
  exact (ih (i+1) (v7++([bd hd])) hE2 hl).mono fun y hy=>by have r:rt (kA v1_0 v1_1 v1_2 v1_3 v1_4 v4 v7 v14 v28 (v28.length:Int) (i:Int)) .normal (kA v1_0 v1_1 v1_2 v1_3 v1_4 v4 (v7++([bd hd])) v14 v28 (v28.length:Int) (inc (i:Int))):=RP [.b true,.row (etI hd),.ret [(false,[tS (bd hd)])],.rows ((v7++([bd hd])).map etS)] (AC hb<|AR etI hg<|AD (o8 hd h2)<|AAp etS (fun _=>rfl) h3<|AN);rw [hw] at r;cases y<;>exact JH r hy
inductive mY where
 | x0 (v4:List ByteArray)
def aT (v1_0 v1_1 v1_2 v1_3 v1_4:List Int) (v4:List ByteArray) (v14:Int):US:=stL 48 [(1,.box () [.s .far () 1 (v1_0.map etI),.s .far () 1 (v1_1.map etI),.s .far () 1 (v1_2.map etI),.s .far () 1 (v1_3.map etI),.s .far () 1 (v1_4.map etI)]),(4,.one (.s .own () 1 (v4.map etS))),(13,.clo (.arr [0,1,2,3,4]) [1,1,1,1,1]),(14,.one (tI v14))]
def lv (zv4:List ByteArray):US:=stL 48 [(4,.one (.s .own () 1 (zv4.map etS)))]
abbrev cy:US→Exit→US→Prop:=Round E 75 (av Tryz.f75 0)
def yi (v1_0 v1_1 v1_2 v1_3 v1_4:List Int) (v4:List ByteArray) (v14:Int):mY→Prop
 | .x0 zv4=>Loops E 75 (av Tryz.f75 0) (aT v1_0 v1_1 v1_2 v1_3 v1_4 v4 v14) (.exit 0) (lv zv4)
noncomputable def aB (v1_0 v1_1 v1_2 v1_3 v1_4:List Int):Nat→(List ByteArray)→Int→Option mY
 | 0,_,_=>none
 | n+1,v4,v14=>cond (decide (v14<(5:Int)))
  (cond (v14==(0:Int))
   (cond (lE v1_0 v14)
    (if (v4.length+([(⟨#[42]⟩:ByteArray)]).length)*16≤140737488355328∧v4.length+([(⟨#[42]⟩:ByteArray)]).length≤4611686018427387904 then aB v1_0 v1_1 v1_2 v1_3 v1_4 n (v4++([(⟨#[42]⟩:ByteArray)])) (inc v14) else none)
    (if v1_0.length≤9223372036854775807 then (bT v1_0 0 ([])).bind fun y=>match y with
     | .x2 w0_7=>(if w0_7.length≤140737488355328∧(aQ w0_7 (⟨#[44]⟩:ByteArray)).size≤140737488355328 then if (v4.length+([aQ w0_7 (⟨#[44]⟩:ByteArray)]).length)*16≤140737488355328∧v4.length+([aQ w0_7 (⟨#[44]⟩:ByteArray)]).length≤4611686018427387904 then aB v1_0 v1_1 v1_2 v1_3 v1_4 n (v4++([aQ w0_7 (⟨#[44]⟩:ByteArray)])) (inc v14) else none else none) else none))
   (cond (v14==(1:Int))
    (cond (lE v1_1 v14)
     (if (v4.length+([(⟨#[42]⟩:ByteArray)]).length)*16≤140737488355328∧v4.length+([(⟨#[42]⟩:ByteArray)]).length≤4611686018427387904 then aB v1_0 v1_1 v1_2 v1_3 v1_4 n (v4++([(⟨#[42]⟩:ByteArray)])) (inc v14) else none)
     (if v1_1.length≤9223372036854775807 then (bT v1_1 0 ([])).bind fun y=>match y with
      | .x2 w0_7=>(if w0_7.length≤140737488355328∧(aQ w0_7 (⟨#[44]⟩:ByteArray)).size≤140737488355328 then if (v4.length+([aQ w0_7 (⟨#[44]⟩:ByteArray)]).length)*16≤140737488355328∧v4.length+([aQ w0_7 (⟨#[44]⟩:ByteArray)]).length≤4611686018427387904 then aB v1_0 v1_1 v1_2 v1_3 v1_4 n (v4++([aQ w0_7 (⟨#[44]⟩:ByteArray)])) (inc v14) else none else none) else none))
    (cond (v14==(2:Int))
     (cond (lE v1_2 v14)
      (if (v4.length+([(⟨#[42]⟩:ByteArray)]).length)*16≤140737488355328∧v4.length+([(⟨#[42]⟩:ByteArray)]).length≤4611686018427387904 then aB v1_0 v1_1 v1_2 v1_3 v1_4 n (v4++([(⟨#[42]⟩:ByteArray)])) (inc v14) else none)
      (if v1_2.length≤9223372036854775807 then (bT v1_2 0 ([])).bind fun y=>match y with
       | .x2 w0_7=>(if w0_7.length≤140737488355328∧(aQ w0_7 (⟨#[44]⟩:ByteArray)).size≤140737488355328 then if (v4.length+([aQ w0_7 (⟨#[44]⟩:ByteArray)]).length)*16≤140737488355328∧v4.length+([aQ w0_7 (⟨#[44]⟩:ByteArray)]).length≤4611686018427387904 then aB v1_0 v1_1 v1_2 v1_3 v1_4 n (v4++([aQ w0_7 (⟨#[44]⟩:ByteArray)])) (inc v14) else none else none) else none))
     (cond (v14==(3:Int))
      (cond (lE v1_3 v14)
       (if (v4.length+([(⟨#[42]⟩:ByteArray)]).length)*16≤140737488355328∧v4.length+([(⟨#[42]⟩:ByteArray)]).length≤4611686018427387904 then aB v1_0 v1_1 v1_2 v1_3 v1_4 n (v4++([(⟨#[42]⟩:ByteArray)])) (inc v14) else none)
       (if v1_3.length≤9223372036854775807 then (bT v1_3 0 ([])).bind fun y=>match y with
        | .x2 w0_7=>(if w0_7.length≤140737488355328∧(aQ w0_7 (⟨#[44]⟩:ByteArray)).size≤140737488355328 then if (v4.length+([aQ w0_7 (⟨#[44]⟩:ByteArray)]).length)*16≤140737488355328∧v4.length+([aQ w0_7 (⟨#[44]⟩:ByteArray)]).length≤4611686018427387904 then aB v1_0 v1_1 v1_2 v1_3 v1_4 n (v4++([aQ w0_7 (⟨#[44]⟩:ByteArray)])) (inc v14) else none else none) else none))
      (if v14=(4:Int) then cond (lE v1_4 v14)
       (if (v4.length+([(⟨#[42]⟩:ByteArray)]).length)*16≤140737488355328∧v4.length+([(⟨#[42]⟩:ByteArray)]).length≤4611686018427387904 then aB v1_0 v1_1 v1_2 v1_3 v1_4 n (v4++([(⟨#[42]⟩:ByteArray)])) (inc v14) else none)
       (if v1_4.length≤9223372036854775807 then (bT v1_4 0 ([])).bind fun y=>match y with
        | .x2 w0_7=>(if w0_7.length≤140737488355328∧(aQ w0_7 (⟨#[44]⟩:ByteArray)).size≤140737488355328 then if (v4.length+([aQ w0_7 (⟨#[44]⟩:ByteArray)]).length)*16≤140737488355328∧v4.length+([aQ w0_7 (⟨#[44]⟩:ByteArray)]).length≤4611686018427387904 then aB v1_0 v1_1 v1_2 v1_3 v1_4 n (v4++([aQ w0_7 (⟨#[44]⟩:ByteArray)])) (inc v14) else none else none) else none) else none)))))
  (some (.x0 v4))
theorem yh (v1_0 v1_1 v1_2 v1_3 v1_4:List Int) (n:Nat):∀ (v4:List ByteArray) (v14:Int),Ans (aB v1_0 v1_1 v1_2 v1_3 v1_4 n v4 v14) (yi v1_0 v1_1 v1_2 v1_3 v1_4 v4 v14):=by
 induction n with
 | zero=>intros;exact Ans.none
 | succ n ih =>
  intro v4 v14
  unfold aB
  apply JJ<;>intro h0
  ·apply JJ<;>intro h1
   ·apply JJ<;>intro h2
    ·refine JL (fun h3 => ?_)
     have r:cy (aT v1_0 v1_1 v1_2 v1_3 v1_4 v4 v14) .normal (aT v1_0 v1_1 v1_2 v1_3 v1_4 (v4++([(⟨#[42]⟩:ByteArray)])) (inc v14)):=RP [.b true,.val (.int .i64 0),rT,.rows ((v4++([(⟨#[42]⟩:ByteArray)])).map etS)] (AC h0<|AC (p:=v14=(0:Int)) (eq_of_beq h1)<|AD (JO (fp v1_0 v14) h2)<|AAp etS (fun _=>rfl) h3<|AN);exact (ih (v4++([(⟨#[42]⟩:ByteArray)])) (inc v14)).mono fun y hy=>by cases y<;>exact JH r hy
    ·refine JL (fun hl5 => ?_)
     refine JK (fun y hy => ?_)
     replace hy:=iB v1_0 v1_1 v1_2 v1_3 v1_4 v4 v14 v1_0 v1_0 0 ([]) rfl hl5 y hy
     cases y with
     | x2 w0_7 =>
      have h3:=hy
      refine JL (fun h4 => ?_)
      refine JL (fun h5 => ?_)
      have r:cy (aT v1_0 v1_1 v1_2 v1_3 v1_4 v4 v14) .normal (aT v1_0 v1_1 v1_2 v1_3 v1_4 (v4++([aQ w0_7 (⟨#[44]⟩:ByteArray)])) (inc v14)):=RP [.b true,.val (.int .i64 0),rF,.val (.int .i64 (v1_0.length:Int)),.lp (.exit 2) (d6 v1_0 v1_1 v1_2 v1_3 v1_4 v4 v14 w0_7),.ret [(false,[tS (aQ w0_7 (⟨#[44]⟩:ByteArray))])],.rows ((v4++([aQ w0_7 (⟨#[44]⟩:ByteArray)])).map etS)] (AC h0<|AC (p:=v14=(0:Int)) (eq_of_beq h1)<|AD (JO (fp v1_0 v14) h2)<|ALn v1_0 etI<|AL h3<|AV (ψ:=fun k=>E.C k 96 [.one (.s .far () 1 (((w0_7.map etS).drop 0).take (w0_7.map etS).length)),.one (tS (⟨#[44]⟩:ByteArray))]=some [(false,[tS (aQ w0_7 (⟨#[44]⟩:ByteArray))])]) (JN (by simp only [List.take_length,List.drop_zero]) (fC w0_7 (⟨#[44]⟩:ByteArray) h4))<|AAp etS (fun _=>rfl) h5<|AN);exact (ih (v4++([aQ w0_7 (⟨#[44]⟩:ByteArray)])) (inc v14)).mono fun y hy=>by cases y<;>exact JH r hy
   ·apply JJ<;>intro h2
    ·apply JJ<;>intro h3
     ·refine JL (fun h4 => ?_)
      have r:cy (aT v1_0 v1_1 v1_2 v1_3 v1_4 v4 v14) .normal (aT v1_0 v1_1 v1_2 v1_3 v1_4 (v4++([(⟨#[42]⟩:ByteArray)])) (inc v14)):=RP [.b true,.val (.int .i64 1),rT,.rows ((v4++([(⟨#[42]⟩:ByteArray)])).map etS)] (AC h0<|AC (p:=v14=(1:Int)) (eq_of_beq h2)<|AD (JO (fp v1_1 v14) h3)<|AAp etS (fun _=>rfl) h4<|AN);exact (ih (v4++([(⟨#[42]⟩:ByteArray)])) (inc v14)).mono fun y hy=>by cases y<;>exact JH r hy
     ·refine JL (fun hl6 => ?_)
      refine JK (fun y hy => ?_)
      replace hy:=iB v1_0 v1_1 v1_2 v1_3 v1_4 v4 v14 v1_1 v1_1 0 ([]) rfl hl6 y hy
      cases y with
      | x2 w0_7 =>
       have h4:=hy
       refine JL (fun h5 => ?_)
       refine JL (fun h6 => ?_)
       have r:cy (aT v1_0 v1_1 v1_2 v1_3 v1_4 v4 v14) .normal (aT v1_0 v1_1 v1_2 v1_3 v1_4 (v4++([aQ w0_7 (⟨#[44]⟩:ByteArray)])) (inc v14)):=RP [.b true,.val (.int .i64 1),rF,.val (.int .i64 (v1_1.length:Int)),.lp (.exit 2) (d6 v1_0 v1_1 v1_2 v1_3 v1_4 v4 v14 w0_7),.ret [(false,[tS (aQ w0_7 (⟨#[44]⟩:ByteArray))])],.rows ((v4++([aQ w0_7 (⟨#[44]⟩:ByteArray)])).map etS)] (AC h0<|AC (p:=v14=(1:Int)) (eq_of_beq h2)<|AD (JO (fp v1_1 v14) h3)<|ALn v1_1 etI<|AL h4<|AV (ψ:=fun k=>E.C k 96 [.one (.s .far () 1 (((w0_7.map etS).drop 0).take (w0_7.map etS).length)),.one (tS (⟨#[44]⟩:ByteArray))]=some [(false,[tS (aQ w0_7 (⟨#[44]⟩:ByteArray))])]) (JN (by simp only [List.take_length,List.drop_zero]) (fC w0_7 (⟨#[44]⟩:ByteArray) h5))<|AAp etS (fun _=>rfl) h6<|AN);exact (ih (v4++([aQ w0_7 (⟨#[44]⟩:ByteArray)])) (inc v14)).mono fun y hy=>by cases y<;>exact JH r hy
    ·apply JJ<;>intro h3
     ·apply JJ<;>intro h4
      ·refine JL (fun h5 => ?_)
       have r:cy (aT v1_0 v1_1 v1_2 v1_3 v1_4 v4 v14) .normal (aT v1_0 v1_1 v1_2 v1_3 v1_4 (v4++([(⟨#[42]⟩:ByteArray)])) (inc v14)):=RP [.b true,.val (.int .i64 2),rT,.rows ((v4++([(⟨#[42]⟩:ByteArray)])).map etS)] (AC h0<|AC (p:=v14=(2:Int)) (eq_of_beq h3)<|AD (JO (fp v1_2 v14) h4)<|AAp etS (fun _=>rfl) h5<|AN);exact (ih (v4++([(⟨#[42]⟩:ByteArray)])) (inc v14)).mono fun y hy=>by cases y<;>exact JH r hy
      ·refine JL (fun hl7 => ?_)
       refine JK (fun y hy => ?_)
       replace hy:=iB v1_0 v1_1 v1_2 v1_3 v1_4 v4 v14 v1_2 v1_2 0 ([]) rfl hl7 y hy
       cases y with
       | x2 w0_7 =>
        have h5:=hy
        refine JL (fun h6 => ?_)
        refine JL (fun h7 => ?_)
        have r:cy (aT v1_0 v1_1 v1_2 v1_3 v1_4 v4 v14) .normal (aT v1_0 v1_1 v1_2 v1_3 v1_4 (v4++([aQ w0_7 (⟨#[44]⟩:ByteArray)])) (inc v14)):=RP [.b true,.val (.int .i64 2),rF,.val (.int .i64 (v1_2.length:Int)),.lp (.exit 2) (d6 v1_0 v1_1 v1_2 v1_3 v1_4 v4 v14 w0_7),.ret [(false,[tS (aQ w0_7 (⟨#[44]⟩:ByteArray))])],.rows ((v4++([aQ w0_7 (⟨#[44]⟩:ByteArray)])).map etS)] (AC h0<|AC (p:=v14=(2:Int)) (eq_of_beq h3)<|AD (JO (fp v1_2 v14) h4)<|ALn v1_2 etI<|AL h5<|AV (ψ:=fun k=>E.C k 96 [.one (.s .far () 1 (((w0_7.map etS).drop 0).take (w0_7.map etS).length)),.one (tS (⟨#[44]⟩:ByteArray))]=some [(false,[tS (aQ w0_7 (⟨#[44]⟩:ByteArray))])]) (JN (by simp only [List.take_length,List.drop_zero]) (fC w0_7 (⟨#[44]⟩:ByteArray) h6))<|AAp etS (fun _=>rfl) h7<|AN);exact (ih (v4++([aQ w0_7 (⟨#[44]⟩:ByteArray)])) (inc v14)).mono fun y hy=>by cases y<;>exact JH r hy
     ·apply JJ<;>intro h4
      ·apply JJ<;>intro h5
       ·refine JL (fun h6 => ?_)
        have r:cy (aT v1_0 v1_1 v1_2 v1_3 v1_4 v4 v14) .normal (aT v1_0 v1_1 v1_2 v1_3 v1_4 (v4++([(⟨#[42]⟩:ByteArray)])) (inc v14)):=RP [.b true,.val (.int .i64 3),rT,.rows ((v4++([(⟨#[42]⟩:ByteArray)])).map etS)] (AC h0<|AC (p:=v14=(3:Int)) (eq_of_beq h4)<|AD (JO (fp v1_3 v14) h5)<|AAp etS (fun _=>rfl) h6<|AN);exact (ih (v4++([(⟨#[42]⟩:ByteArray)])) (inc v14)).mono fun y hy=>by cases y<;>exact JH r hy
       ·refine JL (fun hl8 => ?_)
        refine JK (fun y hy => ?_)
        replace hy:=iB v1_0 v1_1 v1_2 v1_3 v1_4 v4 v14 v1_3 v1_3 0 ([]) rfl hl8 y hy
        cases y with
        | x2 w0_7 =>
         have h6:=hy
         refine JL (fun h7 => ?_)
         refine JL (fun h8 => ?_)
         have r:cy (aT v1_0 v1_1 v1_2 v1_3 v1_4 v4 v14) .normal (aT v1_0 v1_1 v1_2 v1_3 v1_4 (v4++([aQ w0_7 (⟨#[44]⟩:ByteArray)])) (inc v14)):=RP [.b true,.val (.int .i64 3),rF,.val (.int .i64 (v1_3.length:Int)),.lp (.exit 2) (d6 v1_0 v1_1 v1_2 v1_3 v1_4 v4 v14 w0_7),.ret [(false,[tS (aQ w0_7 (⟨#[44]⟩:ByteArray))])],.rows ((v4++([aQ w0_7 (⟨#[44]⟩:ByteArray)])).map etS)] (AC h0<|AC (p:=v14=(3:Int)) (eq_of_beq h4)<|AD (JO (fp v1_3 v14) h5)<|ALn v1_3 etI<|AL h6<|AV (ψ:=fun k=>E.C k 96 [.one (.s .far () 1 (((w0_7.map etS).drop 0).take (w0_7.map etS).length)),.one (tS (⟨#[44]⟩:ByteArray))]=some [(false,[tS (aQ w0_7 (⟨#[44]⟩:ByteArray))])]) (JN (by simp only [List.take_length,List.drop_zero]) (fC w0_7 (⟨#[44]⟩:ByteArray) h7))<|AAp etS (fun _=>rfl) h8<|AN);exact (ih (v4++([aQ w0_7 (⟨#[44]⟩:ByteArray)])) (inc v14)).mono fun y hy=>by cases y<;>exact JH r hy
      ·refine JL (fun h5 => ?_)
       apply JJ<;>intro h6
       ·refine JL (fun h7 => ?_)
        have r:cy (aT v1_0 v1_1 v1_2 v1_3 v1_4 v4 v14) .normal (aT v1_0 v1_1 v1_2 v1_3 v1_4 (v4++([(⟨#[42]⟩:ByteArray)])) (inc v14)):=RP [.b true,.val (.int .i64 4),rT,.rows ((v4++([(⟨#[42]⟩:ByteArray)])).map etS)] (AC h0<|AC h5<|AD (JO (fp v1_4 v14) h6)<|AAp etS (fun _=>rfl) h7<|AN);exact (ih (v4++([(⟨#[42]⟩:ByteArray)])) (inc v14)).mono fun y hy=>by cases y<;>exact JH r hy
       ·refine JL (fun hl8 => ?_)
        refine JK (fun y hy => ?_)
        replace hy:=iB v1_0 v1_1 v1_2 v1_3 v1_4 v4 v14 v1_4 v1_4 0 ([]) rfl hl8 y hy
        cases y with
        | x2 w0_7 =>
         have h7:=hy
         refine JL (fun h8 => ?_)
         refine JL (fun h9 => ?_)
         have r:cy (aT v1_0 v1_1 v1_2 v1_3 v1_4 v4 v14) .normal (aT v1_0 v1_1 v1_2 v1_3 v1_4 (v4++([aQ w0_7 (⟨#[44]⟩:ByteArray)])) (inc v14)):=RP [.b true,.val (.int .i64 4),rF,.val (.int .i64 (v1_4.length:Int)),.lp (.exit 2) (d6 v1_0 v1_1 v1_2 v1_3 v1_4 v4 v14 w0_7),.ret [(false,[tS (aQ w0_7 (⟨#[44]⟩:ByteArray))])],.rows ((v4++([aQ w0_7 (⟨#[44]⟩:ByteArray)])).map etS)] (AC h0<|AC h5<|AD (JO (fp v1_4 v14) h6)<|ALn v1_4 etI<|AL h7<|AV (ψ:=fun k=>E.C k 96 [.one (.s .far () 1 (((w0_7.map etS).drop 0).take (w0_7.map etS).length)),.one (tS (⟨#[44]⟩:ByteArray))]=some [(false,[tS (aQ w0_7 (⟨#[44]⟩:ByteArray))])]) (JN (by simp only [List.take_length,List.drop_zero]) (fC w0_7 (⟨#[44]⟩:ByteArray) h8))<|AAp etS (fun _=>rfl) h9<|AN);exact (ih (v4++([aQ w0_7 (⟨#[44]⟩:ByteArray)])) (inc v14)).mono fun y hy=>by cases y<;>exact JH r hy
  ·exact JG (JI (show cy (aT v1_0 v1_1 v1_2 v1_3 v1_4 v4 v14) (.exit 0) (lv v4) from RP [.b false] (AC h0<|AN)) (by intro h;cases h))
noncomputable def lw (x0:GCron):Option (ByteArray×Bool) :=
  if ak.sm x0 then cond (gk x0)
   ((aB x0.f0 x0.f1 x0.f2 x0.f3 x0.f4 9223372036854775808 ([]) (0:Int)).bind fun y=>match y with
    | .x0 w0_4=>(if w0_4.length≤140737488355328∧(aQ w0_4 (⟨#[32]⟩:ByteArray)).size≤140737488355328 then some (aQ w0_4 (⟨#[32]⟩:ByteArray),true) else none))
   (some (ByteArray.empty,false)) else none
theorem zW (x0:GCron):Ans (lw x0) (fun r=>Does E 75 [.agg (GCron.t .far x0)] [(false,[tS r.1]),(false,[tB r.2])]):=by
 unfold lw
 refine JL (fun h0 => ?_)
 apply JJ<;>intro h1
 ·refine JK (fun y hy => ?_)
  replace hy:=yh x0.f0 x0.f1 x0.f2 x0.f3 x0.f4 9223372036854775808 ([]) (0:Int) y hy
  cases y with
  | x0 w0_4 =>
   have h2:=hy
   refine JL (fun h3 => ?_)
   exact JG (DP Tryz.f75 [rT,.lp (.exit 0) (lv w0_4),.ret [(false,[tS (aQ w0_4 (⟨#[32]⟩:ByteArray))])]] (AD (JO (u9 x0 h0) h1)<|AL h2<|AV (ψ:=fun k=>E.C k 96 [.one (.s .far () 1 (((w0_4.map etS).drop 0).take (w0_4.map etS).length)),.one (tS (⟨#[32]⟩:ByteArray))]=some [(false,[tS (aQ w0_4 (⟨#[32]⟩:ByteArray))])]) (JN (by simp only [List.take_length,List.drop_zero]) (fC w0_4 (⟨#[32]⟩:ByteArray) h3))<|AN))
 ·exact JG (DP Tryz.f75 [rF] (AD (JO (u9 x0 h0) h1)<|AN))
theorem xU {a b:Int}:∀ {l:List Int} {p:Option Int},iE a b l p=true→l.Pairwise (· < ·)∧∀ y,p=some y→∀ x∈l,y<x
 | [],p,_=>⟨by simp,fun y _ x hx=>by cases hx⟩
 | z::l,p,h=>by
  unfold iE at h
  simp only [Bool.and_eq_true] at h
  obtain ⟨h1,h2⟩:=xU h.2
  have h3:=h2 z rfl
  refine ⟨List.pairwise_cons.2 ⟨h3,h1⟩,fun y e x hx => ?_⟩
  subst e
  have h4:y<z:=by simpa using h.1.2
  rcases List.mem_cons.1 hx with rfl | hx
  ·exact h4
  ·have:=h3 x hx;omega
theorem AU {a b:Int}:∀ {l:List Int} {p:Option Int},iE a b l p=true→∀ x∈l,a≤x∧x≤b
 | [],_,_,x,hx=>by cases hx
 | y::l,p,h,x,hx=>by
  unfold iE at h
  simp only [Bool.and_eq_true] at h
  rcases List.mem_cons.1 hx with rfl | hx
  ·have:=h.1.1;unfold aG at this;simpa using this
  ·exact AU h.2 x hx
theorem xM {l:List Int} {a b:Int} (h:aR l a b=true):∀ x∈l,a≤x∧x≤b:=by
 unfold aR at h
 rw [Bool.and_eq_true] at h
 have h:=h.1
 exact AU h
theorem DX {l:List Int} {a b:Int} (h:aR l a b=true) (hab:a≤b+1):(l.length:Int)≤b+1-a:=by
 have hi:=xM h
 unfold aR at h
 rw [Bool.and_eq_true] at h
 exact uT a b l a (xU h.1).1 hi hab
theorem vk {c:GCron} (h:gk c=true):aR c.f0 0 59=true∧aR c.f1 0 23=true∧aR c.f2 1 31=true∧aR c.f3 1 12=true∧aR c.f4 0 6=true:=by
 unfold gk at h
 simp only [Bool.and_eq_true] at h
 exact h
theorem fz {l:List Int} {a b:Int} (h:aR l a b=true) (h0:0≤a) (h1:a≤b) (h2:b≤59):l.length≤60∧∀ z∈l,0≤z∧z≤59:=by
 have:=DX h (by omega)
 exact ⟨by omega,fun z hz=>by have:=xM h z hz;omega⟩
noncomputable def qC (c:GCron):ByteArray:=ofTx (fD 32 [tx (aw c.f0 60),tx (aw c.f1 24),tx (aw c.f2 31),tx (aw c.f3 12),tx (aw c.f4 7)])
noncomputable def aX (c:GCron):ByteArray×Bool:=cond (gk c) (qC c,true) (ByteArray.empty,false)
theorem H4 (a b c d e:ByteArray):((((((((a++⟨#[32]⟩)++b)++⟨#[32]⟩)++c)++⟨#[32]⟩)++d)++⟨#[32]⟩)++e:ByteArray)=ofTx (fD 32 [tx a,tx b,tx c,tx d,tx e]):=by
 apply Bq
 have e32:tx (⟨#[32]⟩:ByteArray)=[32]:=rfl
 simp [FN,e32,qp,fD]
theorem HS (c:GCron) (h:ak.sm c):lR c=some (aX c):=by
 unfold lR aX
 rw [if_pos h]
 cases q:gk c with
 | false=>rfl
 | true =>
  obtain ⟨k0,k1,k2,k3,k4⟩:=vk q
  have a0:=fz k0 (by decide) (by decide) (by decide)
  have a1:=fz k1 (by decide) (by decide) (by decide)
  have a2:=fz k2 (by decide) (by decide) (by decide)
  have a3:=fz k3 (by decide) (by decide) (by decide)
  have a4:=fz k4 (by decide) (by decide) (by decide)
  have z0:=eR a0.1 a0.2 60
  have z1:=eR a1.1 a1.2 24
  have z2:=eR a2.1 a2.2 31
  have z3:=eR a3.1 a3.2 12
  have z4:=eR a4.1 a4.2 7
  have e32:(⟨#[32]⟩:ByteArray).size=1:=rfl
  rw [cond_true,cond_true]
  simp only [if_pos a0.1,if_pos a0.2,if_pos a1.1,if_pos a1.2,if_pos a2.1,if_pos a2.2,if_pos a3.1,if_pos a3.2,if_pos a4.1,if_pos a4.2,ByteArray.size_append,e32,maxStr]
  repeat rw [if_pos (by omega)]
  rw [H4]
  rfl
theorem GO:∀ (l:List Int) (i:Nat) (v:List ByteArray),(∀ z∈l,0≤z∧z≤59)→v.length+l.length≤1000→bT l i v=some (.x2 (v++l.map bd))
 | [],i,v,_,_=>by unfold bT;simp
 | x::l,i,v,h,hl=>by
  have hx:=h x (by simp)
  simp only [List.length_cons] at hl
  unfold bT
  rw [if_pos (by omega),if_pos (by simp;omega),GO l (i+1) _ (fun z hz=>h z (by simp [hz])) (by simp;omega)]
  simp
theorem mU (l:List Int) (hl:l.length≤60) (hm:∀ z∈l,0≤z∧z≤59) (v:List ByteArray) (hv:v.length≤10) (b:Bool) (n:Int) (hb:b=((l.length:Int)==n)) (K:List ByteArray→Option mY) :
  cond b
    (if (v.length+([(⟨#[42]⟩:ByteArray)]).length)*16≤140737488355328∧v.length+([(⟨#[42]⟩:ByteArray)]).length≤4611686018427387904 then K (v++([(⟨#[42]⟩:ByteArray)])) else none)
    (if l.length≤9223372036854775807 then (bT l 0 ([])).bind fun y=>match y with
     | .x2 w0_7=>(if w0_7.length≤140737488355328∧(aQ w0_7 (⟨#[44]⟩:ByteArray)).size≤140737488355328 then if (v.length+([aQ w0_7 (⟨#[44]⟩:ByteArray)]).length)*16≤140737488355328∧v.length+([aQ w0_7 (⟨#[44]⟩:ByteArray)]).length≤4611686018427387904 then K (v++([aQ w0_7 (⟨#[44]⟩:ByteArray)])) else none else none) else none)=K (v++[aw l n]):=by
 subst hb
 have hj:aQ (l.map bd) ⟨#[44]⟩=ofTx (fD 44 (l.map fun x=>tx (bd x))):=by
  have e:l.map bd=(l.map fun x=>tx (bd x)).map ofTx:=by rw [List.map_map];rfl
  rw [e,rv]
 unfold aw
 have hz:=eR hl hm n
 unfold aw at hz
 cases q:(l.length:Int)==n with
 | true=>rw [cond_true,if_pos (by simp;omega),cond_true]
 | false =>
  rw [q,cond_false] at hz
  rw [cond_false,cond_false,if_pos (by omega),GO l 0 [] hm (by simp;omega),Option.bind_some]
  simp only [List.nil_append]
  rw [hj,if_pos (by rw [List.length_map];omega),if_pos (by simp;omega)]
theorem HR (c:GCron) (h:ak.sm c):lw c=some (aX c):=by
 unfold lw aX
 rw [if_pos h]
 cases q:gk c with
 | false=>rfl
 | true =>
  obtain ⟨k0,k1,k2,k3,k4⟩:=vk q
  have a0:=fz k0 (by decide) (by decide) (by decide)
  have a1:=fz k1 (by decide) (by decide) (by decide)
  have a2:=fz k2 (by decide) (by decide) (by decide)
  have a3:=fz k3 (by decide) (by decide) (by decide)
  have a4:=fz k4 (by decide) (by decide) (by decide)
  have z0:=eR a0.1 a0.2 60
  have z1:=eR a1.1 a1.2 24
  have z2:=eR a2.1 a2.2 31
  have z3:=eR a3.1 a3.2 12
  have z4:=eR a4.1 a4.2 7
  have s0:∀ n,aB c.f0 c.f1 c.f2 c.f3 c.f4 (n+1) [] 0=aB c.f0 c.f1 c.f2 c.f3 c.f4 n ([]++[aw c.f0 60]) 1:=fun n =>
   mU c.f0 a0.1 a0.2 [] (by simp) (lE c.f0 0) 60 rfl fun w=>aB c.f0 c.f1 c.f2 c.f3 c.f4 n w 1
  have s1:∀ n v,v.length≤10→aB c.f0 c.f1 c.f2 c.f3 c.f4 (n+1) v 1=aB c.f0 c.f1 c.f2 c.f3 c.f4 n (v++[aw c.f1 24]) 2:=fun n v hv =>
   mU c.f1 a1.1 a1.2 v hv (lE c.f1 1) 24 rfl fun w=>aB c.f0 c.f1 c.f2 c.f3 c.f4 n w 2
  have s2:∀ n v,v.length≤10→aB c.f0 c.f1 c.f2 c.f3 c.f4 (n+1) v 2=aB c.f0 c.f1 c.f2 c.f3 c.f4 n (v++[aw c.f2 31]) 3:=fun n v hv =>
   mU c.f2 a2.1 a2.2 v hv (lE c.f2 2) 31 rfl fun w=>aB c.f0 c.f1 c.f2 c.f3 c.f4 n w 3
  have s3:∀ n v,v.length≤10→aB c.f0 c.f1 c.f2 c.f3 c.f4 (n+1) v 3=aB c.f0 c.f1 c.f2 c.f3 c.f4 n (v++[aw c.f3 12]) 4:=fun n v hv =>
   mU c.f3 a3.1 a3.2 v hv (lE c.f3 3) 12 rfl fun w=>aB c.f0 c.f1 c.f2 c.f3 c.f4 n w 4
  have s4:∀ n v,v.length≤10→aB c.f0 c.f1 c.f2 c.f3 c.f4 (n+1) v 4=aB c.f0 c.f1 c.f2 c.f3 c.f4 n (v++[aw c.f4 7]) 5:=fun n v hv =>
   mU c.f4 a4.1 a4.2 v hv (lE c.f4 4) 7 rfl fun w=>aB c.f0 c.f1 c.f2 c.f3 c.f4 n w 5
  have s5:∀ n v,aB c.f0 c.f1 c.f2 c.f3 c.f4 (n+1) v 5=some (.x0 v):=fun n v=>rfl
  have st:aB c.f0 c.f1 c.f2 c.f3 c.f4 (9223372036854775802+6) [] 0=_:=s0 _
  rw [s1 _ _ (by simp),s2 _ _ (by simp),s3 _ _ (by simp),s4 _ _ (by simp),s5] at st
  simp only [List.nil_append,List.cons_append] at st
  rw [cond_true,cond_true]
  refine (congrArg (Option.bind · _) st).trans ?_
  rw [Option.bind_some]
  have ej:aQ [aw c.f0 60,aw c.f1 24,aw c.f2 31,aw c.f3 12,aw c.f4 7] ⟨#[32]⟩=qC c:=rv [tx (aw c.f0 60),tx (aw c.f1 24),tx (aw c.f2 31),tx (aw c.f3 12),tx (aw c.f4 7)] 32
  have el:(qC c).size≤2000:=by
   unfold qC
   rw [mQ]
   have:=tU 32 200 [tx (aw c.f0 60),tx (aw c.f1 24),tx (aw c.f2 31),tx (aw c.f3 12),tx (aw c.f4 7)] (fun x hx=>by
    simp only [List.mem_cons,List.not_mem_nil,or_false] at hx
    rcases hx with rfl | rfl | rfl | rfl | rfl<;>rw [← cI]<;>assumption)
   simp only [List.length_cons,List.length_nil] at this
   omega
  show (if _ then _ else none)=_
  rw [ej,if_pos ⟨by simp,by omega⟩]
theorem dZ (x0:GCron) (h:ak.sm x0):Does E 44 [.agg (GCron.t .far x0)] [(false,[tS ((aX x0).1)]),(false,[tB ((aX x0).2)])]:=by
 exact AZ x0 _ (HS x0 h)
theorem rU (x0:GCron) (h:ak.sm x0):Does E 75 [.agg (GCron.t .far x0)] [(false,[tS ((aX x0).1)]),(false,[tB ((aX x0).2)])]:=by
 exact zW x0 _ (HR x0 h)
end Go.Proofs.YtgaiiephdjllkaaGreatDoor.Am
