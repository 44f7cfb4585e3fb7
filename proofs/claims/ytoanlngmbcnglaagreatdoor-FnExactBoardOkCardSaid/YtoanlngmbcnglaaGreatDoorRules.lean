/- Rules. -/
import Derived.Test.YtoanlngmbcnglaaGreatDoorWords
namespace Go.Proofs.YtoanlngmbcnglaaGreatDoor.Am
open Go
set_option linter.unusedVariables false
set_option linter.unusedSimpArgs false
section
open Go.Proofs Classical
set_option maxRecDepth 100000
inductive ww where|ret (v2_0 v2_1 v2_2 v2_3 v2_4:List Int) (v3:Bool)|x0
def iU (v2_0 v2_1 v2_2 v2_3 v2_4 v6_0 v6_1 v6_2 v6_3 v6_4:List Int)(v7:List Bool)(v8:Int):US:=stL 85 [(2,.box () [.s .own () 1 (v2_0.map etI),.s .own () 1 (v2_1.map etI),.s .own () 1 (v2_2.map etI),.s .own () 1 (v2_3.map etI),.s .own () 1 (v2_4.map etI)]),(6,.box () [.s .own () 1 (v6_0.map etI),.s .own () 1 (v6_1.map etI),.s .own () 1 (v6_2.map etI),.s .own () 1 (v6_3.map etI),.s .own () 1 (v6_4.map etI)]),(7,.one (.s .own () 1 (v7.map etB))),(8,T5 v8)]
def nk (a b c d e:List Int)(f:Bool):US:=stL 85 [(2,.box () [.s .own () 1 (a.map etI),.s .own () 1 (b.map etI),.s .own () 1 (c.map etI),.s .own () 1 (d.map etI),.s .own () 1 (e.map etI)]),(3,T6 f)]
def ov (v2_0 v2_1 v2_2 v2_3 v2_4 v6_0 v6_1 v6_2 v6_3 v6_4:List Int):US:=stL 85 [(2,.box () [.s .own () 1 (v2_0.map etI),.s .own () 1 (v2_1.map etI),.s .own () 1 (v2_2.map etI),.s .own () 1 (v2_3.map etI),.s .own () 1 (v2_4.map etI)]),(6,.box () [.s .own () 1 (v6_0.map etI),.s .own () 1 (v6_1.map etI),.s .own () 1 (v6_2.map etI),.s .own () 1 (v6_3.map etI),.s .own () 1 (v6_4.map etI)])]
abbrev qK:US→Exit→US→Prop:=Round E 56 (am Tryz.f56 0)
def EL (v2_0 v2_1 v2_2 v2_3 v2_4 v6_0 v6_1 v6_2 v6_3 v6_4:List Int)(v7:List Bool)(v8:Int):ww→Prop| .ret a b c d e f=>Loops E 56 (am Tryz.f56 0) (iU v2_0 v2_1 v2_2 v2_3 v2_4 v6_0 v6_1 v6_2 v6_3 v6_4 v7 v8) .ret (nk a b c d e f)| .x0=>Loops E 56 (am Tryz.f56 0) (iU v2_0 v2_1 v2_2 v2_3 v2_4 v6_0 v6_1 v6_2 v6_3 v6_4 v7 v8) (.exit 0) (ov v2_0 v2_1 v2_2 v2_3 v2_4 v6_0 v6_1 v6_2 v6_3 v6_4)
noncomputable def iV (v7:List Bool):Nat→Int→Option ww| 0,_=>none|n+1,v8=>cond (decide (v8<(5:Int))) ((ak v7 v8).bind fun a=>cond (a) (iV v7 n (inc v8)) (some (.ret ([]) ([]) ([]) ([]) ([]) false))) (some (.x0))
theorem EK (v2_0 v2_1 v2_2 v2_3 v2_4 v6_0 v6_1 v6_2 v6_3 v6_4:List Int)(v7:List Bool)(n:Nat):∀(v8:Int),Ans (iV v7 n v8) (EL v2_0 v2_1 v2_2 v2_3 v2_4 v6_0 v6_1 v6_2 v6_3 v6_4 v7 v8):=by
 induction n with
 |zero=>intros;exact Ans.none
 |succ n e =>
  intro v8;unfold iV;apply TW<;>intro b
  ·refine TX (fun c a => ?_);apply TW<;>intro d
   ·have r:qK (iU v2_0 v2_1 v2_2 v2_3 v2_4 v6_0 v6_1 v6_2 v6_3 v6_4 v7 v8) .normal (iU v2_0 v2_1 v2_2 v2_3 v2_4 v6_0 v6_1 v6_2 v6_3 v6_4 v7 (inc v8)):=RP [.b true,.row ([tB true])] (AC b<|AC (p:=0≤v8∧v8<((v7.map etB).length:Int)) (CT a)<|AC (p:=(v7.map etB)[0+v8.toNat]?=some ([tB true])) ((vY a).trans (Uz some (show [tB c]=[tB true] by rw[d])))<|AN);exact(e (inc v8)).mono fun y f=>by cases y<;>exact TU r f
   ·exact TT (TV (show qK (iU v2_0 v2_1 v2_2 v2_3 v2_4 v6_0 v6_1 v6_2 v6_3 v6_4 v7 v8) .ret (nk ([]) ([]) ([]) ([]) ([]) false)from RP [.b true,.row ([tB false])] (AC b<|AC (p:=0≤v8∧v8<((v7.map etB).length:Int)) (CT a)<|AC (p:=(v7.map etB)[0+v8.toNat]?=some ([tB false])) ((vY a).trans (Uz some (show [tB c]=[tB false] by rw[d])))<|AN)) (by intro h;cases h))
  ·exact TT (TV (show qK (iU v2_0 v2_1 v2_2 v2_3 v2_4 v6_0 v6_1 v6_2 v6_3 v6_4 v7 v8) (.exit 0) (ov v2_0 v2_1 v2_2 v2_3 v2_4 v6_0 v6_1 v6_2 v6_3 v6_4)from RP [.b false] (AC b<|AN)) (by intro h;cases h))
noncomputable def nX (x0:ByteArray):Option (GCron×Bool):=
  cond ((aN x0).2)
   (cond ((((aN x0).1).length:Int) != 5)
    (some ((GCron.mk ([]:List Int) ([]:List Int) ([]:List Int) ([]:List Int) ([]:List Int)),false))
    (if 0≤(5:Int)∧(5:Int)≤(5:Int)∧((1:Nat):Int)*(5:Int)≤281474976710656∧(5:Int)≤4611686018427387904 then(ak ((aN x0).1) 0).bind fun f=>if f.size≤2000000 then if 0≤(0:Int)∧(0:Int)≤(59:Int)∧(59:Int)≤59 then(ak (List.replicate (5:Int).toNat false) 0).bind fun g1=>(ak ((aN x0).1) 1).bind fun g=>if g.size≤2000000 then if 0≤(0:Int)∧(0:Int)≤(23:Int)∧(23:Int)≤59 then(ak ((List.replicate (5:Int).toNat false).set (0:Int).toNat ((ah f 0 59).2)) 1).bind fun g3=>(ak ((aN x0).1) 2).bind fun g4=>if g4.size≤2000000 then if 0≤(1:Int)∧(1:Int)≤(31:Int)∧(31:Int)≤59 then(ak (((List.replicate (5:Int).toNat false).set (0:Int).toNat ((ah f 0 59).2)).set (1:Int).toNat ((ah g 0 23).2)) 2).bind fun k=>(ak ((aN x0).1) 3).bind fun i=>if i.size≤2000000 then if 0≤(1:Int)∧(1:Int)≤(12:Int)∧(12:Int)≤59 then(ak ((((List.replicate (5:Int).toNat false).set (0:Int).toNat ((ah f 0 59).2)).set (1:Int).toNat ((ah g 0 23).2)).set (2:Int).toNat ((ah g4 1 31).2)) 3).bind fun l=>(ak ((aN x0).1) 4).bind fun j=>if j.size≤2000000 then if 0≤(0:Int)∧(0:Int)≤(6:Int)∧(6:Int)≤59 then(ak (((((List.replicate (5:Int).toNat false).set (0:Int).toNat ((ah f 0 59).2)).set (1:Int).toNat ((ah g 0 23).2)).set (2:Int).toNat ((ah g4 1 31).2)).set (3:Int).toNat ((ah i 1 12).2)) 4).bind fun m=>(iV ((((((List.replicate (5:Int).toNat false).set (0:Int).toNat ((ah f 0 59).2)).set (1:Int).toNat ((ah g 0 23).2)).set (2:Int).toNat ((ah g4 1 31).2)).set (3:Int).toNat ((ah i 1 12).2)).set (4:Int).toNat ((ah j 0 6).2)) 9223372036854775808 0).bind fun y=>match y with
     | .ret a b c d e h=>(some ((GCron.mk a b c d e),h))
     | .x0=>(some ((GCron.mk ((ah f 0 59).1) ((ah g 0 23).1) ((ah g4 1 31).1) ((ah i 1 12).1) ((ah j 0 6).1)),true))else none else none else none else none else none else none else none else none else none else none else none))
   (some ((GCron.mk ([]:List Int) ([]:List Int) ([]:List Int) ([]:List Int) ([]:List Int)),false))
theorem G5 (x0:ByteArray):Ans (nX x0) (fun r=>Does E 56 [T7 x0] [(true,GCron.t .own r.1),T3 r.2]):=by
 unfold nX;apply TW<;>intro C
 ·apply TW<;>intro I
  ·exact TT (DP Tryz.f56 [.ret [(false,[.s .own () 1 (((aN x0).1).map etS)]),T3 true],T8 (((aN x0).1).length:Int),.b true] (AD (nI x0 C)<|ALn ((aN x0).1) etS<|AC I<|AN))
  ·refine TY (fun J => ?_);refine TX (fun a K => ?_);refine TY (fun L => ?_);refine TY (fun M => ?_);refine TX (fun g1 N => ?_);refine TX (fun b O => ?_);refine TY (fun P => ?_);refine TY (fun Q => ?_);refine TX (fun g3 k => ?_);refine TX (fun g4 l => ?_);refine TY (fun m => ?_);refine TY (fun n => ?_);refine TX (fun D o => ?_);refine TX (fun c q => ?_);refine TY (fun s => ?_);refine TY (fun u => ?_);refine TX (fun F v => ?_);refine TX (fun d w => ?_);refine TY (fun x => ?_);refine TY (fun z => ?_);refine TX (fun G A => ?_);refine TX (fun y H => ?_);replace H:=EK ([]) ([]) ([]) ([]) ([]) ((ah a 0 59).1) ((ah b 0 23).1) ((ah g4 1 31).1) ((ah c 1 12).1) ((ah d 0 6).1) ((((((List.replicate (5:Int).toNat false).set (0:Int).toNat ((ah a 0 59).2)).set (1:Int).toNat ((ah b 0 23).2)).set (2:Int).toNat ((ah g4 1 31).2)).set (3:Int).toNat ((ah c 1 12).2)).set (4:Int).toNat ((ah d 0 6).2)) 9223372036854775808 0 y H;cases y with
   |ret e f g h i B =>have j:=H;exact TT (DP Tryz.f56 [.ret [(false,[.s .own () 1 (((aN x0).1).map etS)]),T3 true],T8 (((aN x0).1).length:Int),.b false,.rows ((List.replicate (5:Int).toNat false).map etB),.row (etS a),.ret [(false,[.s .own () 1 (((ah a 0 59).1).map etI)]),T3 ((ah a 0 59).2)],.row (etB g1),.rows (((List.replicate (5:Int).toNat false).set (0:Int).toNat ((ah a 0 59).2)).map etB),.row (etS b),.ret [(false,[.s .own () 1 (((ah b 0 23).1).map etI)]),T3 ((ah b 0 23).2)],.row (etB g3),.rows ((((List.replicate (5:Int).toNat false).set (0:Int).toNat ((ah a 0 59).2)).set (1:Int).toNat ((ah b 0 23).2)).map etB),.row (etS g4),.ret [(false,[.s .own () 1 (((ah g4 1 31).1).map etI)]),T3 ((ah g4 1 31).2)],.row (etB D),.rows (((((List.replicate (5:Int).toNat false).set (0:Int).toNat ((ah a 0 59).2)).set (1:Int).toNat ((ah b 0 23).2)).set (2:Int).toNat ((ah g4 1 31).2)).map etB),.row (etS c),.ret [(false,[.s .own () 1 (((ah c 1 12).1).map etI)]),T3 ((ah c 1 12).2)],.row (etB F),.rows ((((((List.replicate (5:Int).toNat false).set (0:Int).toNat ((ah a 0 59).2)).set (1:Int).toNat ((ah b 0 23).2)).set (2:Int).toNat ((ah g4 1 31).2)).set (3:Int).toNat ((ah c 1 12).2)).map etB),.row (etS d),.ret [(false,[.s .own () 1 (((ah d 0 6).1).map etI)]),T3 ((ah d 0 6).2)],.row (etB G),.rows (((((((List.replicate (5:Int).toNat false).set (0:Int).toNat ((ah a 0 59).2)).set (1:Int).toNat ((ah b 0 23).2)).set (2:Int).toNat ((ah g4 1 31).2)).set (3:Int).toNat ((ah c 1 12).2)).set (4:Int).toNat ((ah d 0 6).2)).map etB),.lp .ret (nk e f g h i B)] (AD (nI x0 C)<|ALn ((aN x0).1) etS<|AC I<|AC J<|AC (p:=List.replicate (5:Int).toNat [tB false]=(List.replicate (5:Int).toNat false).map etB) (nE rfl)<|AG etS K<|AD (eG a 0 59 L M)<|AG etB N<|AC (p:=((List.replicate (5:Int).toNat false).map etB).set (0+(0:Int).toNat) (aA (etB g1) 0 [tB ((ah a 0 59).2)])=((List.replicate (5:Int).toNat false).set (0:Int).toNat ((ah a 0 59).2)).map etB) (gN (by rfl))<|AG etS O<|AD (eG b 0 23 P Q)<|AG etB k<|AC (p:=(((List.replicate (5:Int).toNat false).set (0:Int).toNat ((ah a 0 59).2)).map etB).set (0+(1:Int).toNat) (aA (etB g3) 0 [tB ((ah b 0 23).2)])=(((List.replicate (5:Int).toNat false).set (0:Int).toNat ((ah a 0 59).2)).set (1:Int).toNat ((ah b 0 23).2)).map etB) (gN (by rfl))<|AG etS l<|AD (eG g4 1 31 m n)<|AG etB o<|AC (p:=((((List.replicate (5:Int).toNat false).set (0:Int).toNat ((ah a 0 59).2)).set (1:Int).toNat ((ah b 0 23).2)).map etB).set (0+(2:Int).toNat) (aA (etB D) 0 [tB ((ah g4 1 31).2)])=((((List.replicate (5:Int).toNat false).set (0:Int).toNat ((ah a 0 59).2)).set (1:Int).toNat ((ah b 0 23).2)).set (2:Int).toNat ((ah g4 1 31).2)).map etB) (gN (by rfl))<|AG etS q<|AD (eG c 1 12 s u)<|AG etB v<|AC (p:=(((((List.replicate (5:Int).toNat false).set (0:Int).toNat ((ah a 0 59).2)).set (1:Int).toNat ((ah b 0 23).2)).set (2:Int).toNat ((ah g4 1 31).2)).map etB).set (0+(3:Int).toNat) (aA (etB F) 0 [tB ((ah c 1 12).2)])=(((((List.replicate (5:Int).toNat false).set (0:Int).toNat ((ah a 0 59).2)).set (1:Int).toNat ((ah b 0 23).2)).set (2:Int).toNat ((ah g4 1 31).2)).set (3:Int).toNat ((ah c 1 12).2)).map etB) (gN (by rfl))<|AG etS w<|AD (eG d 0 6 x z)<|AG etB A<|AC (p:=((((((List.replicate (5:Int).toNat false).set (0:Int).toNat ((ah a 0 59).2)).set (1:Int).toNat ((ah b 0 23).2)).set (2:Int).toNat ((ah g4 1 31).2)).set (3:Int).toNat ((ah c 1 12).2)).map etB).set (0+(4:Int).toNat) (aA (etB G) 0 [tB ((ah d 0 6).2)])=((((((List.replicate (5:Int).toNat false).set (0:Int).toNat ((ah a 0 59).2)).set (1:Int).toNat ((ah b 0 23).2)).set (2:Int).toNat ((ah g4 1 31).2)).set (3:Int).toNat ((ah c 1 12).2)).set (4:Int).toNat ((ah d 0 6).2)).map etB) (gN (by rfl))<|AL j<|AN))
   |x0 =>have j:=H;exact TT (DP Tryz.f56 [.ret [(false,[.s .own () 1 (((aN x0).1).map etS)]),T3 true],T8 (((aN x0).1).length:Int),.b false,.rows ((List.replicate (5:Int).toNat false).map etB),.row (etS a),.ret [(false,[.s .own () 1 (((ah a 0 59).1).map etI)]),T3 ((ah a 0 59).2)],.row (etB g1),.rows (((List.replicate (5:Int).toNat false).set (0:Int).toNat ((ah a 0 59).2)).map etB),.row (etS b),.ret [(false,[.s .own () 1 (((ah b 0 23).1).map etI)]),T3 ((ah b 0 23).2)],.row (etB g3),.rows ((((List.replicate (5:Int).toNat false).set (0:Int).toNat ((ah a 0 59).2)).set (1:Int).toNat ((ah b 0 23).2)).map etB),.row (etS g4),.ret [(false,[.s .own () 1 (((ah g4 1 31).1).map etI)]),T3 ((ah g4 1 31).2)],.row (etB D),.rows (((((List.replicate (5:Int).toNat false).set (0:Int).toNat ((ah a 0 59).2)).set (1:Int).toNat ((ah b 0 23).2)).set (2:Int).toNat ((ah g4 1 31).2)).map etB),.row (etS c),.ret [(false,[.s .own () 1 (((ah c 1 12).1).map etI)]),T3 ((ah c 1 12).2)],.row (etB F),.rows ((((((List.replicate (5:Int).toNat false).set (0:Int).toNat ((ah a 0 59).2)).set (1:Int).toNat ((ah b 0 23).2)).set (2:Int).toNat ((ah g4 1 31).2)).set (3:Int).toNat ((ah c 1 12).2)).map etB),.row (etS d),.ret [(false,[.s .own () 1 (((ah d 0 6).1).map etI)]),T3 ((ah d 0 6).2)],.row (etB G),.rows (((((((List.replicate (5:Int).toNat false).set (0:Int).toNat ((ah a 0 59).2)).set (1:Int).toNat ((ah b 0 23).2)).set (2:Int).toNat ((ah g4 1 31).2)).set (3:Int).toNat ((ah c 1 12).2)).set (4:Int).toNat ((ah d 0 6).2)).map etB),.lp (.exit 0) (ov ([]) ([]) ([]) ([]) ([]) ((ah a 0 59).1) ((ah b 0 23).1) ((ah g4 1 31).1) ((ah c 1 12).1) ((ah d 0 6).1))] (AD (nI x0 C)<|ALn ((aN x0).1) etS<|AC I<|AC J<|AC (p:=List.replicate (5:Int).toNat [tB false]=(List.replicate (5:Int).toNat false).map etB) (nE rfl)<|AG etS K<|AD (eG a 0 59 L M)<|AG etB N<|AC (p:=((List.replicate (5:Int).toNat false).map etB).set (0+(0:Int).toNat) (aA (etB g1) 0 [tB ((ah a 0 59).2)])=((List.replicate (5:Int).toNat false).set (0:Int).toNat ((ah a 0 59).2)).map etB) (gN (by rfl))<|AG etS O<|AD (eG b 0 23 P Q)<|AG etB k<|AC (p:=(((List.replicate (5:Int).toNat false).set (0:Int).toNat ((ah a 0 59).2)).map etB).set (0+(1:Int).toNat) (aA (etB g3) 0 [tB ((ah b 0 23).2)])=(((List.replicate (5:Int).toNat false).set (0:Int).toNat ((ah a 0 59).2)).set (1:Int).toNat ((ah b 0 23).2)).map etB) (gN (by rfl))<|AG etS l<|AD (eG g4 1 31 m n)<|AG etB o<|AC (p:=((((List.replicate (5:Int).toNat false).set (0:Int).toNat ((ah a 0 59).2)).set (1:Int).toNat ((ah b 0 23).2)).map etB).set (0+(2:Int).toNat) (aA (etB D) 0 [tB ((ah g4 1 31).2)])=((((List.replicate (5:Int).toNat false).set (0:Int).toNat ((ah a 0 59).2)).set (1:Int).toNat ((ah b 0 23).2)).set (2:Int).toNat ((ah g4 1 31).2)).map etB) (gN (by rfl))<|AG etS q<|AD (eG c 1 12 s u)<|AG etB v<|AC (p:=(((((List.replicate (5:Int).toNat false).set (0:Int).toNat ((ah a 0 59).2)).set (1:Int).toNat ((ah b 0 23).2)).set (2:Int).toNat ((ah g4 1 31).2)).map etB).set (0+(3:Int).toNat) (aA (etB F) 0 [tB ((ah c 1 12).2)])=(((((List.replicate (5:Int).toNat false).set (0:Int).toNat ((ah a 0 59).2)).set (1:Int).toNat ((ah b 0 23).2)).set (2:Int).toNat ((ah g4 1 31).2)).set (3:Int).toNat ((ah c 1 12).2)).map etB) (gN (by rfl))<|AG etS w<|AD (eG d 0 6 x z)<|AG etB A<|AC (p:=((((((List.replicate (5:Int).toNat false).set (0:Int).toNat ((ah a 0 59).2)).set (1:Int).toNat ((ah b 0 23).2)).set (2:Int).toNat ((ah g4 1 31).2)).set (3:Int).toNat ((ah c 1 12).2)).map etB).set (0+(4:Int).toNat) (aA (etB G) 0 [tB ((ah d 0 6).2)])=((((((List.replicate (5:Int).toNat false).set (0:Int).toNat ((ah a 0 59).2)).set (1:Int).toNat ((ah b 0 23).2)).set (2:Int).toNat ((ah g4 1 31).2)).set (3:Int).toNat ((ah c 1 12).2)).set (4:Int).toNat ((ah d 0 6).2)).map etB) (gN (by rfl))<|AL j<|AN))
 ·exact TT (DP Tryz.f56 [.ret [(false,[.s .own () 1 (((aN x0).1).map etS)]),T3 false]] (AD (nI x0 C)<|AN))
inductive wc where|ret (v2_0 v2_1 v2_2 v2_3 v2_4:List Int) (v3:Bool)|x0 (v6_0 v6_1 v6_2 v6_3 v6_4:List Int)
def bw (v2_0 v2_1 v2_2 v2_3 v2_4:List Int)(v4:List ByteArray)(v6_0 v6_1 v6_2 v6_3 v6_4:List Int)(a:Int):US:=stL 46 [(2,.box () [.s .own () 1 (v2_0.map etI),.s .own () 1 (v2_1.map etI),.s .own () 1 (v2_2.map etI),.s .own () 1 (v2_3.map etI),.s .own () 1 (v2_4.map etI)]),(4,.one (.s .own () 1 (v4.map etS))),(6,.box () [.s .own () 1 (v6_0.map etI),.s .own () 1 (v6_1.map etI),.s .own () 1 (v6_2.map etI),.s .own () 1 (v6_3.map etI),.s .own () 1 (v6_4.map etI)]),(24,.clo (.arr [0,1,2,3,4]) [6,6,6,6,6]),(25,T5 a)]
def et (a b c d e:List Int)(f:Bool):US:=stL 46 [(2,.box () [.s .own () 1 (a.map etI),.s .own () 1 (b.map etI),.s .own () 1 (c.map etI),.s .own () 1 (d.map etI),.s .own () 1 (e.map etI)]),(3,T6 f)]
def oj (v2_0 v2_1 v2_2 v2_3 v2_4 a b c d e:List Int):US:=stL 46 [(2,.box () [.s .own () 1 (v2_0.map etI),.s .own () 1 (v2_1.map etI),.s .own () 1 (v2_2.map etI),.s .own () 1 (v2_3.map etI),.s .own () 1 (v2_4.map etI)]),(6,.box () [.s .own () 1 (a.map etI),.s .own () 1 (b.map etI),.s .own () 1 (c.map etI),.s .own () 1 (d.map etI),.s .own () 1 (e.map etI)])]
abbrev cU:US→Exit→US→Prop:=Round E 92 (am Tryz.f92 0)
def En (v2_0 v2_1 v2_2 v2_3 v2_4:List Int)(v4:List ByteArray)(v6_0 v6_1 v6_2 v6_3 v6_4:List Int)(k:Int):wc→Prop| .ret a b c d e l=>Loops E 92 (am Tryz.f92 0) (bw v2_0 v2_1 v2_2 v2_3 v2_4 v4 v6_0 v6_1 v6_2 v6_3 v6_4 k) .ret (et a b c d e l)| .x0 f g h i j=>Loops E 92 (am Tryz.f92 0) (bw v2_0 v2_1 v2_2 v2_3 v2_4 v4 v6_0 v6_1 v6_2 v6_3 v6_4 k) (.exit 0) (oj v2_0 v2_1 v2_2 v2_3 v2_4 f g h i j)
noncomputable def aQ (v4:List ByteArray):Nat→(List Int)→(List Int)→(List Int)→(List Int)→(List Int)→Int→Option wc| 0,_,_,_,_,_,_=>none|n+1,v6_0,v6_1,v6_2,v6_3,v6_4,a=>cond (decide (a<(5:Int))) (cond (a==(0:Int)) ((ak v4 a).bind fun b=>if b.size≤2000000 then cond ((aS b a).2) (aQ v4 n ((aS b a).1) v6_1 v6_2 v6_3 v6_4 (inc a)) (some (.ret ([]) ([]) ([]) ([]) ([]) false))else none) (cond (a==(1:Int)) ((ak v4 a).bind fun b=>if b.size≤2000000 then cond ((aS b a).2) (aQ v4 n v6_0 ((aS b a).1) v6_2 v6_3 v6_4 (inc a)) (some (.ret ([]) ([]) ([]) ([]) ([]) false))else none) (cond (a==(2:Int)) ((ak v4 a).bind fun b=>if b.size≤2000000 then cond ((aS b a).2) (aQ v4 n v6_0 v6_1 ((aS b a).1) v6_3 v6_4 (inc a)) (some (.ret ([]) ([]) ([]) ([]) ([]) false))else none) (cond (a==(3:Int)) ((ak v4 a).bind fun b=>if b.size≤2000000 then cond ((aS b a).2) (aQ v4 n v6_0 v6_1 v6_2 ((aS b a).1) v6_4 (inc a)) (some (.ret ([]) ([]) ([]) ([]) ([]) false))else none) (if a=(4:Int)then(ak v4 a).bind fun b=>if b.size≤2000000 then cond ((aS b a).2) (aQ v4 n v6_0 v6_1 v6_2 v6_3 ((aS b a).1) (inc a)) (some (.ret ([]) ([]) ([]) ([]) ([]) false))else none else none))))) (some (.x0 v6_0 v6_1 v6_2 v6_3 v6_4))
theorem Em (v2_0 v2_1 v2_2 v2_3 v2_4:List Int)(v4:List ByteArray)(n:Nat):∀(v6_0 v6_1 v6_2 v6_3 v6_4:List Int)(a:Int),Ans (aQ v4 n v6_0 v6_1 v6_2 v6_3 v6_4 a) (En v2_0 v2_1 v2_2 v2_3 v2_4 v4 v6_0 v6_1 v6_2 v6_3 v6_4 a):=by
 induction n with
 |zero=>intros;exact Ans.none
 |succ n j =>
  intro v6_0 v6_1 v6_2 v6_3 v6_4 a;unfold aQ;apply TW<;>intro c
  ·apply TW<;>intro m
   ·refine TX (fun b k => ?_);refine TY (fun g => ?_);apply TW<;>intro d
    ·have r:cU (bw v2_0 v2_1 v2_2 v2_3 v2_4 v4 v6_0 v6_1 v6_2 v6_3 v6_4 a) .normal (bw v2_0 v2_1 v2_2 v2_3 v2_4 v4 ((aS b a).1) v6_1 v6_2 v6_3 v6_4 (inc a)):=RP [.b true,T8 0,.row (etS b),.ret [(false,[.s .own () 1 (((aS b a).1).map etI)]),T3 true]] (AC c<|AC (p:=a=(0:Int)) (eq_of_beq m)<|AG etS k<|AD (cD b a g d)<|AN);exact(j ((aS b a).1) v6_1 v6_2 v6_3 v6_4 (inc a)).mono fun y f=>by cases y<;>exact TU r f
    ·exact TT (TV (show cU (bw v2_0 v2_1 v2_2 v2_3 v2_4 v4 v6_0 v6_1 v6_2 v6_3 v6_4 a) .ret (et ([]) ([]) ([]) ([]) ([]) false)from RP [.b true,T8 0,.row (etS b),.ret [(false,[.s .own () 1 (((aS b a).1).map etI)]),T3 false]] (AC c<|AC (p:=a=(0:Int)) (eq_of_beq m)<|AG etS k<|AD (cD b a g d)<|AN)) (by intro h;cases h))
   ·apply TW<;>intro k
    ·refine TX (fun b g => ?_);refine TY (fun d => ?_);apply TW<;>intro e
     ·have r:cU (bw v2_0 v2_1 v2_2 v2_3 v2_4 v4 v6_0 v6_1 v6_2 v6_3 v6_4 a) .normal (bw v2_0 v2_1 v2_2 v2_3 v2_4 v4 v6_0 ((aS b a).1) v6_2 v6_3 v6_4 (inc a)):=RP [.b true,T8 1,.row (etS b),.ret [(false,[.s .own () 1 (((aS b a).1).map etI)]),T3 true]] (AC c<|AC (p:=a=(1:Int)) (eq_of_beq k)<|AG etS g<|AD (cD b a d e)<|AN);exact(j v6_0 ((aS b a).1) v6_2 v6_3 v6_4 (inc a)).mono fun y f=>by cases y<;>exact TU r f
     ·exact TT (TV (show cU (bw v2_0 v2_1 v2_2 v2_3 v2_4 v4 v6_0 v6_1 v6_2 v6_3 v6_4 a) .ret (et ([]) ([]) ([]) ([]) ([]) false)from RP [.b true,T8 1,.row (etS b),.ret [(false,[.s .own () 1 (((aS b a).1).map etI)]),T3 false]] (AC c<|AC (p:=a=(1:Int)) (eq_of_beq k)<|AG etS g<|AD (cD b a d e)<|AN)) (by intro h;cases h))
    ·apply TW<;>intro g
     ·refine TX (fun b d => ?_);refine TY (fun e => ?_);apply TW<;>intro i
      ·have r:cU (bw v2_0 v2_1 v2_2 v2_3 v2_4 v4 v6_0 v6_1 v6_2 v6_3 v6_4 a) .normal (bw v2_0 v2_1 v2_2 v2_3 v2_4 v4 v6_0 v6_1 ((aS b a).1) v6_3 v6_4 (inc a)):=RP [.b true,T8 2,.row (etS b),.ret [(false,[.s .own () 1 (((aS b a).1).map etI)]),T3 true]] (AC c<|AC (p:=a=(2:Int)) (eq_of_beq g)<|AG etS d<|AD (cD b a e i)<|AN);exact(j v6_0 v6_1 ((aS b a).1) v6_3 v6_4 (inc a)).mono fun y f=>by cases y<;>exact TU r f
      ·exact TT (TV (show cU (bw v2_0 v2_1 v2_2 v2_3 v2_4 v4 v6_0 v6_1 v6_2 v6_3 v6_4 a) .ret (et ([]) ([]) ([]) ([]) ([]) false)from RP [.b true,T8 2,.row (etS b),.ret [(false,[.s .own () 1 (((aS b a).1).map etI)]),T3 false]] (AC c<|AC (p:=a=(2:Int)) (eq_of_beq g)<|AG etS d<|AD (cD b a e i)<|AN)) (by intro h;cases h))
     ·apply TW<;>intro d
      ·refine TX (fun b e => ?_);refine TY (fun i => ?_);apply TW<;>intro l
       ·have r:cU (bw v2_0 v2_1 v2_2 v2_3 v2_4 v4 v6_0 v6_1 v6_2 v6_3 v6_4 a) .normal (bw v2_0 v2_1 v2_2 v2_3 v2_4 v4 v6_0 v6_1 v6_2 ((aS b a).1) v6_4 (inc a)):=RP [.b true,T8 3,.row (etS b),.ret [(false,[.s .own () 1 (((aS b a).1).map etI)]),T3 true]] (AC c<|AC (p:=a=(3:Int)) (eq_of_beq d)<|AG etS e<|AD (cD b a i l)<|AN);exact(j v6_0 v6_1 v6_2 ((aS b a).1) v6_4 (inc a)).mono fun y f=>by cases y<;>exact TU r f
       ·exact TT (TV (show cU (bw v2_0 v2_1 v2_2 v2_3 v2_4 v4 v6_0 v6_1 v6_2 v6_3 v6_4 a) .ret (et ([]) ([]) ([]) ([]) ([]) false)from RP [.b true,T8 3,.row (etS b),.ret [(false,[.s .own () 1 (((aS b a).1).map etI)]),T3 false]] (AC c<|AC (p:=a=(3:Int)) (eq_of_beq d)<|AG etS e<|AD (cD b a i l)<|AN)) (by intro h;cases h))
      ·refine TY (fun e => ?_);refine TX (fun b i => ?_);refine TY (fun l => ?_);apply TW<;>intro o
       ·have r:cU (bw v2_0 v2_1 v2_2 v2_3 v2_4 v4 v6_0 v6_1 v6_2 v6_3 v6_4 a) .normal (bw v2_0 v2_1 v2_2 v2_3 v2_4 v4 v6_0 v6_1 v6_2 v6_3 ((aS b a).1) (inc a)):=RP [.b true,T8 4,.row (etS b),.ret [(false,[.s .own () 1 (((aS b a).1).map etI)]),T3 true]] (AC c<|AC e<|AG etS i<|AD (cD b a l o)<|AN);exact(j v6_0 v6_1 v6_2 v6_3 ((aS b a).1) (inc a)).mono fun y f=>by cases y<;>exact TU r f
       ·exact TT (TV (show cU (bw v2_0 v2_1 v2_2 v2_3 v2_4 v4 v6_0 v6_1 v6_2 v6_3 v6_4 a) .ret (et ([]) ([]) ([]) ([]) ([]) false)from RP [.b true,T8 4,.row (etS b),.ret [(false,[.s .own () 1 (((aS b a).1).map etI)]),T3 false]] (AC c<|AC e<|AG etS i<|AD (cD b a l o)<|AN)) (by intro h;cases h))
  ·exact TT (TV (show cU (bw v2_0 v2_1 v2_2 v2_3 v2_4 v4 v6_0 v6_1 v6_2 v6_3 v6_4 a) (.exit 0) (oj v2_0 v2_1 v2_2 v2_3 v2_4 v6_0 v6_1 v6_2 v6_3 v6_4)from RP [.b false] (AC c<|AN)) (by intro h;cases h))
noncomputable def nM (x0:ByteArray):Option (GCron×Bool):=
  cond ((aN x0).2)
   (cond ((((aN x0).1).length:Int) != 5)
    (some ((GCron.mk ([]:List Int) ([]:List Int) ([]:List Int) ([]:List Int) ([]:List Int)),false))
    ((aQ ((aN x0).1) 9223372036854775808 ([]) ([]) ([]) ([]) ([]) 0).bind fun y=>match y with
     | .ret a b c d e k=>(some ((GCron.mk a b c d e),k))
     | .x0 f g h i j=>(some ((GCron.mk f g h i j),true))))
   (some ((GCron.mk ([]:List Int) ([]:List Int) ([]:List Int) ([]:List Int) ([]:List Int)),false))
theorem Gz (x0:ByteArray):Ans (nM x0) (fun r=>Does E 92 [T7 x0] [(true,GCron.t .own r.1),T3 r.2]):=by
 unfold nM;apply TW<;>intro l
 ·apply TW<;>intro n
  ·exact TT (DP Tryz.f92 [.ret [(false,[.s .own () 1 (((aN x0).1).map etS)]),T3 true],T8 (((aN x0).1).length:Int),.b true] (AD (nH x0 l)<|ALn ((aN x0).1) etS<|AC n<|AN))
  ·refine TX (fun y m => ?_);replace m:=Em ([]) ([]) ([]) ([]) ([]) ((aN x0).1) 9223372036854775808 ([]) ([]) ([]) ([]) ([]) 0 y m;cases y with
   |ret a b c d e k =>have o:=m;exact TT (DP Tryz.f92 [.ret [(false,[.s .own () 1 (((aN x0).1).map etS)]),T3 true],T8 (((aN x0).1).length:Int),.b false,.lp .ret (et a b c d e k)] (AD (nH x0 l)<|ALn ((aN x0).1) etS<|AC n<|AL o<|AN))
   |x0 f g h i j =>have o:=m;exact TT (DP Tryz.f92 [.ret [(false,[.s .own () 1 (((aN x0).1).map etS)]),T3 true],T8 (((aN x0).1).length:Int),.b false,.lp (.exit 0) (oj ([]) ([]) ([]) ([]) ([]) f g h i j)] (AD (nH x0 l)<|ALn ((aN x0).1) etS<|AC n<|AL o<|AN))
 ·exact TT (DP Tryz.f92 [.ret [(false,[.s .own () 1 (((aN x0).1).map etS)]),T3 false]] (AD (nH x0 l)<|AN))
def noCron:GCron:=⟨[],[],[],[],[]⟩
noncomputable def wP (a b c d e:ByteArray):GCron×Bool :=cond (ah a 0 59).2 (cond (ah b 0 23).2 (cond (ah c 1 31).2 (cond (ah d 1 12).2 (cond (ah e 0 6).2 (⟨(ah a 0 59).1,(ah b 0 23).1,(ah c 1 31).1,(ah d 1 12).1,(ah e 0 6).1⟩,true) (noCron,false)) (noCron,false)) (noCron,false)) (noCron,false)) (noCron,false)
noncomputable def H6:List ByteArray→GCron×Bool|[a,b,c,d,e]=>wP a b c d e|_=>(noCron,false)
noncomputable def au (s:ByteArray):GCron×Bool:=H6 (aN s).1
theorem Dp {s:ByteArray}(h:(aN s).2=false):(aN s).1=[]:=by
 unfold aN at h ⊢;split
 ·rfl
 ·rename_i a;rw[Un a]at h;split
  ·rename_i b;rw[Ub b]at h;split
   ·rfl
   ·rename_i c;rw[Un c]at h;cases h
  ·rfl
theorem QT {α:Type}{l:List α}(h:l.length=5):∃a b c d e,l=[a,b,c,d,e]:=by
 match l,h with
 |[a,b,c,d,e],_=>exact⟨a,b,c,d,e,rfl⟩
theorem yT {l:List ByteArray}(h:l.length≠5):H6 l=(noCron,false):=by
 unfold H6;split
 ·exact absurd rfl h
 ·rfl
theorem Sx (a b c d e:Bool)(n:Nat):iV [a,b,c,d,e] (n+6) 0=some (cond a (cond b (cond c (cond d (cond e .x0 (.ret [] [] [] [] [] false)) (.ret [] [] [] [] [] false)) (.ret [] [] [] [] [] false)) (.ret [] [] [] [] [] false)) (.ret [] [] [] [] [] false)):=by cases a<;>cases b<;>cases c<;>cases d<;>cases e<;>rfl
theorem RU (s:ByteArray):nX s=some (au s):=by
 unfold nX au;cases q:(aN s).2 with
 |false =>rw[Dp q];rfl
 |true =>
  rw[Uo];by_cases h:(aN s).1.length=5
  ·obtain⟨a,b,c,d,e,i⟩:=QT h;have f:∀p∈[a,b,c,d,e],p.size≤2000000:=fun p j=>by rw[←i]at j;have:=vv j;omega
   have k:(a.size≤2000000)=True:=Wk (f a (by simp));have hb:(b.size≤2000000)=True:=Wk (f b (by simp));have hc:(c.size≤2000000)=True:=Wk (f c (by simp));have hd:(d.size≤2000000)=True:=Wk (f d (by simp));have l:(e.size≤2000000)=True:=Wk (f e (by simp));have g:((([a,b,c,d,e]:List ByteArray).length:Int) != 5)=false:=rfl;rw[i,g,Uu,Ub (by decide)];have m:ak [a,b,c,d,e] (0:Int)=some a:=rfl;have g1:ak [a,b,c,d,e] (1:Int)=some b:=rfl;have n:ak [a,b,c,d,e] (2:Int)=some c:=rfl;have g3:ak [a,b,c,d,e] (3:Int)=some d:=rfl;have g4:ak [a,b,c,d,e] (4:Int)=some e:=rfl;have o:((0:Int)≤0∧(0:Int)≤59∧(59:Int)≤59)=True:=Wk (by decide);have r:((0:Int)≤0∧(0:Int)≤23∧(23:Int)≤59)=True:=Wk (by decide);have t:((0:Int)≤1∧(1:Int)≤31∧(31:Int)≤59)=True:=Wk (by decide);have u:((0:Int)≤1∧(1:Int)≤12∧(12:Int)≤59)=True:=Wk (by decide);have v:((0:Int)≤0∧(0:Int)≤6∧(6:Int)≤59)=True:=Wk (by decide);simp only[m,g1,n,g3,g4,Ua,k,hb,hc,hd,l,o,r,t,u,v,UP];show(iV [(ah a 0 59).2,(ah b 0 23).2,(ah c 1 31).2,(ah d 1 12).2,(ah e 0 6).2] (9223372036854775802+6) 0).bind _=some (wP a b c d e);rw[Sx];unfold wP;cases(ah a 0 59).2<;>cases(ah b 0 23).2<;>cases(ah c 1 31).2<;>cases(ah d 1 12).2<;>cases(ah e 0 6).2<;>rfl
  ·have g:(((aN s).1.length:Int) != 5)=true:=by rw[Xi];omega
   rw[g,Uo,yT h];rfl
theorem RT (s:ByteArray):nM s=some (au s):=by
 unfold nM au;cases q:(aN s).2 with
 |false =>rw[Dp q];rfl
 |true =>
  rw[Uo];by_cases h:(aN s).1.length=5
  ·obtain⟨a,b,c,d,e,i⟩:=QT h;have f:∀p∈[a,b,c,d,e],p.size≤2000000:=fun p j=>by rw[←i]at j;have:=vv j;omega
   have g:((([a,b,c,d,e]:List ByteArray).length:Int) != 5)=false:=rfl;rw[i,g,Uu];have k:∀n v0 v1 v2 v3 v4,aQ [a,b,c,d,e] (n+1) v0 v1 v2 v3 v4 0=cond (ah a 0 59).2 (aQ [a,b,c,d,e] n (ah a 0 59).1 v1 v2 v3 v4 1) (some (.ret [] [] [] [] [] false)):=fun n v0 v1 v2 v3 v4=>by
    conv=>lhs;unfold aQ
    show(if a.size≤2000000 then _ else none)=_;rw[Ub (f a (by simp))];rfl
   have l:∀n v0 v1 v2 v3 v4,aQ [a,b,c,d,e] (n+1) v0 v1 v2 v3 v4 1=cond (ah b 0 23).2 (aQ [a,b,c,d,e] n v0 (ah b 0 23).1 v2 v3 v4 2) (some (.ret [] [] [] [] [] false)):=fun n v0 v1 v2 v3 v4=>by
    conv=>lhs;unfold aQ
    show(if b.size≤2000000 then _ else none)=_;rw[Ub (f b (by simp))];rfl
   have m:∀n v0 v1 v2 v3 v4,aQ [a,b,c,d,e] (n+1) v0 v1 v2 v3 v4 2=cond (ah c 1 31).2 (aQ [a,b,c,d,e] n v0 v1 (ah c 1 31).1 v3 v4 3) (some (.ret [] [] [] [] [] false)):=fun n v0 v1 v2 v3 v4=>by
    conv=>lhs;unfold aQ
    show(if c.size≤2000000 then _ else none)=_;rw[Ub (f c (by simp))];rfl
   have o:∀n v0 v1 v2 v3 v4,aQ [a,b,c,d,e] (n+1) v0 v1 v2 v3 v4 3=cond (ah d 1 12).2 (aQ [a,b,c,d,e] n v0 v1 v2 (ah d 1 12).1 v4 4) (some (.ret [] [] [] [] [] false)):=fun n v0 v1 v2 v3 v4=>by
    conv=>lhs;unfold aQ
    show(if d.size≤2000000 then _ else none)=_;rw[Ub (f d (by simp))];rfl
   have r:∀n v0 v1 v2 v3 v4,aQ [a,b,c,d,e] (n+1) v0 v1 v2 v3 v4 4=cond (ah e 0 6).2 (aQ [a,b,c,d,e] n v0 v1 v2 v3 (ah e 0 6).1 5) (some (.ret [] [] [] [] [] false)):=fun n v0 v1 v2 v3 v4=>by
    conv=>lhs;unfold aQ
    show(if(4:Int)=4 then(if e.size≤2000000 then _ else none)else none)=_;rw[Ub rfl,Ub (f e (by simp))];rfl
   have t:∀n v0 v1 v2 v3 v4,aQ [a,b,c,d,e] (n+1) v0 v1 v2 v3 v4 5=some (.x0 v0 v1 v2 v3 v4):=fun n v0 v1 v2 v3 v4=>rfl
   have st:aQ [a,b,c,d,e] (9223372036854775802+6) [] [] [] [] [] 0=_:=k _ _ _ _ _ _;rw[l,m,o,r,t]at st;refine(Uz (Option.bind · _) st).trans ?_;show _=some (wP a b c d e);unfold wP;cases(ah a 0 59).2<;>cases(ah b 0 23).2<;>cases(ah c 1 31).2<;>cases(ah d 1 12).2<;>cases(ah e 0 6).2<;>rfl
  ·have g:(((aN s).1.length:Int) != 5)=true:=by rw[Xi];omega
   rw[g,Uo,yT h];rfl
theorem vZ {lo hi:Int}{s:ByteArray}(hs:s.size≤2000000)(hb:0≤lo∧lo≤hi∧hi≤59):ac.sm (ah s lo hi).1:=by
 rcases(BT s lo hi hs hb).2.1 with h|h
 ·rw[h.2];exact⟨by decide,fun y a=>by cases a⟩
 ·exact⟨by have:=h.2.2.2.2;omega,fun y a=>trivial⟩
theorem F7:ac.sm noCron:=⟨⟨by decide,fun y a=>by cases a⟩,⟨by decide,fun y a=>by cases a⟩,⟨by decide,fun y a=>by cases a⟩,⟨by decide,fun y a=>by cases a⟩,⟨by decide,fun y a=>by cases a⟩⟩
theorem Jw (s:ByteArray):ac.sm (au s).1:=by
 unfold au;by_cases h:(aN s).1.length=5
 ·obtain⟨a,b,c,d,e,g⟩:=QT h;have f:∀p∈[a,b,c,d,e],p.size≤2000000:=fun p i=>by rw[←g]at i;have:=vv i;omega
  rw[g];show ac.sm (wP a b c d e).1;unfold wP;have:=vZ (lo:=0) (hi:=59) (f a (by simp)) (by decide);have:=vZ (lo:=0) (hi:=23) (f b (by simp)) (by decide);have:=vZ (lo:=1) (hi:=31) (f c (by simp)) (by decide);have:=vZ (lo:=1) (hi:=12) (f d (by simp)) (by decide);have:=vZ (lo:=0) (hi:=6) (f e (by simp)) (by decide);cases(ah a 0 59).2<;>cases(ah b 0 23).2<;>cases(ah c 1 31).2<;>cases(ah d 1 12).2<;>cases(ah e 0 6).2<;>first|exact F7|exact⟨by assumption,by assumption,by assumption,by assumption,by assumption⟩
 ·rw[yT h];exact F7
theorem rJ (x0:ByteArray):Does E 56 [T7 x0] [(true,GCron.t .own ((au x0).1)),T3 ((au x0).2)]:=by exact G5 x0 _ (RU x0)
theorem fm (x0:ByteArray){b:Bool}(a:(au x0).2=b):Does E 56 [T7 x0] [(true,GCron.t .own ((au x0).1)),T3 b]:=by rw[←a];exact rJ x0
theorem Gg (x0:ByteArray):Does E 92 [T7 x0] [(true,GCron.t .own ((au x0).1)),T3 ((au x0).2)]:=by exact Gz x0 _ (RT x0)
theorem un (x0:ByteArray){b:Bool}(a:(au x0).2=b):Does E 92 [T7 x0] [(true,GCron.t .own ((au x0).1)),T3 b]:=by rw[←a];exact Gg x0
inductive Dz where|ret (v4:Bool)|x0
def mR (v0:List Int)(v1 v5:Int):US:=stL 18 [(0,.one (.s .far () 1 (v0.map etI))),(1,T5 v1),(5,T5 v5)]
def sq (a:Bool):US:=stL 18 [(4,T6 a)]
def ua  : US:=stL 18 []
abbrev xA:US→Exit→US→Prop:=Round E 39 (am Tryz.f39 0)
def Ok (v0:List Int)(v1 v5:Int):Dz→Prop| .ret a=>Loops E 39 (am Tryz.f39 0) (mR v0 v1 v5) .ret (sq a)| .x0=>Loops E 39 (am Tryz.f39 0) (mR v0 v1 v5) (.exit 0) (ua)
noncomputable def kV (v1:Int):List Int→Nat→Option Dz|[],i=>some (.x0)|hd::rest,i=>cond (hd==v1) (some (.ret true)) (kV v1 rest (i+1))
theorem Oj (v0:List Int)(v1:Int)(rest:List Int):∀(i:Nat) ,(v0).drop i=rest→v0.length≤9223372036854775807→Ans (kV v1 rest i) (Ok v0 v1 (i:Int)):=by
 induction rest with
 |nil =>intro i a b;have hb:=aI a;unfold kV;exact TT (TV (show xA (mR v0 v1 (i:Int)) (.exit 0) (ua)from RP [T8 (v0.length:Int),.b false] (ALn v0 etI<|AC hb<|AN)) (by intro h;cases h))
 |cons hd rest f =>
  intro i a b;have hb:=aC a;have g:=aD a b;have c:=aq a;have d:=aB a;unfold kV;apply TW<;>intro e
  ·exact TT (TV (show xA (mR v0 v1 (i:Int)) .ret (sq true)from RP [T8 (v0.length:Int),.b true,.row (etI hd),.b true] (ALn v0 etI<|AC hb<|AR etI d<|AC e<|AN)) (by intro h;cases h))
  ·exact(f (i+1) c b).mono fun y j=>by have r:xA (mR v0 v1 (i:Int)) .normal (mR v0 v1 (inc (i:Int))):=RP [T8 (v0.length:Int),.b true,.row (etI hd),.b false] (ALn v0 etI<|AC hb<|AR etI d<|AC e<|AN);rw[g]at r;cases y<;>exact TU r j
noncomputable def Ab (x0:List Int)(b:Int):Option (Bool):=
  if x0.length≤9223372036854775807 then(kV b x0 0).bind fun y=>match y with
   | .ret a=>(some (a))
   | .x0=>(some (false))else none
theorem P4 (x0:List Int)(c:Int):Ans (Ab x0 c) (fun r=>Does E 39 [.one (.s .far () 1 (x0.map etI)),T5 c] [T3 r]):=by
 unfold Ab;refine TY (fun d => ?_);refine TX (fun y b => ?_);replace b:=Oj x0 c x0 0 rfl d y b;cases y with
 |ret a =>have e:=b;exact TT (DP Tryz.f39 [.lp .ret (sq a)] (AL e<|AN))
 |x0 =>have e:=b;exact TT (DP Tryz.f39 [.lp (.exit 0) (ua)] (AL e<|AN))
def ce (l:List Int)(x:Int):Bool:=l.any fun y=>y==x
theorem Pu (x:Int):∀(rest:List Int)(i:Nat),kV x rest i=some (if ce rest x=true then .ret true else .x0)
 |[],i=>rfl
 |y::rest,i=>by unfold kV;rw[Pu x rest (i+1)];unfold ce;rw[Xj];cases y==x<;>rfl
theorem oA (x0:List Int)(a:Int)(h:x0.length≤1050000):Does E 39 [.one (.s .far () 1 (x0.map etI)),T5 a] [T3 (ce x0 a)]:=by exact P4 x0 a _ (by unfold Ab;rw[Ub (by omega),Pu];cases q:ce x0 a<;>rfl)
inductive qe where|ret (v4:Int)|x0
def eF (v0:List Int)(v1 v7 v8:Int):US:=stL 19 [(0,.one (.s .far () 1 (v0.map etI))),(1,T5 v1),(7,T5 v7),(8,T5 v8)]
def jY (a:Int):US:=stL 19 [(4,T5 a)]
def kw  : US:=stL 19 []
abbrev lD:US→Exit→US→Prop:=Round E 78 (am Tryz.f78 0)
def yC (v0:List Int)(v1 v7 v8:Int):qe→Prop| .ret a=>Loops E 78 (am Tryz.f78 0) (eF v0 v1 v7 v8) .ret (jY a)| .x0=>Loops E 78 (am Tryz.f78 0) (eF v0 v1 v7 v8) (.exit 0) (kw)
noncomputable def cR (v1:Int):List Int→Nat→Option qe|[],i=>some (.x0)|hd::rest,i=>cond (v1==hd) (some (.ret (i:Int))) (cR v1 rest (i+1))
theorem yB (v0:List Int)(v1:Int)(rest:List Int):∀(i:Nat) ,(v0).drop i=rest→v0.length≤9223372036854775807→Ans (cR v1 rest i) (yC v0 v1 (v0.length:Int) (i:Int)):=by
 induction rest with
 |nil =>intro i a b;have hb:=aI a;unfold cR;exact TT (TV (show lD (eF v0 v1 (v0.length:Int) (i:Int)) (.exit 0) (kw)from RP [.b false] (AC hb<|AN)) (by intro h;cases h))
 |cons hd rest f =>
  intro i a b;have hb:=aC a;have g:=aD a b;have c:=aq a;have d:=aB a;unfold cR;apply TW<;>intro e
  ·exact TT (TV (show lD (eF v0 v1 (v0.length:Int) (i:Int)) .ret (jY (i:Int))from RP [.b true,.row (etI hd),.b true] (AC hb<|AR etI d<|AC e<|AN)) (by intro h;cases h))
  ·exact(f (i+1) c b).mono fun y j=>by have r:lD (eF v0 v1 (v0.length:Int) (i:Int)) .normal (eF v0 v1 (v0.length:Int) (inc (i:Int))):=RP [.b true,.row (etI hd),.b false] (AC hb<|AR etI d<|AC e<|AN);rw[g]at r;cases y<;>exact TU r j
noncomputable def fe (x0:List Int)(b:Int):Option (Int):=
  if x0.length≤9223372036854775807 then(cR b x0 0).bind fun y=>match y with
   | .ret a=>(some (a))
   | .x0=>(some ((-1:Int)))else none
theorem Ai (x0:List Int)(c:Int):Ans (fe x0 c) (fun r=>Does E 78 [.one (.s .far () 1 (x0.map etI)),T5 c] [T2 r]):=by
 unfold fe;refine TY (fun d => ?_);refine TX (fun y b => ?_);replace b:=yB x0 c x0 0 rfl d y b;cases y with
 |ret a =>have e:=b;exact TT (DP Tryz.f78 [T8 (x0.length:Int),.lp .ret (jY a)] (ALn x0 etI<|AL e<|AN))
 |x0 =>have e:=b;exact TT (DP Tryz.f78 [T8 (x0.length:Int),.lp (.exit 0) (kw)] (ALn x0 etI<|AL e<|AN))
noncomputable def B1 (l:List Int)(x:Int):Int:=(fe l x).getD (-1)
theorem Rp (x:Int):∀(rest:List Int)(i:Nat),(∃k:Nat,cR x rest i=some (.ret (k:Int))∧ce rest x=true)∨cR x rest i=some .x0∧ce rest x=false
 |[],i => .inr ⟨rfl,rfl⟩
 |y::rest,i=>by
  have e:(x==y)=(y==x):=by cases q:y==x with|true=>rw[eq_of_beq q];simp|false=>exact Va.2 fun e=>by rw[e]at q;simp at q
  unfold cR ce;rw[Xj,e];cases y==x with
  |true=>exact .inl ⟨i,rfl,rfl⟩
  |false=>exact Rp x rest (i+1)
theorem Pq (l:List Int)(x:Int)(h:l.length≤1050000):fe l x=some (B1 l x)∧decide (B1 l x≥(0:Int))=ce l x:=by
 have e:∃r,fe l x=some r∧decide (r≥(0:Int))=ce l x:=by
  unfold fe;rw[Ub (by omega)];rcases Rp x l 0 with⟨k,a,b⟩|⟨a,b⟩
  ·exact⟨(k:Int),by rw[a];rfl,by rw[b];exact Uj (by omega)⟩
  ·exact⟨-1,by rw[a];rfl,by rw[b];rfl⟩
 obtain⟨r,a,b⟩:=e;have p:B1 l x=r:=by unfold B1;rw[a];rfl
 rw[p];exact⟨a,b⟩
theorem yL (x0:List Int)(a:Int)(h:x0.length≤1050000):Does E 78 [.one (.s .far () 1 (x0.map etI)),T5 a] [T2 (B1 x0 a)]:=by exact Ai x0 a _ (Pq x0 a h).1
noncomputable def kv (x0:List Int)(a:Int):Option (Bool):=if x0.length≤1050000 then some (decide ((B1 x0 a)≥(0:Int)))else none
theorem wx (x0:List Int)(a:Int):Ans (kv x0 a) (fun r=>Does E 50 [.one (.s .far () 1 (x0.map etI)),T5 a] [T3 r]):=by unfold kv;refine TY (fun b => ?_);exact TT (DP Tryz.f50 [.ret [T2 (B1 x0 a)]] (AD (yL x0 a b)<|AN))
theorem dL (x0:List Int)(a:Int)(h:x0.length≤1050000):Does E 50 [.one (.s .far () 1 (x0.map etI)),T5 a] [T3 (ce x0 a)]:=by
 exact wx x0 a _ (by
  unfold kv;try rw[Ub h]
  rw[(Pq x0 a h).2])
inductive Ac where|ret (v6:Bool)|x0
def fE (v0:List Int)(v1 v2 v7:Int):US:=stL 41 [(0,.one (.s .far () 1 (v0.map etI))),(1,T5 v1),(2,T5 v2),(7,T5 v7)]
def lO (a:Bool):US:=stL 41 [(6,T6 a)]
def qM (v0:List Int):US:=stL 41 [(0,.one (.s .far () 1 (v0.map etI)))]
abbrev mh:US→Exit→US→Prop:=Round E 108 (am Tryz.f108 0)
def JZ (v0:List Int)(v1 v2 v7:Int):Ac→Prop| .ret a=>Loops E 108 (am Tryz.f108 0) (fE v0 v1 v2 v7) .ret (lO a)| .x0=>Loops E 108 (am Tryz.f108 0) (fE v0 v1 v2 v7) (.exit 0) (qM v0)
noncomputable def gL (v0:List Int)(v1 v2:Int):List Int→Nat→Option Ac|[],i=>some (.x0)|hd::rest,i=>cond (ae hd v1 v2) (cond (decide ((i:Int)>(0:Int))) ((ak v0 (IntKind.wrap .i64 ((i:Int)-(1:Int)))).bind fun g1=>cond (decide (g1≥hd)) (some (.ret false)) (gL v0 v1 v2 rest (i+1))) (gL v0 v1 v2 rest (i+1))) (some (.ret false))
theorem JY (v0:List Int)(v1 v2:Int)(rest:List Int):∀(i:Nat) ,(v0).drop i=rest→v0.length≤9223372036854775807→Ans (gL v0 v1 v2 rest i) (JZ v0 v1 v2 (i:Int)):=by
 induction rest with
 |nil =>intro i a d;have hb:=aI a;unfold gL;exact TT (TV (show mh (fE v0 v1 v2 (i:Int)) (.exit 0) (qM v0)from RP [T8 (v0.length:Int),.b false] (ALn v0 etI<|AC hb<|AN)) (by intro h;cases h))
 |cons hd rest j =>
  intro i a d;have hb:=aC a;have k:=aD a d;have c:=aq a;have b:=aB a;unfold gL;apply TW<;>intro e
  ·apply TW<;>intro f
   ·refine TX (fun g1 l => ?_);apply TW<;>intro m
    ·exact TT (TV (show mh (fE v0 v1 v2 (i:Int)) .ret (lO false)from RP [T8 (v0.length:Int),.b true,.row (etI hd),rT,.b true,.row (etI g1),.row (etI hd),.b true] (ALn v0 etI<|AC hb<|AR etI b<|AD (T1 (ag hd v1 v2) e)<|AC f<|AR etI l<|AR etI b<|AC m<|AN)) (by intro h;cases h))
    ·exact(j (i+1) c d).mono fun y g=>by have r:mh (fE v0 v1 v2 (i:Int)) .normal (fE v0 v1 v2 (inc (i:Int))):=RP [T8 (v0.length:Int),.b true,.row (etI hd),rT,.b true,.row (etI g1),.row (etI hd),.b false] (ALn v0 etI<|AC hb<|AR etI b<|AD (T1 (ag hd v1 v2) e)<|AC f<|AR etI l<|AR etI b<|AC m<|AN);rw[k]at r;cases y<;>exact TU r g
   ·exact(j (i+1) c d).mono fun y g=>by have r:mh (fE v0 v1 v2 (i:Int)) .normal (fE v0 v1 v2 (inc (i:Int))):=RP [T8 (v0.length:Int),.b true,.row (etI hd),rT,.b false] (ALn v0 etI<|AC hb<|AR etI b<|AD (T1 (ag hd v1 v2) e)<|AC f<|AN);rw[k]at r;cases y<;>exact TU r g
  ·exact TT (TV (show mh (fE v0 v1 v2 (i:Int)) .ret (lO false)from RP [T8 (v0.length:Int),.b true,.row (etI hd),rF] (ALn v0 etI<|AC hb<|AR etI b<|AD (T1 (ag hd v1 v2) e)<|AN)) (by intro h;cases h))
noncomputable def vC (x0:List Int)(b x2:Int):Option (Bool):=
  if x0.length≤9223372036854775807 then(gL x0 b x2 x0 0).bind fun y=>match y with
   | .ret a=>(some (a))
   | .x0=>(some (decide ((x0.length:Int)>(0:Int))))else none
theorem LX (x0:List Int)(c x2:Int):Ans (vC x0 c x2) (fun r=>Does E 108 [.one (.s .far () 1 (x0.map etI)),T5 c,T5 x2] [T3 r]):=by
 unfold vC;refine TY (fun d => ?_);refine TX (fun y b => ?_);replace b:=JY x0 c x2 x0 0 rfl d y b;cases y with
 |ret a =>have e:=b;exact TT (DP Tryz.f108 [.lp .ret (lO a)] (AL e<|AN))
 |x0 =>have e:=b;exact TT (DP Tryz.f108 [.lp (.exit 0) (qM x0),T8 (x0.length:Int)] (AL e<|ALn x0 etI<|AN))
def k9 (a b:Int):List Int→Option Int→Bool
 |[],_=>true
 |x::l,p=>ae x a b&&(match p with|some y=>decide (y<x)|none=>true)&&k9 a b l (some x)
def bc (l:List Int)(a b:Int):Bool:=k9 a b l none&&decide ((l.length:Int)>0)
theorem MA {ay rest:List Int}{x:Int}{i:Nat}(h:ay.drop i=x::rest):i=0∨∃y,ay[i-1]?=some y:=by
 cases i with
 |zero=>exact .inl rfl
 |succ i =>
  right;have:i<ay.length:=by
   rcases Ul i ay.length with g|g
   ·exact g
   ·rw[U0 (by omega)]at h;cases h
  exact⟨ay[i],by simp[this]⟩
def jN (ay:List Int)(i:Nat):Option Int:=if i=0 then none else ay[i-1]?
theorem F2 {ay rest:List Int}{x:Int}{i:Nat}(h:ay.drop i=x::rest):jN ay (i+1)=some x:=by unfold jN;rw[Un (by omega)];show ay[i]?=some x;rw[←Wz,h];rfl
theorem PD (ay:List Int)(a b:Int)(k:ay.length≤1050000):∀(rest:List Int)(i:Nat),ay.drop i=rest→gL ay a b rest i=some (if k9 a b rest (jN ay i)=true then .x0 else .ret false)
 |[],i,_=>rfl
 |x::rest,i,h=>by
  have f:=PD ay a b k rest (i+1) (aq h);rw[F2 h]at f;have hi:i<ay.length:=by
   rcases Ul i ay.length with g|g
   ·exact g
   ·rw[U0 g]at h;cases h
  unfold gL k9;rw[f];cases ae x a b with
  |false=>rfl
  |true =>
   rw[Uo,UJ];rcases MA h with rfl|⟨y,j⟩
   ·simp[jN]
   ·by_cases z:i=0
    ·subst z;simp[jN]
    ·have l:jN ay i=some y:=by unfold jN;rw[Un z,j]
     have m:ak ay (IntKind.wrap .i64 ((i:Int)-1))=some y:=by
      rw[em _ (by omega) (by omega)];have e:((i:Int)-1)=((i-1:Nat):Int):=by omega
      rw[e,ct,j]
     rw[l,m,Uj (by omega:(i:Int)>0),Uo,Ua];simp only;by_cases c:y≥x
     ·have d:¬y<x:=by omega
      rw[Uj c,Uo];simp[d]
     ·have d:y<x:=by omega
      rw[Uk c,Uu];simp[d]
theorem cE (x0:List Int)(a:Int)(x2:Int)(h:x0.length≤1050000):Does E 108 [.one (.s .far () 1 (x0.map etI)),T5 a,T5 x2] [T3 (bc x0 a x2)]:=by exact LX x0 a x2 _ (by unfold vC;rw[Ub (by omega),PD x0 a x2 h x0 0 rfl];unfold bc jN;rw[Ub rfl];cases k9 a x2 x0 none<;>rfl)
noncomputable def xy (x0:GCron):Option (Bool):=if x0.f0.length≤1050000 then cond (bc x0.f0 0 59) (if x0.f1.length≤1050000 then cond (bc x0.f1 0 23) (if x0.f2.length≤1050000 then cond (bc x0.f2 1 31) (if x0.f3.length≤1050000 then cond (bc x0.f3 1 12) (if x0.f4.length≤1050000 then some (bc x0.f4 0 6)else none) (some (false))else none) (some (false))else none) (some (false))else none) (some (false))else none
theorem Od (x0:GCron):Ans (xy x0) (fun r=>Does E 85 [.agg (GCron.t .far x0)] [T3 r]):=by
 unfold xy;refine TY (fun a => ?_);apply TW<;>intro b
 ·refine TY (fun c => ?_);apply TW<;>intro d
  ·refine TY (fun e => ?_);apply TW<;>intro f
   ·refine TY (fun g => ?_);apply TW<;>intro h
    ·refine TY (fun i => ?_);exact TT (DP Tryz.f85 [rT,rT,rT,rT,.ret [T3 (bc x0.f4 0 6)]] (AD (T1 (cE x0.f0 0 59 a) b)<|AD (T1 (cE x0.f1 0 23 c) d)<|AD (T1 (cE x0.f2 1 31 e) f)<|AD (T1 (cE x0.f3 1 12 g) h)<|AD (cE x0.f4 0 6 i)<|AN))
    ·exact TT (DP Tryz.f85 [rT,rT,rT,rF] (AD (T1 (cE x0.f0 0 59 a) b)<|AD (T1 (cE x0.f1 0 23 c) d)<|AD (T1 (cE x0.f2 1 31 e) f)<|AD (T1 (cE x0.f3 1 12 g) h)<|AN))
   ·exact TT (DP Tryz.f85 [rT,rT,rF] (AD (T1 (cE x0.f0 0 59 a) b)<|AD (T1 (cE x0.f1 0 23 c) d)<|AD (T1 (cE x0.f2 1 31 e) f)<|AN))
  ·exact TT (DP Tryz.f85 [rT,rF] (AD (T1 (cE x0.f0 0 59 a) b)<|AD (T1 (cE x0.f1 0 23 c) d)<|AN))
 ·exact TT (DP Tryz.f85 [rF] (AD (T1 (cE x0.f0 0 59 a) b)<|AN))
def jE (c:GCron):Bool:=bc c.f0 0 59&&(bc c.f1 0 23&&(bc c.f2 1 31&&(bc c.f3 1 12&&bc c.f4 0 6)))
theorem Cz (x0:GCron)(h:ac.sm x0):Does E 85 [.agg (GCron.t .far x0)] [T3 (jE x0)]:=by exact Od x0 _ (by have a:=h.1.1;have b:=h.2.1.1;have c:=h.2.2.1.1;have d:=h.2.2.2.1.1;have e:=h.2.2.2.2.1;unfold xy jE;simp only[a,b,c,d,e,UP];cases bc x0.f0 0 59<;>cases bc x0.f1 0 23<;>cases bc x0.f2 1 31<;>cases bc x0.f3 1 12<;>rfl)
inductive A7 where|ret (v2:Bool)|x2
def gm (a b c d e:List Int)(v5 v6:Int)(v7:List Int)(v11:Int)(f:List Int)(v24 g:Int):US:=stL 53 [(1,.box () [.s .far () 1 (a.map etI),.s .far () 1 (b.map etI),.s .far () 1 (c.map etI),.s .far () 1 (d.map etI),.s .far () 1 (e.map etI)]),(5,T5 v5),(6,T5 v6),(7,.one (.s .far () 1 (v7.map etI))),(10,.clo (.arr [0,1,2,3,4]) [1,1,1,1,1]),(11,T5 v11),(23,.one (.s .far () 1 (f.map etI))),(24,T5 v24),(25,T5 g)]
def fb (a:Bool):US:=stL 53 [(2,T6 a)]
def cS (a b c d e v7:List Int)(v11:Int):US:=stL 53 [(1,.box () [.s .far () 1 (a.map etI),.s .far () 1 (b.map etI),.s .far () 1 (c.map etI),.s .far () 1 (d.map etI),.s .far () 1 (e.map etI)]),(7,.one (.s .far () 1 (v7.map etI))),(10,.clo (.arr [0,1,2,3,4]) [1,1,1,1,1]),(11,T5 v11)]
abbrev nw:US→Exit→US→Prop:=Round E 114 (am Tryz.f114 1)
def K0 (a b c d e:List Int)(v5 v6:Int)(v7:List Int)(v11:Int)(f:List Int)(v24 g:Int):A7→Prop| .ret h=>Loops E 114 (am Tryz.f114 1) (gm a b c d e v5 v6 v7 v11 f v24 g) .ret (fb h)| .x2=>Loops E 114 (am Tryz.f114 1) (gm a b c d e v5 v6 v7 v11 f v24 g) (.exit 2) (cS a b c d e v7 v11)
noncomputable def du (v5 v6:Int)(v7:List Int):List Int→Nat→Option A7|[],i=>some (.x2)|hd::rest,i=>cond (ae hd v5 v6) (cond (decide ((i:Int)>(0:Int))) ((ak v7 (IntKind.wrap .i64 ((i:Int)-(1:Int)))).bind fun g1=>cond (decide (hd≤g1)) (some (.ret false)) (du v5 v6 v7 rest (i+1))) (du v5 v6 v7 rest (i+1))) (some (.ret false))
theorem ny (b c d e f:List Int)(v5 v6:Int)(v7:List Int)(v11:Int)(a:List Int)(rest:List Int):∀(i:Nat) ,(a).drop i=rest→a.length≤9223372036854775807→Ans (du v5 v6 v7 rest i) (K0 b c d e f v5 v6 v7 v11 a (a.length:Int) (i:Int)):=by
 induction rest with
 |nil =>intro i g k;have hb:=aI g;unfold du;exact TT (TV (show nw (gm b c d e f v5 v6 v7 v11 a (a.length:Int) (i:Int)) (.exit 2) (cS b c d e f v7 v11)from RP [.b false] (AC hb<|AN)) (by intro h;cases h))
 |cons hd rest p =>
  intro i g k;have hb:=aC g;have q:=aD g k;have j:=aq g;have l:=aB g;unfold du;apply TW<;>intro m
  ·apply TW<;>intro n
   ·refine TX (fun g1 s => ?_);apply TW<;>intro t
    ·exact TT (TV (show nw (gm b c d e f v5 v6 v7 v11 a (a.length:Int) (i:Int)) .ret (fb false)from RP [.b true,.row (etI hd),rT,.b true,.row (etI g1),.b true] (AC hb<|AR etI l<|AD (T1 (an hd v5 v6) m)<|AC n<|AR etI s<|AC t<|AN)) (by intro h;cases h))
    ·exact(p (i+1) j k).mono fun y o=>by have r:nw (gm b c d e f v5 v6 v7 v11 a (a.length:Int) (i:Int)) .normal (gm b c d e f v5 v6 v7 v11 a (a.length:Int) (inc (i:Int))):=RP [.b true,.row (etI hd),rT,.b true,.row (etI g1),.b false] (AC hb<|AR etI l<|AD (T1 (an hd v5 v6) m)<|AC n<|AR etI s<|AC t<|AN);rw[q]at r;cases y<;>exact TU r o
   ·exact(p (i+1) j k).mono fun y o=>by have r:nw (gm b c d e f v5 v6 v7 v11 a (a.length:Int) (i:Int)) .normal (gm b c d e f v5 v6 v7 v11 a (a.length:Int) (inc (i:Int))):=RP [.b true,.row (etI hd),rT,.b false] (AC hb<|AR etI l<|AD (T1 (an hd v5 v6) m)<|AC n<|AN);rw[q]at r;cases y<;>exact TU r o
  ·exact TT (TV (show nw (gm b c d e f v5 v6 v7 v11 a (a.length:Int) (i:Int)) .ret (fb false)from RP [.b true,.row (etI hd),rF] (AC hb<|AR etI l<|AD (T1 (an hd v5 v6) m)<|AN)) (by intro h;cases h))
inductive vd where|ret (v2:Bool)|x0
def bA (a b c d e:List Int)(v11:Int):US:=stL 53 [(1,.box () [.s .far () 1 (a.map etI),.s .far () 1 (b.map etI),.s .far () 1 (c.map etI),.s .far () 1 (d.map etI),.s .far () 1 (e.map etI)]),(10,.clo (.arr [0,1,2,3,4]) [1,1,1,1,1]),(11,T5 v11)]
def cw (a:Bool):US:=stL 53 [(2,T6 a)]
def rM  : US:=stL 53 []
abbrev cq:US→Exit→US→Prop:=Round E 114 (am Tryz.f114 0)
def KZ (a b c d e:List Int)(v11:Int):vd→Prop| .ret f=>Loops E 114 (am Tryz.f114 0) (bA a b c d e v11) .ret (cw f)| .x0=>Loops E 114 (am Tryz.f114 0) (bA a b c d e v11) (.exit 0) (rM)
noncomputable def bN (a b c d e:List Int):Nat→Int→Option vd
 | 0,_=>none
 |n+1,v11=>cond (decide (v11<(5:Int)))
  (cond (v11==(0:Int))
   (if a.length≤9223372036854775807 then(du ((aK v11).1) ((aK v11).2) a a 0).bind fun y=>match y with
    | .ret f=>(some (.ret f))
    | .x2=>(cond ((a.length:Int)==(0:Int))
     (some (.ret false))
     (bN a b c d e n (inc v11)))else none)
   (cond (v11==(1:Int))
    (if b.length≤9223372036854775807 then(du ((aK v11).1) ((aK v11).2) b b 0).bind fun y=>match y with
     | .ret f=>(some (.ret f))
     | .x2=>(cond ((b.length:Int)==(0:Int))
      (some (.ret false))
      (bN a b c d e n (inc v11)))else none)
    (cond (v11==(2:Int))
     (if c.length≤9223372036854775807 then(du ((aK v11).1) ((aK v11).2) c c 0).bind fun y=>match y with
      | .ret f=>(some (.ret f))
      | .x2=>(cond ((c.length:Int)==(0:Int))
       (some (.ret false))
       (bN a b c d e n (inc v11)))else none)
     (cond (v11==(3:Int))
      (if d.length≤9223372036854775807 then(du ((aK v11).1) ((aK v11).2) d d 0).bind fun y=>match y with
       | .ret f=>(some (.ret f))
       | .x2=>(cond ((d.length:Int)==(0:Int))
        (some (.ret false))
        (bN a b c d e n (inc v11)))else none)
      (if v11=(4:Int)then if e.length≤9223372036854775807 then(du ((aK v11).1) ((aK v11).2) e e 0).bind fun y=>match y with
       | .ret f=>(some (.ret f))
       | .x2=>(cond ((e.length:Int)==(0:Int))
        (some (.ret false))
        (bN a b c d e n (inc v11)))else none else none)))))
  (some (.x0))
theorem KY (a b c d e:List Int)(n:Nat):∀(v11:Int),Ans (bN a b c d e n v11) (KZ a b c d e v11):=by
 induction n with
 |zero=>intros;exact Ans.none
 |succ n s =>
  intro v11;unfold bN;apply TW<;>intro i
  ·apply TW<;>intro t
   ·refine TY (fun u => ?_);refine TX (fun y g => ?_);replace g:=ny a b c d e ((aK v11).1) ((aK v11).2) a v11 a a 0 rfl u y g;cases y with
    |ret f =>have m:=g;exact TT (TV (show cq (bA a b c d e v11) .ret (cw f)from RP [.b true,T8 0,.ret [T2 ((aK v11).1),T2 ((aK v11).2)],T8 (a.length:Int),.lp .ret (fb f)] (AC i<|AC (p:=v11=(0:Int)) (eq_of_beq t)<|AD (co v11)<|ALn a etI<|AL m<|AN)) (by intro h;cases h))
    |x2 =>
     have m:=g;apply TW<;>intro j
     ·exact TT (TV (show cq (bA a b c d e v11) .ret (cw false)from RP [.b true,T8 0,.ret [T2 ((aK v11).1),T2 ((aK v11).2)],T8 (a.length:Int),.lp (.exit 2) (cS a b c d e a v11),T8 (a.length:Int),.b true] (AC i<|AC (p:=v11=(0:Int)) (eq_of_beq t)<|AD (co v11)<|ALn a etI<|AL m<|ALn a etI<|AC j<|AN)) (by intro h;cases h))
     ·have r:cq (bA a b c d e v11) .normal (bA a b c d e (inc v11)):=RP [.b true,T8 0,.ret [T2 ((aK v11).1),T2 ((aK v11).2)],T8 (a.length:Int),.lp (.exit 2) (cS a b c d e a v11),T8 (a.length:Int),.b false] (AC i<|AC (p:=v11=(0:Int)) (eq_of_beq t)<|AD (co v11)<|ALn a etI<|AL m<|ALn a etI<|AC j<|AN);exact(s (inc v11)).mono fun y g=>by cases y<;>exact TU r g
   ·apply TW<;>intro m
    ·refine TY (fun v => ?_);refine TX (fun y g => ?_);replace g:=ny a b c d e ((aK v11).1) ((aK v11).2) b v11 b b 0 rfl v y g;cases y with
     |ret f =>have j:=g;exact TT (TV (show cq (bA a b c d e v11) .ret (cw f)from RP [.b true,T8 1,.ret [T2 ((aK v11).1),T2 ((aK v11).2)],T8 (b.length:Int),.lp .ret (fb f)] (AC i<|AC (p:=v11=(1:Int)) (eq_of_beq m)<|AD (co v11)<|ALn b etI<|AL j<|AN)) (by intro h;cases h))
     |x2 =>
      have j:=g;apply TW<;>intro k
      ·exact TT (TV (show cq (bA a b c d e v11) .ret (cw false)from RP [.b true,T8 1,.ret [T2 ((aK v11).1),T2 ((aK v11).2)],T8 (b.length:Int),.lp (.exit 2) (cS a b c d e b v11),T8 (b.length:Int),.b true] (AC i<|AC (p:=v11=(1:Int)) (eq_of_beq m)<|AD (co v11)<|ALn b etI<|AL j<|ALn b etI<|AC k<|AN)) (by intro h;cases h))
      ·have r:cq (bA a b c d e v11) .normal (bA a b c d e (inc v11)):=RP [.b true,T8 1,.ret [T2 ((aK v11).1),T2 ((aK v11).2)],T8 (b.length:Int),.lp (.exit 2) (cS a b c d e b v11),T8 (b.length:Int),.b false] (AC i<|AC (p:=v11=(1:Int)) (eq_of_beq m)<|AD (co v11)<|ALn b etI<|AL j<|ALn b etI<|AC k<|AN);exact(s (inc v11)).mono fun y g=>by cases y<;>exact TU r g
    ·apply TW<;>intro j
     ·refine TY (fun w => ?_);refine TX (fun y g => ?_);replace g:=ny a b c d e ((aK v11).1) ((aK v11).2) c v11 c c 0 rfl w y g;cases y with
      |ret f =>have k:=g;exact TT (TV (show cq (bA a b c d e v11) .ret (cw f)from RP [.b true,T8 2,.ret [T2 ((aK v11).1),T2 ((aK v11).2)],T8 (c.length:Int),.lp .ret (fb f)] (AC i<|AC (p:=v11=(2:Int)) (eq_of_beq j)<|AD (co v11)<|ALn c etI<|AL k<|AN)) (by intro h;cases h))
      |x2 =>
       have k:=g;apply TW<;>intro l
       ·exact TT (TV (show cq (bA a b c d e v11) .ret (cw false)from RP [.b true,T8 2,.ret [T2 ((aK v11).1),T2 ((aK v11).2)],T8 (c.length:Int),.lp (.exit 2) (cS a b c d e c v11),T8 (c.length:Int),.b true] (AC i<|AC (p:=v11=(2:Int)) (eq_of_beq j)<|AD (co v11)<|ALn c etI<|AL k<|ALn c etI<|AC l<|AN)) (by intro h;cases h))
       ·have r:cq (bA a b c d e v11) .normal (bA a b c d e (inc v11)):=RP [.b true,T8 2,.ret [T2 ((aK v11).1),T2 ((aK v11).2)],T8 (c.length:Int),.lp (.exit 2) (cS a b c d e c v11),T8 (c.length:Int),.b false] (AC i<|AC (p:=v11=(2:Int)) (eq_of_beq j)<|AD (co v11)<|ALn c etI<|AL k<|ALn c etI<|AC l<|AN);exact(s (inc v11)).mono fun y g=>by cases y<;>exact TU r g
     ·apply TW<;>intro k
      ·refine TY (fun o => ?_);refine TX (fun y g => ?_);replace g:=ny a b c d e ((aK v11).1) ((aK v11).2) d v11 d d 0 rfl o y g;cases y with
       |ret f =>have l:=g;exact TT (TV (show cq (bA a b c d e v11) .ret (cw f)from RP [.b true,T8 3,.ret [T2 ((aK v11).1),T2 ((aK v11).2)],T8 (d.length:Int),.lp .ret (fb f)] (AC i<|AC (p:=v11=(3:Int)) (eq_of_beq k)<|AD (co v11)<|ALn d etI<|AL l<|AN)) (by intro h;cases h))
       |x2 =>
        have l:=g;apply TW<;>intro q
        ·exact TT (TV (show cq (bA a b c d e v11) .ret (cw false)from RP [.b true,T8 3,.ret [T2 ((aK v11).1),T2 ((aK v11).2)],T8 (d.length:Int),.lp (.exit 2) (cS a b c d e d v11),T8 (d.length:Int),.b true] (AC i<|AC (p:=v11=(3:Int)) (eq_of_beq k)<|AD (co v11)<|ALn d etI<|AL l<|ALn d etI<|AC q<|AN)) (by intro h;cases h))
        ·have r:cq (bA a b c d e v11) .normal (bA a b c d e (inc v11)):=RP [.b true,T8 3,.ret [T2 ((aK v11).1),T2 ((aK v11).2)],T8 (d.length:Int),.lp (.exit 2) (cS a b c d e d v11),T8 (d.length:Int),.b false] (AC i<|AC (p:=v11=(3:Int)) (eq_of_beq k)<|AD (co v11)<|ALn d etI<|AL l<|ALn d etI<|AC q<|AN);exact(s (inc v11)).mono fun y g=>by cases y<;>exact TU r g
      ·refine TY (fun l => ?_);refine TY (fun o => ?_);refine TX (fun y g => ?_);replace g:=ny a b c d e ((aK v11).1) ((aK v11).2) e v11 e e 0 rfl o y g;cases y with
       |ret f =>have q:=g;exact TT (TV (show cq (bA a b c d e v11) .ret (cw f)from RP [.b true,T8 4,.ret [T2 ((aK v11).1),T2 ((aK v11).2)],T8 (e.length:Int),.lp .ret (fb f)] (AC i<|AC l<|AD (co v11)<|ALn e etI<|AL q<|AN)) (by intro h;cases h))
       |x2 =>
        have q:=g;apply TW<;>intro x
        ·exact TT (TV (show cq (bA a b c d e v11) .ret (cw false)from RP [.b true,T8 4,.ret [T2 ((aK v11).1),T2 ((aK v11).2)],T8 (e.length:Int),.lp (.exit 2) (cS a b c d e e v11),T8 (e.length:Int),.b true] (AC i<|AC l<|AD (co v11)<|ALn e etI<|AL q<|ALn e etI<|AC x<|AN)) (by intro h;cases h))
        ·have r:cq (bA a b c d e v11) .normal (bA a b c d e (inc v11)):=RP [.b true,T8 4,.ret [T2 ((aK v11).1),T2 ((aK v11).2)],T8 (e.length:Int),.lp (.exit 2) (cS a b c d e e v11),T8 (e.length:Int),.b false] (AC i<|AC l<|AD (co v11)<|ALn e etI<|AL q<|ALn e etI<|AC x<|AN);exact(s (inc v11)).mono fun y g=>by cases y<;>exact TU r g
  ·exact TT (TV (show cq (bA a b c d e v11) (.exit 0) (rM)from RP [.b false] (AC i<|AN)) (by intro h;cases h))
noncomputable def sJ (x0:GCron):Option (Bool):=
  (bN x0.f0 x0.f1 x0.f2 x0.f3 x0.f4 9223372036854775808 0).bind fun y=>match y with
   | .ret a=>(some (a))
   | .x0=>(some (true))
theorem Nu (x0:GCron):Ans (sJ x0) (fun r=>Does E 114 [.agg (GCron.t .far x0)] [T3 r]):=by
 unfold sJ;refine TX (fun y b => ?_);replace b:=KY x0.f0 x0.f1 x0.f2 x0.f3 x0.f4 9223372036854775808 0 y b;cases y with
 |ret a =>have c:=b;exact TT (DP Tryz.f114 [.lp .ret (cw a)] (AL c<|AN))
 |x0 =>have c:=b;exact TT (DP Tryz.f114 [.lp (.exit 0) (rM)] (AL c<|AN))
theorem OR (ay:List Int)(a b:Int)(k:ay.length≤1050000):∀(rest:List Int)(i:Nat),ay.drop i=rest→du a b ay rest i=some (if k9 a b rest (jN ay i)=true then .x2 else .ret false)
 |[],i,_=>rfl
 |x::rest,i,h=>by
  have f:=OR ay a b k rest (i+1) (aq h);rw[F2 h]at f;have hi:i<ay.length:=by
   rcases Ul i ay.length with g|g
   ·exact g
   ·rw[U0 g]at h;cases h
  unfold du k9;rw[f];cases ae x a b with
  |false=>rfl
  |true =>
   rw[Uo,UJ];rcases MA h with rfl|⟨y,j⟩
   ·simp[jN]
   ·by_cases z:i=0
    ·subst z;simp[jN]
    ·have l:jN ay i=some y:=by unfold jN;rw[Un z,j]
     have m:ak ay (IntKind.wrap .i64 ((i:Int)-1))=some y:=by
      rw[em _ (by omega) (by omega)];have e:((i:Int)-1)=((i-1:Nat):Int):=by omega
      rw[e,ct,j]
     rw[l,m,Uj (by omega:(i:Int)>0),Uo,Ua];simp only;by_cases c:y≥x
     ·have d:¬y<x:=by omega
      rw[Uj (show x≤y from c),Uo];simp[d]
     ·have d:y<x:=by omega
      rw[Uk (show ¬x≤y from c),Uu];simp[d]
theorem o8 (l:List Int)(a b:Int)(c:l.length≤1050000)(K:Option vd):
  ((du a b l l 0).bind fun y=>match y with
    | .ret w=>some (.ret w)
    | .x2=>cond ((l.length:Int)==(0:Int)) (some (.ret false)) K)=(cond (bc l a b) K (some (.ret false))):=by
 rw[OR l a b c l 0 rfl];unfold bc jN;rw[Ub rfl];cases k9 a b l none with
 |false=>rfl
 |true =>
  simp only[UP,Ua,UJ];cases l with
  |nil=>rfl
  |cons x l =>rw[show(((x::l).length:Int)==(0:Int))=false from Va.2 (by simp<;>omega),Uj (by simp<;>omega)];rfl
theorem QB (c:GCron)(h:ac.sm c):sJ c=some (jE c):=by
 have a:=h.1.1;have b:=h.2.1.1;have d:=h.2.2.1.1;have e:=h.2.2.2.1.1;have f:=h.2.2.2.2.1;unfold sJ;have g:∀n,bN c.f0 c.f1 c.f2 c.f3 c.f4 (n+6) 0=some (if jE c=true then .x0 else .ret false):=by
  intro n;have i:bN c.f0 c.f1 c.f2 c.f3 c.f4 (n+1) (inc (inc (inc (inc (inc 0)))))=some .x0:=rfl;have j:bN c.f0 c.f1 c.f2 c.f3 c.f4 (n+2) (inc (inc (inc (inc 0))))=cond (bc c.f4 0 6) (some .x0) (some (.ret false)):=by
   rw[←o8 c.f4 0 6 f, ←i]
   conv=>lhs;unfold bN
   show(if inc (inc (inc (inc 0)))=4 then(if c.f4.length≤9223372036854775807 then _ else none)else none)=_;rw[Ub (by rfl),Ub (by omega)];rfl
  have k:bN c.f0 c.f1 c.f2 c.f3 c.f4 (n+3) (inc (inc (inc 0)))=cond (bc c.f3 1 12) (cond (bc c.f4 0 6) (some .x0) (some (.ret false))) (some (.ret false)):=by
   rw[←o8 c.f3 1 12 e, ←j]
   conv=>lhs;unfold bN
   show(if c.f3.length≤9223372036854775807 then _ else none)=_;rw[Ub (by omega)];rfl
  have l:bN c.f0 c.f1 c.f2 c.f3 c.f4 (n+4) (inc (inc 0))=cond (bc c.f2 1 31) (cond (bc c.f3 1 12) (cond (bc c.f4 0 6) (some .x0) (some (.ret false))) (some (.ret false))) (some (.ret false)):=by
   rw[←o8 c.f2 1 31 d, ←k]
   conv=>lhs;unfold bN
   show(if c.f2.length≤9223372036854775807 then _ else none)=_;rw[Ub (by omega)];rfl
  have m:bN c.f0 c.f1 c.f2 c.f3 c.f4 (n+5) (inc 0)=cond (bc c.f1 0 23) (cond (bc c.f2 1 31) (cond (bc c.f3 1 12) (cond (bc c.f4 0 6) (some .x0) (some (.ret false))) (some (.ret false))) (some (.ret false))) (some (.ret false)):=by
   rw[←o8 c.f1 0 23 b, ←l]
   conv=>lhs;unfold bN
   show(if c.f1.length≤9223372036854775807 then _ else none)=_;rw[Ub (by omega)];rfl
  have o:bN c.f0 c.f1 c.f2 c.f3 c.f4 (n+6) 0=cond (bc c.f0 0 59) (cond (bc c.f1 0 23) (cond (bc c.f2 1 31) (cond (bc c.f3 1 12) (cond (bc c.f4 0 6) (some .x0) (some (.ret false))) (some (.ret false))) (some (.ret false))) (some (.ret false))) (some (.ret false)):=by
   rw[←o8 c.f0 0 59 a, ←m]
   conv=>lhs;unfold bN
   show(if c.f0.length≤9223372036854775807 then _ else none)=_;rw[Ub (by omega)];rfl
  rw[o];unfold jE;cases bc c.f0 0 59<;>cases bc c.f1 0 23<;>cases bc c.f2 1 31<;>cases bc c.f3 1 12<;>cases bc c.f4 0 6<;>rfl
 rw[g 9223372036854775802];cases jE c<;>rfl
theorem Cr (x0:GCron)(h:ac.sm x0):Does E 114 [.agg (GCron.t .far x0)] [T3 (jE x0)]:=by exact Nu x0 _ (QB x0 h)
noncomputable def zn (x0:List Int)(a:Int):Option (Bool):=some ((x0.length:Int)==(inc (IntKind.wrap .i64 (((aK a).2)-((aK a).1)))))
theorem Pm (x0:List Int)(a:Int):Ans (zn x0 a) (fun r=>Does E 115 [.one (.s .far () 1 (x0.map etI)),T5 a] [T3 r]):=by unfold zn;exact TT (DP Tryz.f115 [.ret [T2 ((aK a).1),T2 ((aK a).2)],T8 (x0.length:Int)] (AD (co a)<|ALn x0 etI<|AN))
noncomputable def pB (l:List Int)(i:Int):Bool:=(zn l i).getD false
theorem iu (x0:List Int)(a:Int):Does E 115 [.one (.s .far () 1 (x0.map etI)),T5 a] [T3 (pB x0 a)]:=by exact Pm x0 a _ rfl
inductive Ad where|x0 (v5:ByteArray)
def kq (v0:List Int)(v5:ByteArray)(v6:Int):US:=stL 29 [(0,.one (.s .far () 1 (v0.map etI))),(5,T7 v5),(6,T5 v6)]
def qN (a:ByteArray):US:=stL 29 [(5,T7 a)]
abbrev ub:US→Exit→US→Prop:=Round E 86 (am Tryz.f86 0)
def J2 (v0:List Int)(v5:ByteArray)(v6:Int):Ad→Prop| .x0 a=>Loops E 86 (am Tryz.f86 0) (kq v0 v5 v6) (.exit 0) (qN a)
noncomputable def eN  : List Int→Nat→ByteArray→Option Ad|[],i,v5=>some (.x0 v5)|hd::rest,i,v5=>cond (decide ((i:Int)>(0:Int))) (if v5.size+(⟨#[44]⟩:ByteArray).size≤dj then if -9223372036854775808≤hd∧hd≤9223372036854775807 then if(v5++(⟨#[44]⟩:ByteArray)).size+(bv hd).size≤dj then eN rest (i+1) ((v5++(⟨#[44]⟩:ByteArray))++(bv hd))else none else none else none) (if -9223372036854775808≤hd∧hd≤9223372036854775807 then if v5.size+(bv hd).size≤dj then eN rest (i+1) (v5++(bv hd))else none else none)
theorem J1 (v0:List Int)(rest:List Int):∀(i:Nat)(v5:ByteArray),(v0).drop i=rest→v0.length≤9223372036854775807→Ans (eN rest i v5) (J2 v0 v5 (i:Int)):=by
 induction rest with
 |nil =>intro i v5 a c;have hb:=aI a;unfold eN;exact TT (TV (show ub (kq v0 v5 (i:Int)) (.exit 0) (qN v5)from RP [T8 (v0.length:Int),.b false] (ALn v0 etI<|AC hb<|AN)) (by intro h;cases h))
 |cons hd rest f =>
  intro i v5 a c;have hb:=aC a;have g:=aD a c;have b:=aq a;have j:=aB a;unfold eN;apply TW<;>intro k
  ·refine TY (fun l => ?_);refine TY (fun d => ?_);refine TY (fun m => ?_);exact(f (i+1) ((v5++(⟨#[44]⟩:ByteArray))++(bv hd)) b c).mono fun y e=>by have r:ub (kq v0 v5 (i:Int)) .normal (kq v0 ((v5++(⟨#[44]⟩:ByteArray))++(bv hd)) (inc (i:Int))):=RP [T8 (v0.length:Int),.b true,.b true,.val (.string (v5++(⟨#[44]⟩:ByteArray))),.row (etI hd),.ret [T4 (bv hd)],.val (.string ((v5++(⟨#[44]⟩:ByteArray))++(bv hd)))] (ALn v0 etI<|AC hb<|AC k<|AC (jP (tab:=E.tab) (t:=9) l)<|AR etI j<|AD (qT hd d)<|AC (jP (tab:=E.tab) (t:=9) m)<|AN);rw[g]at r;cases y<;>exact TU r e
  ·refine TY (fun n => ?_);refine TY (fun d => ?_);exact(f (i+1) (v5++(bv hd)) b c).mono fun y e=>by have r:ub (kq v0 v5 (i:Int)) .normal (kq v0 (v5++(bv hd)) (inc (i:Int))):=RP [T8 (v0.length:Int),.b true,.b false,.row (etI hd),.ret [T4 (bv hd)],.val (.string (v5++(bv hd)))] (ALn v0 etI<|AC hb<|AC k<|AR etI j<|AD (qT hd n)<|AC (jP (tab:=E.tab) (t:=9) d)<|AN);rw[g]at r;cases y<;>exact TU r e
noncomputable def rl (x0:List Int)(b:Int):Option (ByteArray):=
  cond ((x0.length:Int)==b)
   (some ((⟨#[42]⟩:ByteArray)))
   (if x0.length≤9223372036854775807 then(eN x0 0 ByteArray.empty).bind fun y=>match y with
    | .x0 a=>(some (a))else none)
theorem LY (x0:List Int)(d:Int):Ans (rl x0 d) (fun r=>Does E 86 [.one (.s .far () 1 (x0.map etI)),T5 d] [T4 r]):=by
 unfold rl;apply TW<;>intro e
 ·exact TT (DP Tryz.f86 [T8 (x0.length:Int),.b true] (ALn x0 etI<|AC e<|AN))
 ·refine TY (fun b => ?_);refine TX (fun y c => ?_);replace c:=J1 x0 x0 0 ByteArray.empty rfl b y c;cases y with
  |x0 a =>have f:=c;exact TT (DP Tryz.f86 [T8 (x0.length:Int),.b false,.lp (.exit 0) (qN a)] (ALn x0 etI<|AC e<|AL f<|AN))
def iN (c:UInt8):List (List UInt8)→List UInt8|[]=>[]|x::xs=>x++(xs.map fun y=>c::y).flatten
theorem zB (c:UInt8):∀xs:List (List UInt8),Lib.join xs [c]=iN c xs
 |[]=>rfl
 |[x]=>by simp[Lib.join,List.intercalate,iN]
 |x::y::xs=>by have a:=zB c (y::xs);unfold Lib.join List.intercalate at a ⊢;rw[List.intersperse_cons_cons,List.flatten_cons,List.flatten_cons,a];simp[iN]
theorem xZ (xs:List (List UInt8))(c:UInt8):ba (xs.map ofTx) ⟨#[c]⟩=ofTx (iN c xs):=by
 unfold ba;have:(xs.map ofTx).map (fun s:ByteArray=>s.data.toList)=xs:=by
  rw[UW]
  conv=>rhs;rw[←Wr xs]
  rfl
 rw[this];show ofTx (Lib.join xs [c])=_;rw[zB]
theorem AT (c:UInt8)(k:Nat):∀xs:List (List UInt8),(∀x∈xs,x.length≤k)→(iN c xs).length≤xs.length*(k+1)
 |[],_=>by simp[iN]
 |x::xs,h=>by
  have d:=h x (by simp);have:∀ys:List (List UInt8),(∀y∈ys,y.length≤k)→((ys.map fun y=>c::y).flatten).length≤ys.length*(k+1):=by
   intro ys;induction ys with
   |nil=>intro _;simp
   |cons y ys a =>
    intro h;have:=a fun z hz=>h z (by simp[hz])
    have:=h y (by simp);simp[VF]at *;omega
  have:=this xs fun y b=>h y (by simp[b])
  simp only[iN,V3,UK,VF];omega
theorem B2 {x:Int}(h:0≤x∧x≤59):(tx (bv x)).length≤2:=by show(Lib.itoa x).length≤2;unfold Lib.itoa;rw[Un (by omega)];exact wR 1 _ (by omega)
noncomputable def aJ (l:List Int)(size:Int):ByteArray:=cond ((l.length:Int)==size) ⟨#[42]⟩ (ofTx (iN 44 (l.map fun x=>tx (bv x))))
theorem gO {l:List Int}(c:l.length≤60)(h:∀z∈l,0≤z∧z≤59)(n:Int):(aJ l n).size≤200:=by
 unfold aJ;cases(l.length:Int)==n with
 |true=>exact(by decide:(⟨#[42]⟩:ByteArray).size≤200)
 |false =>
  rw[Uu,rE];have:=AT 44 2 (l.map fun x=>tx (bv x)) (fun y a=>by obtain⟨x,b,rfl⟩:=Uw.1 a;exact B2 (h x b));rw[UH]at this;omega
theorem P8:∀(l:List Int)(i:Nat)(v:List UInt8),(∀z∈l,0≤z∧z≤59)→0<i→v.length+l.length*3≤1000→eN l i (ofTx v)=some (.x0 (ofTx (v++((l.map fun x=>44::tx (bv x)).flatten))))
 |[],i,v,_,_,_=>by unfold eN;simp
 |x::l,i,v,h,hi,b=>by have c:=h x (by simp);have hz:=B2 c;have a:(⟨#[44]⟩:ByteArray)=ofTx [44]:=rfl;simp only[UK]at b;unfold eN;rw[Uj (by omega),Uo,a,qC, ←wo (bv x),qC];simp only[rE,wD];rw[Ub (by simp[dj];omega),Ub (by omega),Ub (by simp[dj];omega),P8 l (i+1) _ (fun z hz=>h z (by simp[hz])) (by omega) (by simp;omega)];simp
theorem RY (l:List Int)(n:Int)(a:l.length≤60)(h:∀z∈l,0≤z∧z≤59):rl l n=some (aJ l n):=by
 unfold rl aJ;cases(l.length:Int)==n with
 |true=>rfl
 |false =>
  rw[Uu,Uu,Ub (by omega)];cases l with
  |nil=>rfl
  |cons x l =>
   have b:=h x (by simp);have hz:=B2 b;simp only[UK]at a;unfold eN;have e:ByteArray.empty++bv x=ofTx (tx (bv x)):=by show ofTx []++ofTx (tx (bv x))=_;rw[qC];rfl
   have c:(bv x).size≤2:=by rw[dy];exact hz
   have d:ByteArray.empty.size=0:=rfl;rw[Uk (by omega),Uu,Ub (by omega),Ub (by rw[d];unfold dj;omega),e,P8 l _ _ (fun z hz=>h z (by simp[hz])) (by omega) (by omega),Ua];simp only[Uv,iN,UW];rfl
theorem nq (x0:List Int)(a:Int)(b:x0.length≤60)(c:∀z∈x0,0≤z∧z≤59):Does E 86 [.one (.s .far () 1 (x0.map etI)),T5 a] [T4 (aJ x0 a)]:=by exact LY x0 a _ (RY x0 a b c)
noncomputable def pU (x0:GCron):Option (ByteArray×Bool):=if ac.sm x0 then cond (jE x0) (if x0.f0.length≤60 then if ∀z∈x0.f0,0≤z∧z≤59 then if(aJ x0.f0 60).size+(⟨#[32]⟩:ByteArray).size≤dj then if x0.f1.length≤60 then if ∀z∈x0.f1,0≤z∧z≤59 then if((aJ x0.f0 (60:Int))++(⟨#[32]⟩:ByteArray)).size+(aJ x0.f1 24).size≤dj then if(((aJ x0.f0 (60:Int))++(⟨#[32]⟩:ByteArray))++(aJ x0.f1 24)).size+(⟨#[32]⟩:ByteArray).size≤dj then if x0.f2.length≤60 then if ∀z∈x0.f2,0≤z∧z≤59 then if((((aJ x0.f0 (60:Int))++(⟨#[32]⟩:ByteArray))++(aJ x0.f1 24))++(⟨#[32]⟩:ByteArray)).size+(aJ x0.f2 31).size≤dj then if(((((aJ x0.f0 (60:Int))++(⟨#[32]⟩:ByteArray))++(aJ x0.f1 24))++(⟨#[32]⟩:ByteArray))++(aJ x0.f2 31)).size+(⟨#[32]⟩:ByteArray).size≤dj then if x0.f3.length≤60 then if ∀z∈x0.f3,0≤z∧z≤59 then if((((((aJ x0.f0 (60:Int))++(⟨#[32]⟩:ByteArray))++(aJ x0.f1 24))++(⟨#[32]⟩:ByteArray))++(aJ x0.f2 31))++(⟨#[32]⟩:ByteArray)).size+(aJ x0.f3 12).size≤dj then if(((((((aJ x0.f0 (60:Int))++(⟨#[32]⟩:ByteArray))++(aJ x0.f1 24))++(⟨#[32]⟩:ByteArray))++(aJ x0.f2 31))++(⟨#[32]⟩:ByteArray))++(aJ x0.f3 12)).size+(⟨#[32]⟩:ByteArray).size≤dj then if x0.f4.length≤60 then if ∀z∈x0.f4,0≤z∧z≤59 then if((((((((aJ x0.f0 (60:Int))++(⟨#[32]⟩:ByteArray))++(aJ x0.f1 24))++(⟨#[32]⟩:ByteArray))++(aJ x0.f2 31))++(⟨#[32]⟩:ByteArray))++(aJ x0.f3 12))++(⟨#[32]⟩:ByteArray)).size+(aJ x0.f4 7).size≤dj then some (((((((((aJ x0.f0 (60:Int))++(⟨#[32]⟩:ByteArray))++(aJ x0.f1 24))++(⟨#[32]⟩:ByteArray))++(aJ x0.f2 31))++(⟨#[32]⟩:ByteArray))++(aJ x0.f3 12))++(⟨#[32]⟩:ByteArray))++(aJ x0.f4 7),true)else none else none else none else none else none else none else none else none else none else none else none else none else none else none else none else none else none else none) (some (ByteArray.empty,false))else none
theorem JR (x0:GCron):Ans (pU x0) (fun r=>Does E 57 [.agg (GCron.t .far x0)] [T4 r.1,T3 r.2]):=by
 unfold pU;refine TY (fun k => ?_);apply TW<;>intro l
 ·refine TY (fun m => ?_);refine TY (fun n => ?_);refine TY (fun o => ?_);refine TY (fun p => ?_);refine TY (fun q => ?_);refine TY (fun s => ?_);refine TY (fun u => ?_);refine TY (fun v => ?_);refine TY (fun a => ?_);refine TY (fun b => ?_);refine TY (fun c => ?_);refine TY (fun d => ?_);refine TY (fun e => ?_);refine TY (fun f => ?_);refine TY (fun g => ?_);refine TY (fun h => ?_);refine TY (fun i => ?_);refine TY (fun j => ?_);exact TT (DP Tryz.f57 [rT,.ret [T4 (aJ x0.f0 60)],.val (.string ((aJ x0.f0 (60:Int))++(⟨#[32]⟩:ByteArray))),.ret [T4 (aJ x0.f1 24)],.val (.string (((aJ x0.f0 (60:Int))++(⟨#[32]⟩:ByteArray))++(aJ x0.f1 24))),.val (.string ((((aJ x0.f0 (60:Int))++(⟨#[32]⟩:ByteArray))++(aJ x0.f1 24))++(⟨#[32]⟩:ByteArray))),.ret [T4 (aJ x0.f2 31)],.val (.string (((((aJ x0.f0 (60:Int))++(⟨#[32]⟩:ByteArray))++(aJ x0.f1 24))++(⟨#[32]⟩:ByteArray))++(aJ x0.f2 31))),.val (.string ((((((aJ x0.f0 (60:Int))++(⟨#[32]⟩:ByteArray))++(aJ x0.f1 24))++(⟨#[32]⟩:ByteArray))++(aJ x0.f2 31))++(⟨#[32]⟩:ByteArray))),.ret [T4 (aJ x0.f3 12)],.val (.string (((((((aJ x0.f0 (60:Int))++(⟨#[32]⟩:ByteArray))++(aJ x0.f1 24))++(⟨#[32]⟩:ByteArray))++(aJ x0.f2 31))++(⟨#[32]⟩:ByteArray))++(aJ x0.f3 12))),.val (.string ((((((((aJ x0.f0 (60:Int))++(⟨#[32]⟩:ByteArray))++(aJ x0.f1 24))++(⟨#[32]⟩:ByteArray))++(aJ x0.f2 31))++(⟨#[32]⟩:ByteArray))++(aJ x0.f3 12))++(⟨#[32]⟩:ByteArray))),.ret [T4 (aJ x0.f4 7)],.val (.string (((((((((aJ x0.f0 (60:Int))++(⟨#[32]⟩:ByteArray))++(aJ x0.f1 24))++(⟨#[32]⟩:ByteArray))++(aJ x0.f2 31))++(⟨#[32]⟩:ByteArray))++(aJ x0.f3 12))++(⟨#[32]⟩:ByteArray))++(aJ x0.f4 7)))] (AD (T1 (Cz x0 k) l)<|AD (nq x0.f0 60 m n)<|AC (jP (tab:=E.tab) (t:=9) o)<|AD (nq x0.f1 24 p q)<|AC (jP (tab:=E.tab) (t:=9) s)<|AC (jP (tab:=E.tab) (t:=9) u)<|AD (nq x0.f2 31 v a)<|AC (jP (tab:=E.tab) (t:=9) b)<|AC (jP (tab:=E.tab) (t:=9) c)<|AD (nq x0.f3 12 d e)<|AC (jP (tab:=E.tab) (t:=9) f)<|AC (jP (tab:=E.tab) (t:=9) g)<|AD (nq x0.f4 7 h i)<|AC (jP (tab:=E.tab) (t:=9) j)<|AN))
 ·exact TT (DP Tryz.f57 [rF] (AD (T1 (Cz x0 k) l)<|AN))
inductive xU where|x2 (v7:List ByteArray)
def nL (a b c d e:List Int)(v4 v7:List ByteArray)(f:Int)(v28:List Int)(g h:Int):US:=stL 48 [(1,.box () [.s .far () 1 (a.map etI),.s .far () 1 (b.map etI),.s .far () 1 (c.map etI),.s .far () 1 (d.map etI),.s .far () 1 (e.map etI)]),(4,.one (.s .own () 1 (v4.map etS))),(7,.one (.s .own () 1 (v7.map etS))),(13,.clo (.arr [0,1,2,3,4]) [1,1,1,1,1]),(14,T5 f),(28,.one (.s .far () 1 (v28.map etI))),(29,T5 g),(30,T5 h)]
def fq (a b c d e:List Int)(v4:List ByteArray)(f:Int)(g:List ByteArray):US:=stL 48 [(1,.box () [.s .far () 1 (a.map etI),.s .far () 1 (b.map etI),.s .far () 1 (c.map etI),.s .far () 1 (d.map etI),.s .far () 1 (e.map etI)]),(4,.one (.s .own () 1 (v4.map etS))),(7,.one (.s .own () 1 (g.map etS))),(13,.clo (.arr [0,1,2,3,4]) [1,1,1,1,1]),(14,T5 f)]
abbrev xT:US→Exit→US→Prop:=Round E 93 (am Tryz.f93 1)
def Gy (a b c d e:List Int)(v4 v7:List ByteArray)(f:Int)(v28:List Int)(g h:Int):xU→Prop| .x2 i=>Loops E 93 (am Tryz.f93 1) (nL a b c d e v4 v7 f v28 g h) (.exit 2) (fq a b c d e v4 f i)
noncomputable def cy  : List Int→Nat→(List ByteArray)→Option xU|[],i,v7=>some (.x2 v7)|hd::rest,i,v7=>if -9223372036854775808≤hd∧hd≤9223372036854775807 then if(v7.length+([bv hd]).length)*16≤140737488355328∧v7.length+([bv hd]).length≤4611686018427387904 then cy rest (i+1) (v7++([bv hd]))else none else none
theorem k6 (a b c d e:List Int)(v4:List ByteArray)(f:Int)(v28:List Int)(rest:List Int):∀(i:Nat)(v7:List ByteArray),(v28).drop i=rest→v28.length≤9223372036854775807→Ans (cy rest i v7) (Gy a b c d e v4 v7 f v28 (v28.length:Int) (i:Int)):=by
 induction rest with
 |nil =>intro i v7 g j;have hb:=aI g;unfold cy;exact TT (TV (show xT (nL a b c d e v4 v7 f v28 (v28.length:Int) (i:Int)) (.exit 2) (fq a b c d e v4 f v7)from RP [.b false] (AC hb<|AN)) (by intro h;cases h))
 |cons hd rest l =>intro i v7 g j;have hb:=aC g;have m:=aD g j;have k:=aq g;have n:=aB g;unfold cy;refine TY (fun o => ?_);refine TY (fun p => ?_);exact(l (i+1) (v7++([bv hd])) k j).mono fun y q=>by have r:xT (nL a b c d e v4 v7 f v28 (v28.length:Int) (i:Int)) .normal (nL a b c d e v4 (v7++([bv hd])) f v28 (v28.length:Int) (inc (i:Int))):=RP [.b true,.row (etI hd),.ret [T4 (bv hd)],.rows ((v7++([bv hd])).map etS)] (AC hb<|AR etI n<|AD (uY hd o)<|AAp etS (fun _=>rfl) p<|AN);rw[m]at r;cases y<;>exact TU r q
inductive rN where|x0 (v4:List ByteArray)
def be (a b c d e:List Int)(v4:List ByteArray)(f:Int):US:=stL 48 [(1,.box () [.s .far () 1 (a.map etI),.s .far () 1 (b.map etI),.s .far () 1 (c.map etI),.s .far () 1 (d.map etI),.s .far () 1 (e.map etI)]),(4,.one (.s .own () 1 (v4.map etS))),(13,.clo (.arr [0,1,2,3,4]) [1,1,1,1,1]),(14,T5 f)]
def pi (a:List ByteArray):US:=stL 48 [(4,.one (.s .own () 1 (a.map etS)))]
abbrev di:US→Exit→US→Prop:=Round E 93 (am Tryz.f93 0)
def Gx (a b c d e:List Int)(v4:List ByteArray)(f:Int):rN→Prop| .x0 g=>Loops E 93 (am Tryz.f93 0) (be a b c d e v4 f) (.exit 0) (pi g)
noncomputable def aM (c d e f g:List Int):Nat→(List ByteArray)→Int→Option rN
 | 0,_,_=>none
 |n+1,v4,b=>cond (decide (b<(5:Int)))
  (cond (b==(0:Int))
   (cond (pB c b)
    (if(v4.length+([(⟨#[42]⟩:ByteArray)]).length)*16≤140737488355328∧v4.length+([(⟨#[42]⟩:ByteArray)]).length≤4611686018427387904 then aM c d e f g n (v4++([(⟨#[42]⟩:ByteArray)])) (inc b)else none)
    (if c.length≤9223372036854775807 then(cy c 0 ([])).bind fun y=>match y with
     | .x2 a=>(if a.length≤140737488355328∧(ba a (⟨#[44]⟩:ByteArray)).size≤140737488355328 then if(v4.length+([ba a (⟨#[44]⟩:ByteArray)]).length)*16≤140737488355328∧v4.length+([ba a (⟨#[44]⟩:ByteArray)]).length≤4611686018427387904 then aM c d e f g n (v4++([ba a (⟨#[44]⟩:ByteArray)])) (inc b)else none else none)else none))
   (cond (b==(1:Int))
    (cond (pB d b)
     (if(v4.length+([(⟨#[42]⟩:ByteArray)]).length)*16≤140737488355328∧v4.length+([(⟨#[42]⟩:ByteArray)]).length≤4611686018427387904 then aM c d e f g n (v4++([(⟨#[42]⟩:ByteArray)])) (inc b)else none)
     (if d.length≤9223372036854775807 then(cy d 0 ([])).bind fun y=>match y with
      | .x2 a=>(if a.length≤140737488355328∧(ba a (⟨#[44]⟩:ByteArray)).size≤140737488355328 then if(v4.length+([ba a (⟨#[44]⟩:ByteArray)]).length)*16≤140737488355328∧v4.length+([ba a (⟨#[44]⟩:ByteArray)]).length≤4611686018427387904 then aM c d e f g n (v4++([ba a (⟨#[44]⟩:ByteArray)])) (inc b)else none else none)else none))
    (cond (b==(2:Int))
     (cond (pB e b)
      (if(v4.length+([(⟨#[42]⟩:ByteArray)]).length)*16≤140737488355328∧v4.length+([(⟨#[42]⟩:ByteArray)]).length≤4611686018427387904 then aM c d e f g n (v4++([(⟨#[42]⟩:ByteArray)])) (inc b)else none)
      (if e.length≤9223372036854775807 then(cy e 0 ([])).bind fun y=>match y with
       | .x2 a=>(if a.length≤140737488355328∧(ba a (⟨#[44]⟩:ByteArray)).size≤140737488355328 then if(v4.length+([ba a (⟨#[44]⟩:ByteArray)]).length)*16≤140737488355328∧v4.length+([ba a (⟨#[44]⟩:ByteArray)]).length≤4611686018427387904 then aM c d e f g n (v4++([ba a (⟨#[44]⟩:ByteArray)])) (inc b)else none else none)else none))
     (cond (b==(3:Int))
      (cond (pB f b)
       (if(v4.length+([(⟨#[42]⟩:ByteArray)]).length)*16≤140737488355328∧v4.length+([(⟨#[42]⟩:ByteArray)]).length≤4611686018427387904 then aM c d e f g n (v4++([(⟨#[42]⟩:ByteArray)])) (inc b)else none)
       (if f.length≤9223372036854775807 then(cy f 0 ([])).bind fun y=>match y with
        | .x2 a=>(if a.length≤140737488355328∧(ba a (⟨#[44]⟩:ByteArray)).size≤140737488355328 then if(v4.length+([ba a (⟨#[44]⟩:ByteArray)]).length)*16≤140737488355328∧v4.length+([ba a (⟨#[44]⟩:ByteArray)]).length≤4611686018427387904 then aM c d e f g n (v4++([ba a (⟨#[44]⟩:ByteArray)])) (inc b)else none else none)else none))
      (if b=(4:Int)then cond (pB g b)
       (if(v4.length+([(⟨#[42]⟩:ByteArray)]).length)*16≤140737488355328∧v4.length+([(⟨#[42]⟩:ByteArray)]).length≤4611686018427387904 then aM c d e f g n (v4++([(⟨#[42]⟩:ByteArray)])) (inc b)else none)
       (if g.length≤9223372036854775807 then(cy g 0 ([])).bind fun y=>match y with
        | .x2 a=>(if a.length≤140737488355328∧(ba a (⟨#[44]⟩:ByteArray)).size≤140737488355328 then if(v4.length+([ba a (⟨#[44]⟩:ByteArray)]).length)*16≤140737488355328∧v4.length+([ba a (⟨#[44]⟩:ByteArray)]).length≤4611686018427387904 then aM c d e f g n (v4++([ba a (⟨#[44]⟩:ByteArray)])) (inc b)else none else none)else none)else none)))))
  (some (.x0 v4))
theorem Gw (c d e f g:List Int)(n:Nat):∀(v4:List ByteArray)(b:Int),Ans (aM c d e f g n v4 b) (Gx c d e f g v4 b):=by
 induction n with
 |zero=>intros;exact Ans.none
 |succ n o =>
  intro v4 b;unfold aM;apply TW<;>intro l
  ·apply TW<;>intro B
   ·apply TW<;>intro v
    ·refine TY (fun s => ?_);have r:di (be c d e f g v4 b) .normal (be c d e f g (v4++([(⟨#[42]⟩:ByteArray)])) (inc b)):=RP [.b true,T8 0,rT,.rows ((v4++([(⟨#[42]⟩:ByteArray)])).map etS)] (AC l<|AC (p:=b=(0:Int)) (eq_of_beq B)<|AD (T1 (iu c b) v)<|AAp etS (fun _=>rfl) s<|AN);exact(o (v4++([(⟨#[42]⟩:ByteArray)])) (inc b)).mono fun y i=>by cases y<;>exact TU r i
    ·refine TY (fun w => ?_);refine TX (fun y i => ?_);replace i:=k6 c d e f g v4 b c c 0 ([]) rfl w y i;cases y with
     |x2 a =>have s:=i;refine TY (fun m => ?_);refine TY (fun j => ?_);have r:di (be c d e f g v4 b) .normal (be c d e f g (v4++([ba a (⟨#[44]⟩:ByteArray)])) (inc b)):=RP [.b true,T8 0,rF,T8 (c.length:Int),.lp (.exit 2) (fq c d e f g v4 b a),.ret [T4 (ba a (⟨#[44]⟩:ByteArray))],.rows ((v4++([ba a (⟨#[44]⟩:ByteArray)])).map etS)] (AC l<|AC (p:=b=(0:Int)) (eq_of_beq B)<|AD (T1 (iu c b) v)<|ALn c etI<|AL s<|AV (ψ:=fun k=>E.C k 117 [.one (.s .far () 1 (((a.map etS).drop 0).take (a.map etS).length)),T7 (⟨#[44]⟩:ByteArray)]=some [T4 (ba a (⟨#[44]⟩:ByteArray))]) (T0 (by simp only[UT,UM]) (iM a (⟨#[44]⟩:ByteArray) m))<|AAp etS (fun _=>rfl) j<|AN);exact(o (v4++([ba a (⟨#[44]⟩:ByteArray)])) (inc b)).mono fun y i=>by cases y<;>exact TU r i
   ·apply TW<;>intro v
    ·apply TW<;>intro s
     ·refine TY (fun m => ?_);have r:di (be c d e f g v4 b) .normal (be c d e f g (v4++([(⟨#[42]⟩:ByteArray)])) (inc b)):=RP [.b true,T8 1,rT,.rows ((v4++([(⟨#[42]⟩:ByteArray)])).map etS)] (AC l<|AC (p:=b=(1:Int)) (eq_of_beq v)<|AD (T1 (iu d b) s)<|AAp etS (fun _=>rfl) m<|AN);exact(o (v4++([(⟨#[42]⟩:ByteArray)])) (inc b)).mono fun y i=>by cases y<;>exact TU r i
     ·refine TY (fun x => ?_);refine TX (fun y i => ?_);replace i:=k6 c d e f g v4 b d d 0 ([]) rfl x y i;cases y with
      |x2 a =>have m:=i;refine TY (fun j => ?_);refine TY (fun q => ?_);have r:di (be c d e f g v4 b) .normal (be c d e f g (v4++([ba a (⟨#[44]⟩:ByteArray)])) (inc b)):=RP [.b true,T8 1,rF,T8 (d.length:Int),.lp (.exit 2) (fq c d e f g v4 b a),.ret [T4 (ba a (⟨#[44]⟩:ByteArray))],.rows ((v4++([ba a (⟨#[44]⟩:ByteArray)])).map etS)] (AC l<|AC (p:=b=(1:Int)) (eq_of_beq v)<|AD (T1 (iu d b) s)<|ALn d etI<|AL m<|AV (ψ:=fun k=>E.C k 117 [.one (.s .far () 1 (((a.map etS).drop 0).take (a.map etS).length)),T7 (⟨#[44]⟩:ByteArray)]=some [T4 (ba a (⟨#[44]⟩:ByteArray))]) (T0 (by simp only[UT,UM]) (iM a (⟨#[44]⟩:ByteArray) j))<|AAp etS (fun _=>rfl) q<|AN);exact(o (v4++([ba a (⟨#[44]⟩:ByteArray)])) (inc b)).mono fun y i=>by cases y<;>exact TU r i
    ·apply TW<;>intro s
     ·apply TW<;>intro m
      ·refine TY (fun j => ?_);have r:di (be c d e f g v4 b) .normal (be c d e f g (v4++([(⟨#[42]⟩:ByteArray)])) (inc b)):=RP [.b true,T8 2,rT,.rows ((v4++([(⟨#[42]⟩:ByteArray)])).map etS)] (AC l<|AC (p:=b=(2:Int)) (eq_of_beq s)<|AD (T1 (iu e b) m)<|AAp etS (fun _=>rfl) j<|AN);exact(o (v4++([(⟨#[42]⟩:ByteArray)])) (inc b)).mono fun y i=>by cases y<;>exact TU r i
      ·refine TY (fun z => ?_);refine TX (fun y i => ?_);replace i:=k6 c d e f g v4 b e e 0 ([]) rfl z y i;cases y with
       |x2 a =>have j:=i;refine TY (fun q => ?_);refine TY (fun t => ?_);have r:di (be c d e f g v4 b) .normal (be c d e f g (v4++([ba a (⟨#[44]⟩:ByteArray)])) (inc b)):=RP [.b true,T8 2,rF,T8 (e.length:Int),.lp (.exit 2) (fq c d e f g v4 b a),.ret [T4 (ba a (⟨#[44]⟩:ByteArray))],.rows ((v4++([ba a (⟨#[44]⟩:ByteArray)])).map etS)] (AC l<|AC (p:=b=(2:Int)) (eq_of_beq s)<|AD (T1 (iu e b) m)<|ALn e etI<|AL j<|AV (ψ:=fun k=>E.C k 117 [.one (.s .far () 1 (((a.map etS).drop 0).take (a.map etS).length)),T7 (⟨#[44]⟩:ByteArray)]=some [T4 (ba a (⟨#[44]⟩:ByteArray))]) (T0 (by simp only[UT,UM]) (iM a (⟨#[44]⟩:ByteArray) q))<|AAp etS (fun _=>rfl) t<|AN);exact(o (v4++([ba a (⟨#[44]⟩:ByteArray)])) (inc b)).mono fun y i=>by cases y<;>exact TU r i
     ·apply TW<;>intro m
      ·apply TW<;>intro j
       ·refine TY (fun q => ?_);have r:di (be c d e f g v4 b) .normal (be c d e f g (v4++([(⟨#[42]⟩:ByteArray)])) (inc b)):=RP [.b true,T8 3,rT,.rows ((v4++([(⟨#[42]⟩:ByteArray)])).map etS)] (AC l<|AC (p:=b=(3:Int)) (eq_of_beq m)<|AD (T1 (iu f b) j)<|AAp etS (fun _=>rfl) q<|AN);exact(o (v4++([(⟨#[42]⟩:ByteArray)])) (inc b)).mono fun y i=>by cases y<;>exact TU r i
       ·refine TY (fun u => ?_);refine TX (fun y i => ?_);replace i:=k6 c d e f g v4 b f f 0 ([]) rfl u y i;cases y with
        |x2 a =>have q:=i;refine TY (fun t => ?_);refine TY (fun A => ?_);have r:di (be c d e f g v4 b) .normal (be c d e f g (v4++([ba a (⟨#[44]⟩:ByteArray)])) (inc b)):=RP [.b true,T8 3,rF,T8 (f.length:Int),.lp (.exit 2) (fq c d e f g v4 b a),.ret [T4 (ba a (⟨#[44]⟩:ByteArray))],.rows ((v4++([ba a (⟨#[44]⟩:ByteArray)])).map etS)] (AC l<|AC (p:=b=(3:Int)) (eq_of_beq m)<|AD (T1 (iu f b) j)<|ALn f etI<|AL q<|AV (ψ:=fun k=>E.C k 117 [.one (.s .far () 1 (((a.map etS).drop 0).take (a.map etS).length)),T7 (⟨#[44]⟩:ByteArray)]=some [T4 (ba a (⟨#[44]⟩:ByteArray))]) (T0 (by simp only[UT,UM]) (iM a (⟨#[44]⟩:ByteArray) t))<|AAp etS (fun _=>rfl) A<|AN);exact(o (v4++([ba a (⟨#[44]⟩:ByteArray)])) (inc b)).mono fun y i=>by cases y<;>exact TU r i
      ·refine TY (fun j => ?_);apply TW<;>intro q
       ·refine TY (fun t => ?_);have r:di (be c d e f g v4 b) .normal (be c d e f g (v4++([(⟨#[42]⟩:ByteArray)])) (inc b)):=RP [.b true,T8 4,rT,.rows ((v4++([(⟨#[42]⟩:ByteArray)])).map etS)] (AC l<|AC j<|AD (T1 (iu g b) q)<|AAp etS (fun _=>rfl) t<|AN);exact(o (v4++([(⟨#[42]⟩:ByteArray)])) (inc b)).mono fun y i=>by cases y<;>exact TU r i
       ·refine TY (fun u => ?_);refine TX (fun y i => ?_);replace i:=k6 c d e f g v4 b g g 0 ([]) rfl u y i;cases y with
        |x2 a =>have t:=i;refine TY (fun A => ?_);refine TY (fun D => ?_);have r:di (be c d e f g v4 b) .normal (be c d e f g (v4++([ba a (⟨#[44]⟩:ByteArray)])) (inc b)):=RP [.b true,T8 4,rF,T8 (g.length:Int),.lp (.exit 2) (fq c d e f g v4 b a),.ret [T4 (ba a (⟨#[44]⟩:ByteArray))],.rows ((v4++([ba a (⟨#[44]⟩:ByteArray)])).map etS)] (AC l<|AC j<|AD (T1 (iu g b) q)<|ALn g etI<|AL t<|AV (ψ:=fun k=>E.C k 117 [.one (.s .far () 1 (((a.map etS).drop 0).take (a.map etS).length)),T7 (⟨#[44]⟩:ByteArray)]=some [T4 (ba a (⟨#[44]⟩:ByteArray))]) (T0 (by simp only[UT,UM]) (iM a (⟨#[44]⟩:ByteArray) A))<|AAp etS (fun _=>rfl) D<|AN);exact(o (v4++([ba a (⟨#[44]⟩:ByteArray)])) (inc b)).mono fun y i=>by cases y<;>exact TU r i
  ·exact TT (TV (show di (be c d e f g v4 b) (.exit 0) (pi v4)from RP [.b false] (AC l<|AN)) (by intro h;cases h))
noncomputable def pj (x0:GCron):Option (ByteArray×Bool):=
  if ac.sm x0 then cond (jE x0)
   ((aM x0.f0 x0.f1 x0.f2 x0.f3 x0.f4 9223372036854775808 ([]) 0).bind fun y=>match y with
    | .x0 a=>(if a.length≤140737488355328∧(ba a (⟨#[32]⟩:ByteArray)).size≤140737488355328 then some (ba a (⟨#[32]⟩:ByteArray),true)else none))
   (some (ByteArray.empty,false))else none
theorem ID (x0:GCron):Ans (pj x0) (fun r=>Does E 93 [.agg (GCron.t .far x0)] [T4 r.1,T3 r.2]):=by
 unfold pj;refine TY (fun c => ?_);apply TW<;>intro d
 ·refine TX (fun y b => ?_);replace b:=Gw x0.f0 x0.f1 x0.f2 x0.f3 x0.f4 9223372036854775808 ([]) 0 y b;cases y with
  |x0 a =>have e:=b;refine TY (fun f => ?_);exact TT (DP Tryz.f93 [rT,.lp (.exit 0) (pi a),.ret [T4 (ba a (⟨#[32]⟩:ByteArray))]] (AD (T1 (Cr x0 c) d)<|AL e<|AV (ψ:=fun k=>E.C k 117 [.one (.s .far () 1 (((a.map etS).drop 0).take (a.map etS).length)),T7 (⟨#[32]⟩:ByteArray)]=some [T4 (ba a (⟨#[32]⟩:ByteArray))]) (T0 (by simp only[UT,UM]) (iM a (⟨#[32]⟩:ByteArray) f))<|AN))
 ·exact TT (DP Tryz.f93 [rF] (AD (T1 (Cr x0 c) d)<|AN))
theorem F4 {a b:Int}:∀{l:List Int}{p:Option Int},k9 a b l p=true→l.Pairwise (· < ·)∧∀y,p=some y→∀x∈l,y<x
 |[],p,_=>⟨by simp,fun y _ x hx=>by cases hx⟩
 |z::l,p,h=>by
  unfold k9 at h;simp only[Ux]at h;obtain⟨d,f⟩:=F4 h.2;have c:=f z rfl;refine⟨W0.2 ⟨c,d⟩,fun y e x hx => ?_⟩;subst e;have g:y<z:=by simpa using h.1.2
  rcases UE.1 hx with rfl|hx
  ·exact g
  ·have:=c x hx;omega
theorem JK {a b:Int}:∀{l:List Int}{p:Option Int},k9 a b l p=true→∀x∈l,a≤x∧x≤b
 |[],_,_,x,hx=>by cases hx
 |y::l,p,h,x,hx=>by
  unfold k9 at h;simp only[Ux]at h;rcases UE.1 hx with rfl|hx
  ·have:=h.1.1;unfold ae at this;simpa using this
  ·exact JK h.2 x hx
theorem FV {l:List Int}{a b:Int}(h:bc l a b=true):∀x∈l,a≤x∧x≤b:=by unfold bc at h;rw[Ux]at h;have h:=h.1;exact JK h
theorem N0 {l:List Int}{a b:Int}(h:bc l a b=true)(c:a≤b+1):(l.length:Int)≤b+1-a:=by have hi:=FV h;unfold bc at h;rw[Ux]at h;exact xv a b l a (F4 h.1).1 hi c
theorem CF {c:GCron}(h:jE c=true):bc c.f0 0 59=true∧bc c.f1 0 23=true∧bc c.f2 1 31=true∧bc c.f3 1 12=true∧bc c.f4 0 6=true:=by unfold jE at h;simp only[Ux]at h;exact h
theorem iE {l:List Int}{a b:Int}(h:bc l a b=true)(c:0≤a)(d:a≤b)(e:b≤59):l.length≤60∧∀z∈l,0≤z∧z≤59:=by have:=N0 h (by omega);exact⟨by omega,fun z hz=>by have:=FV h z hz;omega⟩
noncomputable def wQ (c:GCron):ByteArray:=ofTx (iN 32 [tx (aJ c.f0 60),tx (aJ c.f1 24),tx (aJ c.f2 31),tx (aJ c.f3 12),tx (aJ c.f4 7)])
noncomputable def bi (c:GCron):ByteArray×Bool:=cond (jE c) (wQ c,true) (ByteArray.empty,false)
theorem SQ (a b c d e:ByteArray):((((((((a++⟨#[32]⟩)++b)++⟨#[32]⟩)++c)++⟨#[32]⟩)++d)++⟨#[32]⟩)++e:ByteArray)=ofTx (iN 32 [tx a,tx b,tx c,tx d,tx e]):=by apply rI;have f:tx (⟨#[32]⟩:ByteArray)=[32]:=rfl;simp[Qi,f,wD,iN]
theorem SA (c:GCron)(h:ac.sm c):pU c=some (bi c):=by
 unfold pU bi;rw[Ub h];cases q:jE c with
 |false=>rfl
 |true =>
  obtain⟨d,e,f,g,i⟩:=CF q;have a0:=iE d (by decide) (by decide) (by decide);have a:=iE e (by decide) (by decide) (by decide);have a2:=iE f (by decide) (by decide) (by decide);have a3:=iE g (by decide) (by decide) (by decide);have a4:=iE i (by decide) (by decide) (by decide);have z0:=gO a0.1 a0.2 60;have j:=gO a.1 a.2 24;have z2:=gO a2.1 a2.2 31;have z3:=gO a3.1 a3.2 12;have z4:=gO a4.1 a4.2 7;have b:(⟨#[32]⟩:ByteArray).size=1:=rfl;rw[Uo,Uo];simp only[Ub a0.1,Ub a0.2,Ub a.1,Ub a.2,Ub a2.1,Ub a2.2,Ub a3.1,Ub a3.2,Ub a4.1,Ub a4.2,ByteArray.size_append,b,dj];repeat rw[Ub (by omega)]
  rw[SQ];rfl
theorem Rs:∀(l:List Int)(i:Nat)(v:List ByteArray),(∀z∈l,0≤z∧z≤59)→v.length+l.length≤1000→cy l i v=some (.x2 (v++l.map bv))
 |[],i,v,_,_=>by unfold cy;simp
 |x::l,i,v,h,a=>by have b:=h x (by simp);simp only[UK]at a;unfold cy;rw[Ub (by omega),Ub (by simp;omega),Rs l (i+1) _ (fun z hz=>h z (by simp[hz])) (by simp;omega)];simp
theorem rH (l:List Int)(d:l.length≤60)(c:∀z∈l,0≤z∧z≤59)(v:List ByteArray)(hv:v.length≤10)(b:Bool)(n:Int)(hb:b=((l.length:Int)==n))(K:List ByteArray→Option rN):
  cond b
    (if(v.length+([(⟨#[42]⟩:ByteArray)]).length)*16≤140737488355328∧v.length+([(⟨#[42]⟩:ByteArray)]).length≤4611686018427387904 then K (v++([(⟨#[42]⟩:ByteArray)]))else none)
    (if l.length≤9223372036854775807 then(cy l 0 ([])).bind fun y=>match y with
     | .x2 a=>(if a.length≤140737488355328∧(ba a (⟨#[44]⟩:ByteArray)).size≤140737488355328 then if(v.length+([ba a (⟨#[44]⟩:ByteArray)]).length)*16≤140737488355328∧v.length+([ba a (⟨#[44]⟩:ByteArray)]).length≤4611686018427387904 then K (v++([ba a (⟨#[44]⟩:ByteArray)]))else none else none)else none)=K (v++[aJ l n]):=by
 subst hb;have f:ba (l.map bv) ⟨#[44]⟩=ofTx (iN 44 (l.map fun x=>tx (bv x))):=by
  have e:l.map bv=(l.map fun x=>tx (bv x)).map ofTx:=by rw[UW];rfl
  rw[e,xZ]
 unfold aJ;have hz:=gO d c n;unfold aJ at hz;cases q:(l.length:Int)==n with
 |true=>rw[Uo,Ub (by simp;omega),Uo]
 |false =>rw[q,Uu]at hz;rw[Uu,Uu,Ub (by omega),Rs l 0 [] c (by simp;omega),Ua];simp only[UI];rw[f,Ub (by rw[UH];omega),Ub (by simp;omega)]
theorem Sz (c:GCron)(h:ac.sm c):pj c=some (bi c):=by
 unfold pj bi;rw[Ub h];cases q:jE c with
 |false=>rfl
 |true =>
  obtain⟨d,e,f,g,i⟩:=CF q;have a0:=iE d (by decide) (by decide) (by decide);have a:=iE e (by decide) (by decide) (by decide);have a2:=iE f (by decide) (by decide) (by decide);have a3:=iE g (by decide) (by decide) (by decide);have a4:=iE i (by decide) (by decide) (by decide);have z0:=gO a0.1 a0.2 60;have s:=gO a.1 a.2 24;have z2:=gO a2.1 a2.2 31;have z3:=gO a3.1 a3.2 12;have z4:=gO a4.1 a4.2 7;have j:∀n,aM c.f0 c.f1 c.f2 c.f3 c.f4 (n+1) [] 0=aM c.f0 c.f1 c.f2 c.f3 c.f4 n ([]++[aJ c.f0 60]) 1:=fun n =>rH c.f0 a0.1 a0.2 [] (by simp) (pB c.f0 0) 60 rfl fun w=>aM c.f0 c.f1 c.f2 c.f3 c.f4 n w 1
  have k:∀n v,v.length≤10→aM c.f0 c.f1 c.f2 c.f3 c.f4 (n+1) v 1=aM c.f0 c.f1 c.f2 c.f3 c.f4 n (v++[aJ c.f1 24]) 2:=fun n v hv =>rH c.f1 a.1 a.2 v hv (pB c.f1 1) 24 rfl fun w=>aM c.f0 c.f1 c.f2 c.f3 c.f4 n w 2
  have l:∀n v,v.length≤10→aM c.f0 c.f1 c.f2 c.f3 c.f4 (n+1) v 2=aM c.f0 c.f1 c.f2 c.f3 c.f4 n (v++[aJ c.f2 31]) 3:=fun n v hv =>rH c.f2 a2.1 a2.2 v hv (pB c.f2 2) 31 rfl fun w=>aM c.f0 c.f1 c.f2 c.f3 c.f4 n w 3
  have m:∀n v,v.length≤10→aM c.f0 c.f1 c.f2 c.f3 c.f4 (n+1) v 3=aM c.f0 c.f1 c.f2 c.f3 c.f4 n (v++[aJ c.f3 12]) 4:=fun n v hv =>rH c.f3 a3.1 a3.2 v hv (pB c.f3 3) 12 rfl fun w=>aM c.f0 c.f1 c.f2 c.f3 c.f4 n w 4
  have o:∀n v,v.length≤10→aM c.f0 c.f1 c.f2 c.f3 c.f4 (n+1) v 4=aM c.f0 c.f1 c.f2 c.f3 c.f4 n (v++[aJ c.f4 7]) 5:=fun n v hv =>rH c.f4 a4.1 a4.2 v hv (pB c.f4 4) 7 rfl fun w=>aM c.f0 c.f1 c.f2 c.f3 c.f4 n w 5
  have p:∀n v,aM c.f0 c.f1 c.f2 c.f3 c.f4 (n+1) v 5=some (.x0 v):=fun n v=>rfl
  have st:aM c.f0 c.f1 c.f2 c.f3 c.f4 (9223372036854775802+6) [] 0=_:=j _;rw[k _ _ (by simp),l _ _ (by simp),m _ _ (by simp),o _ _ (by simp),p]at st;simp only[UI,Ww]at st;rw[Uo,Uo];refine(Uz (Option.bind · _) st).trans ?_;rw[Ua];have r:ba [aJ c.f0 60,aJ c.f1 24,aJ c.f2 31,aJ c.f3 12,aJ c.f4 7] ⟨#[32]⟩=wQ c:=xZ [tx (aJ c.f0 60),tx (aJ c.f1 24),tx (aJ c.f2 31),tx (aJ c.f3 12),tx (aJ c.f4 7)] 32;have t:(wQ c).size≤2000:=by
   unfold wQ;rw[rE];have:=AT 32 200 [tx (aJ c.f0 60),tx (aJ c.f1 24),tx (aJ c.f2 31),tx (aJ c.f3 12),tx (aJ c.f4 7)] (fun x b=>by simp only[UE,VZ,WI]at b;rcases b with rfl|rfl|rfl|rfl|rfl<;>rw[←dy]<;>assumption);simp only[UK,Wy]at this;omega
  show(if _ then _ else none)=_;rw[r,Ub ⟨by simp,by omega⟩]
theorem fo (x0:GCron)(h:ac.sm x0):Does E 57 [.agg (GCron.t .far x0)] [T4 ((bi x0).1),T3 ((bi x0).2)]:=by exact JR x0 _ (SA x0 h)
theorem yF (x0:GCron)(h:ac.sm x0):Does E 93 [.agg (GCron.t .far x0)] [T4 ((bi x0).1),T3 ((bi x0).2)]:=by exact ID x0 _ (Sz x0 h)
end
end Go.Proofs.YtoanlngmbcnglaaGreatDoor.Am
