/- Rules. -/
import Derived.Test.YtjikhkndmohepaaGreatDoorWords
namespace Go.Proofs.YtjikhkndmohepaaGreatDoor.Am
open Go
set_option linter.unusedVariables false
set_option linter.unusedSimpArgs false
section
open Go.Proofs Classical
set_option maxRecDepth 100000
inductive xr where|ret (v2_0 v2_1 v2_2 v2_3 v2_4:List Int) (v3:Bool)|x0
def jr (v2_0 v2_1 v2_2 v2_3 v2_4 v6_0 v6_1 v6_2 v6_3 v6_4:List Int)(v7:List Bool)(v8:Int):US:=stL 85 [(2,.box () [V7 1 (v2_0.map etI),V7 1 (v2_1.map etI),V7 1 (v2_2.map etI),V7 1 (v2_3.map etI),V7 1 (v2_4.map etI)]),(6,.box () [V7 1 (v6_0.map etI),V7 1 (v6_1.map etI),V7 1 (v6_2.map etI),V7 1 (v6_3.map etI),V7 1 (v6_4.map etI)]),(7,.one (V7 1 (v7.map etB))),(8,V2 v8)]
def oc (a b c d e:List Int)(f:Bool):US:=stL 85 [(2,.box () [V7 1 (a.map etI),V7 1 (b.map etI),V7 1 (c.map etI),V7 1 (d.map etI),V7 1 (e.map etI)]),(3,V3 f)]
def pd (v2_0 v2_1 v2_2 v2_3 v2_4 v6_0 v6_1 v6_2 v6_3 v6_4:List Int):US:=stL 85 [(2,.box () [V7 1 (v2_0.map etI),V7 1 (v2_1.map etI),V7 1 (v2_2.map etI),V7 1 (v2_3.map etI),V7 1 (v2_4.map etI)]),(6,.box () [V7 1 (v6_0.map etI),V7 1 (v6_1.map etI),V7 1 (v6_2.map etI),V7 1 (v6_3.map etI),V7 1 (v6_4.map etI)])]
abbrev rB:US→Exit→US→Prop:=Round E 85 (an Tryz.f85 0)
def FP (v2_0 v2_1 v2_2 v2_3 v2_4 v6_0 v6_1 v6_2 v6_3 v6_4:List Int)(v7:List Bool)(v8:Int):xr→Prop| .ret a b c d e f=>Loops E 85 (an Tryz.f85 0) (jr v2_0 v2_1 v2_2 v2_3 v2_4 v6_0 v6_1 v6_2 v6_3 v6_4 v7 v8) .ret (oc a b c d e f)| .x0=>Loops E 85 (an Tryz.f85 0) (jr v2_0 v2_1 v2_2 v2_3 v2_4 v6_0 v6_1 v6_2 v6_3 v6_4 v7 v8) (.exit 0) (pd v2_0 v2_1 v2_2 v2_3 v2_4 v6_0 v6_1 v6_2 v6_3 v6_4)
noncomputable def jt (v7:List Bool):Nat→Int→Option xr| 0,_=>none|n+1,v8=>cond (decide (v8<(5:Int))) ((ak v7 v8).bind fun a=>cond (a) (jt v7 n (inc v8)) (some (.ret ([]) ([]) ([]) ([]) ([]) false))) (some (.x0))
theorem FO (v2_0 v2_1 v2_2 v2_3 v2_4 v6_0 v6_1 v6_2 v6_3 v6_4:List Int)(v7:List Bool)(n:Nat):∀(v8:Int),Ans (jt v7 n v8) (FP v2_0 v2_1 v2_2 v2_3 v2_4 v6_0 v6_1 v6_2 v6_3 v6_4 v7 v8):=by
 induction n with
 |zero=>intros;exact Ans.none
 |succ n e =>
  intro v8;unfold jt;apply VC<;>intro b
  ·apply VD;intro c a;apply VC<;>intro d
   ·have r:rB (jr v2_0 v2_1 v2_2 v2_3 v2_4 v6_0 v6_1 v6_2 v6_3 v6_4 v7 v8) .normal (jr v2_0 v2_1 v2_2 v2_3 v2_4 v6_0 v6_1 v6_2 v6_3 v6_4 v7 (inc v8)):=RP [.b true,.row ([tB true])] (AC b<|AC (p:=0≤v8∧v8<((v7.map etB).length:Int)) (DX a)<|AC (p:=(v7.map etB)[0+v8.toNat]?=some ([tB true])) ((wZ a).trans (Wy some (show [tB c]=[tB true] by rw[d])))<|AN);exact(e (inc v8)).mono fun y f=>by cases y<;>exact VA r f
   ·exact Vz (VB (show rB (jr v2_0 v2_1 v2_2 v2_3 v2_4 v6_0 v6_1 v6_2 v6_3 v6_4 v7 v8) .ret (oc ([]) ([]) ([]) ([]) ([]) false)from RP [.b true,.row ([tB false])] (AC b<|AC (p:=0≤v8∧v8<((v7.map etB).length:Int)) (DX a)<|AC (p:=(v7.map etB)[0+v8.toNat]?=some ([tB false])) ((wZ a).trans (Wy some (show [tB c]=[tB false] by rw[d])))<|AN)) (by intro h;cases h))
  ·exact Vz (VB (show rB (jr v2_0 v2_1 v2_2 v2_3 v2_4 v6_0 v6_1 v6_2 v6_3 v6_4 v7 v8) (.exit 0) (pd v2_0 v2_1 v2_2 v2_3 v2_4 v6_0 v6_1 v6_2 v6_3 v6_4)from RP [.b false] (AC b<|AN)) (by intro h;cases h))
noncomputable def oP (f:Y9):Option (GCron×Bool):=
  cond ((aS f).2)
   (cond ((((aS f).1).length:Int) != 5)
    (some ((GCron.mk ([]:List Int) ([]:List Int) ([]:List Int) ([]:List Int) ([]:List Int)),false))
    (if 0≤(5:Int)∧(5:Int)≤(5:Int)∧((1:Nat):Int)*(5:Int)≤281474976710656∧(5:Int)≤4611686018427387904 then(ak ((aS f).1) 0).bind fun g=>if g.size≤2000000 then if 0≤(0:Int)∧(0:Int)≤(59:Int)∧(59:Int)≤59 then(ak (List.replicate (5:Int).toNat false) 0).bind fun g1=>(ak ((aS f).1) 1).bind fun h=>if h.size≤2000000 then if 0≤(0:Int)∧(0:Int)≤(23:Int)∧(23:Int)≤59 then(ak ((List.replicate (5:Int).toNat false).set (0:Int).toNat ((ai g 0 59).2)) 1).bind fun g3=>(ak ((aS f).1) 2).bind fun g4=>if g4.size≤2000000 then if 0≤(1:Int)∧(1:Int)≤(31:Int)∧(31:Int)≤59 then(ak (((List.replicate (5:Int).toNat false).set (0:Int).toNat ((ai g 0 59).2)).set (1:Int).toNat ((ai h 0 23).2)) 2).bind fun l=>(ak ((aS f).1) 3).bind fun j=>if j.size≤2000000 then if 0≤(1:Int)∧(1:Int)≤(12:Int)∧(12:Int)≤59 then(ak ((((List.replicate (5:Int).toNat false).set (0:Int).toNat ((ai g 0 59).2)).set (1:Int).toNat ((ai h 0 23).2)).set (2:Int).toNat ((ai g4 1 31).2)) 3).bind fun m=>(ak ((aS f).1) 4).bind fun k=>if k.size≤2000000 then if 0≤(0:Int)∧(0:Int)≤(6:Int)∧(6:Int)≤59 then(ak (((((List.replicate (5:Int).toNat false).set (0:Int).toNat ((ai g 0 59).2)).set (1:Int).toNat ((ai h 0 23).2)).set (2:Int).toNat ((ai g4 1 31).2)).set (3:Int).toNat ((ai j 1 12).2)) 4).bind fun n=>(jt ((((((List.replicate (5:Int).toNat false).set (0:Int).toNat ((ai g 0 59).2)).set (1:Int).toNat ((ai h 0 23).2)).set (2:Int).toNat ((ai g4 1 31).2)).set (3:Int).toNat ((ai j 1 12).2)).set (4:Int).toNat ((ai k 0 6).2)) 9223372036854775808 0).bind fun y=>match y with
     | .ret a b c d e i=>(some ((GCron.mk a b c d e),i))
     | .x0=>(some ((GCron.mk ((ai g 0 59).1) ((ai h 0 23).1) ((ai g4 1 31).1) ((ai j 1 12).1) ((ai k 0 6).1)),true))else none else none else none else none else none else none else none else none else none else none else none))
   (some ((GCron.mk ([]:List Int) ([]:List Int) ([]:List Int) ([]:List Int) ([]:List Int)),false))
theorem Ih (x0:Y9):Ans (oP x0) (fun r=>Does E 85 [V4 x0] [(true,VJ .own r.1),VY r.2]):=by
 unfold oP;apply VC<;>intro B
 ·apply VC<;>intro H
  ·exact Vz (DP Tryz.f85 [.ret [(false,[V7 1 (((aS x0).1).map etS)]),VY true],V5 (((aS x0).1).length:Int),.b true] (AD (oz x0 B)<|ALn ((aS x0).1) etS<|AC H<|AN))
  ·apply VE;intro I;apply VD;intro a J;apply VE;intro K;apply VE;intro L;apply VD;intro g1 M;apply VD;intro b N;apply VE;intro O;apply VE;intro P;apply VD;intro g3 k;apply VD;intro g4 l;apply VE;intro m;apply VE;intro n;apply VD;intro C o;apply VD;intro c q;apply VE;intro s;apply VE;intro t;apply VD;intro D u;apply VD;intro d v;apply VE;intro w;apply VE;intro x;apply VD;intro F z;apply VD;intro y G;replace G:=FO ([]) ([]) ([]) ([]) ([]) ((ai a 0 59).1) ((ai b 0 23).1) ((ai g4 1 31).1) ((ai c 1 12).1) ((ai d 0 6).1) ((((((List.replicate (5:Int).toNat false).set (0:Int).toNat ((ai a 0 59).2)).set (1:Int).toNat ((ai b 0 23).2)).set (2:Int).toNat ((ai g4 1 31).2)).set (3:Int).toNat ((ai c 1 12).2)).set (4:Int).toNat ((ai d 0 6).2)) 9223372036854775808 0 y G;cases y with
   |ret e f g h i A =>have j:=G;exact Vz (DP Tryz.f85 [.ret [(false,[V7 1 (((aS x0).1).map etS)]),VY true],V5 (((aS x0).1).length:Int),.b false,.rows ((List.replicate (5:Int).toNat false).map etB),.row (etS a),.ret [(false,[V7 1 (((ai a 0 59).1).map etI)]),VY ((ai a 0 59).2)],.row (etB g1),.rows (((List.replicate (5:Int).toNat false).set (0:Int).toNat ((ai a 0 59).2)).map etB),.row (etS b),.ret [(false,[V7 1 (((ai b 0 23).1).map etI)]),VY ((ai b 0 23).2)],.row (etB g3),.rows ((((List.replicate (5:Int).toNat false).set (0:Int).toNat ((ai a 0 59).2)).set (1:Int).toNat ((ai b 0 23).2)).map etB),.row (etS g4),.ret [(false,[V7 1 (((ai g4 1 31).1).map etI)]),VY ((ai g4 1 31).2)],.row (etB C),.rows (((((List.replicate (5:Int).toNat false).set (0:Int).toNat ((ai a 0 59).2)).set (1:Int).toNat ((ai b 0 23).2)).set (2:Int).toNat ((ai g4 1 31).2)).map etB),.row (etS c),.ret [(false,[V7 1 (((ai c 1 12).1).map etI)]),VY ((ai c 1 12).2)],.row (etB D),.rows ((((((List.replicate (5:Int).toNat false).set (0:Int).toNat ((ai a 0 59).2)).set (1:Int).toNat ((ai b 0 23).2)).set (2:Int).toNat ((ai g4 1 31).2)).set (3:Int).toNat ((ai c 1 12).2)).map etB),.row (etS d),.ret [(false,[V7 1 (((ai d 0 6).1).map etI)]),VY ((ai d 0 6).2)],.row (etB F),.rows (((((((List.replicate (5:Int).toNat false).set (0:Int).toNat ((ai a 0 59).2)).set (1:Int).toNat ((ai b 0 23).2)).set (2:Int).toNat ((ai g4 1 31).2)).set (3:Int).toNat ((ai c 1 12).2)).set (4:Int).toNat ((ai d 0 6).2)).map etB),.lp .ret (oc e f g h i A)] (AD (oz x0 B)<|ALn ((aS x0).1) etS<|AC H<|AC I<|AC (p:=List.replicate (5:Int).toNat [tB false]=(List.replicate (5:Int).toNat false).map etB) (ov rfl)<|AG etS J<|AD (fa a 0 59 K L)<|AG etB M<|AC (p:=((List.replicate (5:Int).toNat false).map etB).set (0+(0:Int).toNat) (aD (etB g1) 0 [tB ((ai a 0 59).2)])=((List.replicate (5:Int).toNat false).set (0:Int).toNat ((ai a 0 59).2)).map etB) (ik (by rfl))<|AG etS N<|AD (fa b 0 23 O P)<|AG etB k<|AC (p:=(((List.replicate (5:Int).toNat false).set (0:Int).toNat ((ai a 0 59).2)).map etB).set (0+(1:Int).toNat) (aD (etB g3) 0 [tB ((ai b 0 23).2)])=(((List.replicate (5:Int).toNat false).set (0:Int).toNat ((ai a 0 59).2)).set (1:Int).toNat ((ai b 0 23).2)).map etB) (ik (by rfl))<|AG etS l<|AD (fa g4 1 31 m n)<|AG etB o<|AC (p:=((((List.replicate (5:Int).toNat false).set (0:Int).toNat ((ai a 0 59).2)).set (1:Int).toNat ((ai b 0 23).2)).map etB).set (0+(2:Int).toNat) (aD (etB C) 0 [tB ((ai g4 1 31).2)])=((((List.replicate (5:Int).toNat false).set (0:Int).toNat ((ai a 0 59).2)).set (1:Int).toNat ((ai b 0 23).2)).set (2:Int).toNat ((ai g4 1 31).2)).map etB) (ik (by rfl))<|AG etS q<|AD (fa c 1 12 s t)<|AG etB u<|AC (p:=(((((List.replicate (5:Int).toNat false).set (0:Int).toNat ((ai a 0 59).2)).set (1:Int).toNat ((ai b 0 23).2)).set (2:Int).toNat ((ai g4 1 31).2)).map etB).set (0+(3:Int).toNat) (aD (etB D) 0 [tB ((ai c 1 12).2)])=(((((List.replicate (5:Int).toNat false).set (0:Int).toNat ((ai a 0 59).2)).set (1:Int).toNat ((ai b 0 23).2)).set (2:Int).toNat ((ai g4 1 31).2)).set (3:Int).toNat ((ai c 1 12).2)).map etB) (ik (by rfl))<|AG etS v<|AD (fa d 0 6 w x)<|AG etB z<|AC (p:=((((((List.replicate (5:Int).toNat false).set (0:Int).toNat ((ai a 0 59).2)).set (1:Int).toNat ((ai b 0 23).2)).set (2:Int).toNat ((ai g4 1 31).2)).set (3:Int).toNat ((ai c 1 12).2)).map etB).set (0+(4:Int).toNat) (aD (etB F) 0 [tB ((ai d 0 6).2)])=((((((List.replicate (5:Int).toNat false).set (0:Int).toNat ((ai a 0 59).2)).set (1:Int).toNat ((ai b 0 23).2)).set (2:Int).toNat ((ai g4 1 31).2)).set (3:Int).toNat ((ai c 1 12).2)).set (4:Int).toNat ((ai d 0 6).2)).map etB) (ik (by rfl))<|AL j<|AN))
   |x0 =>have j:=G;exact Vz (DP Tryz.f85 [.ret [(false,[V7 1 (((aS x0).1).map etS)]),VY true],V5 (((aS x0).1).length:Int),.b false,.rows ((List.replicate (5:Int).toNat false).map etB),.row (etS a),.ret [(false,[V7 1 (((ai a 0 59).1).map etI)]),VY ((ai a 0 59).2)],.row (etB g1),.rows (((List.replicate (5:Int).toNat false).set (0:Int).toNat ((ai a 0 59).2)).map etB),.row (etS b),.ret [(false,[V7 1 (((ai b 0 23).1).map etI)]),VY ((ai b 0 23).2)],.row (etB g3),.rows ((((List.replicate (5:Int).toNat false).set (0:Int).toNat ((ai a 0 59).2)).set (1:Int).toNat ((ai b 0 23).2)).map etB),.row (etS g4),.ret [(false,[V7 1 (((ai g4 1 31).1).map etI)]),VY ((ai g4 1 31).2)],.row (etB C),.rows (((((List.replicate (5:Int).toNat false).set (0:Int).toNat ((ai a 0 59).2)).set (1:Int).toNat ((ai b 0 23).2)).set (2:Int).toNat ((ai g4 1 31).2)).map etB),.row (etS c),.ret [(false,[V7 1 (((ai c 1 12).1).map etI)]),VY ((ai c 1 12).2)],.row (etB D),.rows ((((((List.replicate (5:Int).toNat false).set (0:Int).toNat ((ai a 0 59).2)).set (1:Int).toNat ((ai b 0 23).2)).set (2:Int).toNat ((ai g4 1 31).2)).set (3:Int).toNat ((ai c 1 12).2)).map etB),.row (etS d),.ret [(false,[V7 1 (((ai d 0 6).1).map etI)]),VY ((ai d 0 6).2)],.row (etB F),.rows (((((((List.replicate (5:Int).toNat false).set (0:Int).toNat ((ai a 0 59).2)).set (1:Int).toNat ((ai b 0 23).2)).set (2:Int).toNat ((ai g4 1 31).2)).set (3:Int).toNat ((ai c 1 12).2)).set (4:Int).toNat ((ai d 0 6).2)).map etB),.lp (.exit 0) (pd ([]) ([]) ([]) ([]) ([]) ((ai a 0 59).1) ((ai b 0 23).1) ((ai g4 1 31).1) ((ai c 1 12).1) ((ai d 0 6).1))] (AD (oz x0 B)<|ALn ((aS x0).1) etS<|AC H<|AC I<|AC (p:=List.replicate (5:Int).toNat [tB false]=(List.replicate (5:Int).toNat false).map etB) (ov rfl)<|AG etS J<|AD (fa a 0 59 K L)<|AG etB M<|AC (p:=((List.replicate (5:Int).toNat false).map etB).set (0+(0:Int).toNat) (aD (etB g1) 0 [tB ((ai a 0 59).2)])=((List.replicate (5:Int).toNat false).set (0:Int).toNat ((ai a 0 59).2)).map etB) (ik (by rfl))<|AG etS N<|AD (fa b 0 23 O P)<|AG etB k<|AC (p:=(((List.replicate (5:Int).toNat false).set (0:Int).toNat ((ai a 0 59).2)).map etB).set (0+(1:Int).toNat) (aD (etB g3) 0 [tB ((ai b 0 23).2)])=(((List.replicate (5:Int).toNat false).set (0:Int).toNat ((ai a 0 59).2)).set (1:Int).toNat ((ai b 0 23).2)).map etB) (ik (by rfl))<|AG etS l<|AD (fa g4 1 31 m n)<|AG etB o<|AC (p:=((((List.replicate (5:Int).toNat false).set (0:Int).toNat ((ai a 0 59).2)).set (1:Int).toNat ((ai b 0 23).2)).map etB).set (0+(2:Int).toNat) (aD (etB C) 0 [tB ((ai g4 1 31).2)])=((((List.replicate (5:Int).toNat false).set (0:Int).toNat ((ai a 0 59).2)).set (1:Int).toNat ((ai b 0 23).2)).set (2:Int).toNat ((ai g4 1 31).2)).map etB) (ik (by rfl))<|AG etS q<|AD (fa c 1 12 s t)<|AG etB u<|AC (p:=(((((List.replicate (5:Int).toNat false).set (0:Int).toNat ((ai a 0 59).2)).set (1:Int).toNat ((ai b 0 23).2)).set (2:Int).toNat ((ai g4 1 31).2)).map etB).set (0+(3:Int).toNat) (aD (etB D) 0 [tB ((ai c 1 12).2)])=(((((List.replicate (5:Int).toNat false).set (0:Int).toNat ((ai a 0 59).2)).set (1:Int).toNat ((ai b 0 23).2)).set (2:Int).toNat ((ai g4 1 31).2)).set (3:Int).toNat ((ai c 1 12).2)).map etB) (ik (by rfl))<|AG etS v<|AD (fa d 0 6 w x)<|AG etB z<|AC (p:=((((((List.replicate (5:Int).toNat false).set (0:Int).toNat ((ai a 0 59).2)).set (1:Int).toNat ((ai b 0 23).2)).set (2:Int).toNat ((ai g4 1 31).2)).set (3:Int).toNat ((ai c 1 12).2)).map etB).set (0+(4:Int).toNat) (aD (etB F) 0 [tB ((ai d 0 6).2)])=((((((List.replicate (5:Int).toNat false).set (0:Int).toNat ((ai a 0 59).2)).set (1:Int).toNat ((ai b 0 23).2)).set (2:Int).toNat ((ai g4 1 31).2)).set (3:Int).toNat ((ai c 1 12).2)).set (4:Int).toNat ((ai d 0 6).2)).map etB) (ik (by rfl))<|AL j<|AN))
 ·exact Vz (DP Tryz.f85 [.ret [(false,[V7 1 (((aS x0).1).map etS)]),VY false]] (AD (oz x0 B)<|AN))
inductive w9 where|ret (v2_0 v2_1 v2_2 v2_3 v2_4:List Int) (v3:Bool)|x0 (v6_0 v6_1 v6_2 v6_3 v6_4:List Int)
def bG (v2_0 v2_1 v2_2 v2_3 v2_4:List Int)(v4:List Y9)(v6_0 v6_1 v6_2 v6_3 v6_4:List Int)(a:Int):US:=stL 46 [(2,.box () [V7 1 (v2_0.map etI),V7 1 (v2_1.map etI),V7 1 (v2_2.map etI),V7 1 (v2_3.map etI),V7 1 (v2_4.map etI)]),(4,.one (V7 1 (v4.map etS))),(6,.box () [V7 1 (v6_0.map etI),V7 1 (v6_1.map etI),V7 1 (v6_2.map etI),V7 1 (v6_3.map etI),V7 1 (v6_4.map etI)]),(24,.clo (.arr [0,1,2,3,4]) [6,6,6,6,6]),(25,V2 a)]
def eT (a b c d e:List Int)(f:Bool):US:=stL 46 [(2,.box () [V7 1 (a.map etI),V7 1 (b.map etI),V7 1 (c.map etI),V7 1 (d.map etI),V7 1 (e.map etI)]),(3,V3 f)]
def o5 (v2_0 v2_1 v2_2 v2_3 v2_4 a b c d e:List Int):US:=stL 46 [(2,.box () [V7 1 (v2_0.map etI),V7 1 (v2_1.map etI),V7 1 (v2_2.map etI),V7 1 (v2_3.map etI),V7 1 (v2_4.map etI)]),(6,.box () [V7 1 (a.map etI),V7 1 (b.map etI),V7 1 (c.map etI),V7 1 (d.map etI),V7 1 (e.map etI)])]
abbrev db:US→Exit→US→Prop:=Round E 112 (an Tryz.f112 0)
def Ft (v2_0 v2_1 v2_2 v2_3 v2_4:List Int)(v4:List Y9)(v6_0 v6_1 v6_2 v6_3 v6_4:List Int)(k:Int):w9→Prop| .ret a b c d e l=>Loops E 112 (an Tryz.f112 0) (bG v2_0 v2_1 v2_2 v2_3 v2_4 v4 v6_0 v6_1 v6_2 v6_3 v6_4 k) .ret (eT a b c d e l)| .x0 f g h i j=>Loops E 112 (an Tryz.f112 0) (bG v2_0 v2_1 v2_2 v2_3 v2_4 v4 v6_0 v6_1 v6_2 v6_3 v6_4 k) (.exit 0) (o5 v2_0 v2_1 v2_2 v2_3 v2_4 f g h i j)
noncomputable def aU (v4:List Y9):Nat→(List Int)→(List Int)→(List Int)→(List Int)→(List Int)→Int→Option w9| 0,_,_,_,_,_,_=>none|n+1,v6_0,v6_1,v6_2,v6_3,v6_4,a=>cond (decide (a<(5:Int))) (cond (a==(0:Int)) ((ak v4 a).bind fun b=>if b.size≤2000000 then cond ((aW b a).2) (aU v4 n ((aW b a).1) v6_1 v6_2 v6_3 v6_4 (inc a)) (some (.ret ([]) ([]) ([]) ([]) ([]) false))else none) (cond (a==(1:Int)) ((ak v4 a).bind fun b=>if b.size≤2000000 then cond ((aW b a).2) (aU v4 n v6_0 ((aW b a).1) v6_2 v6_3 v6_4 (inc a)) (some (.ret ([]) ([]) ([]) ([]) ([]) false))else none) (cond (a==(2:Int)) ((ak v4 a).bind fun b=>if b.size≤2000000 then cond ((aW b a).2) (aU v4 n v6_0 v6_1 ((aW b a).1) v6_3 v6_4 (inc a)) (some (.ret ([]) ([]) ([]) ([]) ([]) false))else none) (cond (a==(3:Int)) ((ak v4 a).bind fun b=>if b.size≤2000000 then cond ((aW b a).2) (aU v4 n v6_0 v6_1 v6_2 ((aW b a).1) v6_4 (inc a)) (some (.ret ([]) ([]) ([]) ([]) ([]) false))else none) (if a=(4:Int)then(ak v4 a).bind fun b=>if b.size≤2000000 then cond ((aW b a).2) (aU v4 n v6_0 v6_1 v6_2 v6_3 ((aW b a).1) (inc a)) (some (.ret ([]) ([]) ([]) ([]) ([]) false))else none else none))))) (some (.x0 v6_0 v6_1 v6_2 v6_3 v6_4))
theorem Fq (v2_0 v2_1 v2_2 v2_3 v2_4:List Int)(v4:List Y9)(n:Nat):∀(v6_0 v6_1 v6_2 v6_3 v6_4:List Int)(a:Int),Ans (aU v4 n v6_0 v6_1 v6_2 v6_3 v6_4 a) (Ft v2_0 v2_1 v2_2 v2_3 v2_4 v4 v6_0 v6_1 v6_2 v6_3 v6_4 a):=by
 induction n with
 |zero=>intros;exact Ans.none
 |succ n j =>
  intro v6_0 v6_1 v6_2 v6_3 v6_4 a;unfold aU;apply VC<;>intro c
  ·apply VC<;>intro m
   ·apply VD;intro b k;apply VE;intro g;apply VC<;>intro d
    ·have r:db (bG v2_0 v2_1 v2_2 v2_3 v2_4 v4 v6_0 v6_1 v6_2 v6_3 v6_4 a) .normal (bG v2_0 v2_1 v2_2 v2_3 v2_4 v4 ((aW b a).1) v6_1 v6_2 v6_3 v6_4 (inc a)):=RP [.b true,V5 0,.row (etS b),.ret [(false,[V7 1 (((aW b a).1).map etI)]),VY true]] (AC c<|AC (p:=a=(0:Int)) (eq_of_beq m)<|AG etS k<|AD (cM b a g d)<|AN);exact(j ((aW b a).1) v6_1 v6_2 v6_3 v6_4 (inc a)).mono fun y f=>by cases y<;>exact VA r f
    ·exact Vz (VB (show db (bG v2_0 v2_1 v2_2 v2_3 v2_4 v4 v6_0 v6_1 v6_2 v6_3 v6_4 a) .ret (eT ([]) ([]) ([]) ([]) ([]) false)from RP [.b true,V5 0,.row (etS b),.ret [(false,[V7 1 (((aW b a).1).map etI)]),VY false]] (AC c<|AC (p:=a=(0:Int)) (eq_of_beq m)<|AG etS k<|AD (cM b a g d)<|AN)) (by intro h;cases h))
   ·apply VC<;>intro k
    ·apply VD;intro b g;apply VE;intro d;apply VC<;>intro e
     ·have r:db (bG v2_0 v2_1 v2_2 v2_3 v2_4 v4 v6_0 v6_1 v6_2 v6_3 v6_4 a) .normal (bG v2_0 v2_1 v2_2 v2_3 v2_4 v4 v6_0 ((aW b a).1) v6_2 v6_3 v6_4 (inc a)):=RP [.b true,V5 1,.row (etS b),.ret [(false,[V7 1 (((aW b a).1).map etI)]),VY true]] (AC c<|AC (p:=a=(1:Int)) (eq_of_beq k)<|AG etS g<|AD (cM b a d e)<|AN);exact(j v6_0 ((aW b a).1) v6_2 v6_3 v6_4 (inc a)).mono fun y f=>by cases y<;>exact VA r f
     ·exact Vz (VB (show db (bG v2_0 v2_1 v2_2 v2_3 v2_4 v4 v6_0 v6_1 v6_2 v6_3 v6_4 a) .ret (eT ([]) ([]) ([]) ([]) ([]) false)from RP [.b true,V5 1,.row (etS b),.ret [(false,[V7 1 (((aW b a).1).map etI)]),VY false]] (AC c<|AC (p:=a=(1:Int)) (eq_of_beq k)<|AG etS g<|AD (cM b a d e)<|AN)) (by intro h;cases h))
    ·apply VC<;>intro g
     ·apply VD;intro b d;apply VE;intro e;apply VC<;>intro i
      ·have r:db (bG v2_0 v2_1 v2_2 v2_3 v2_4 v4 v6_0 v6_1 v6_2 v6_3 v6_4 a) .normal (bG v2_0 v2_1 v2_2 v2_3 v2_4 v4 v6_0 v6_1 ((aW b a).1) v6_3 v6_4 (inc a)):=RP [.b true,V5 2,.row (etS b),.ret [(false,[V7 1 (((aW b a).1).map etI)]),VY true]] (AC c<|AC (p:=a=(2:Int)) (eq_of_beq g)<|AG etS d<|AD (cM b a e i)<|AN);exact(j v6_0 v6_1 ((aW b a).1) v6_3 v6_4 (inc a)).mono fun y f=>by cases y<;>exact VA r f
      ·exact Vz (VB (show db (bG v2_0 v2_1 v2_2 v2_3 v2_4 v4 v6_0 v6_1 v6_2 v6_3 v6_4 a) .ret (eT ([]) ([]) ([]) ([]) ([]) false)from RP [.b true,V5 2,.row (etS b),.ret [(false,[V7 1 (((aW b a).1).map etI)]),VY false]] (AC c<|AC (p:=a=(2:Int)) (eq_of_beq g)<|AG etS d<|AD (cM b a e i)<|AN)) (by intro h;cases h))
     ·apply VC<;>intro d
      ·apply VD;intro b e;apply VE;intro i;apply VC<;>intro l
       ·have r:db (bG v2_0 v2_1 v2_2 v2_3 v2_4 v4 v6_0 v6_1 v6_2 v6_3 v6_4 a) .normal (bG v2_0 v2_1 v2_2 v2_3 v2_4 v4 v6_0 v6_1 v6_2 ((aW b a).1) v6_4 (inc a)):=RP [.b true,V5 3,.row (etS b),.ret [(false,[V7 1 (((aW b a).1).map etI)]),VY true]] (AC c<|AC (p:=a=(3:Int)) (eq_of_beq d)<|AG etS e<|AD (cM b a i l)<|AN);exact(j v6_0 v6_1 v6_2 ((aW b a).1) v6_4 (inc a)).mono fun y f=>by cases y<;>exact VA r f
       ·exact Vz (VB (show db (bG v2_0 v2_1 v2_2 v2_3 v2_4 v4 v6_0 v6_1 v6_2 v6_3 v6_4 a) .ret (eT ([]) ([]) ([]) ([]) ([]) false)from RP [.b true,V5 3,.row (etS b),.ret [(false,[V7 1 (((aW b a).1).map etI)]),VY false]] (AC c<|AC (p:=a=(3:Int)) (eq_of_beq d)<|AG etS e<|AD (cM b a i l)<|AN)) (by intro h;cases h))
      ·apply VE;intro e;apply VD;intro b i;apply VE;intro l;apply VC<;>intro o
       ·have r:db (bG v2_0 v2_1 v2_2 v2_3 v2_4 v4 v6_0 v6_1 v6_2 v6_3 v6_4 a) .normal (bG v2_0 v2_1 v2_2 v2_3 v2_4 v4 v6_0 v6_1 v6_2 v6_3 ((aW b a).1) (inc a)):=RP [.b true,V5 4,.row (etS b),.ret [(false,[V7 1 (((aW b a).1).map etI)]),VY true]] (AC c<|AC e<|AG etS i<|AD (cM b a l o)<|AN);exact(j v6_0 v6_1 v6_2 v6_3 ((aW b a).1) (inc a)).mono fun y f=>by cases y<;>exact VA r f
       ·exact Vz (VB (show db (bG v2_0 v2_1 v2_2 v2_3 v2_4 v4 v6_0 v6_1 v6_2 v6_3 v6_4 a) .ret (eT ([]) ([]) ([]) ([]) ([]) false)from RP [.b true,V5 4,.row (etS b),.ret [(false,[V7 1 (((aW b a).1).map etI)]),VY false]] (AC c<|AC e<|AG etS i<|AD (cM b a l o)<|AN)) (by intro h;cases h))
  ·exact Vz (VB (show db (bG v2_0 v2_1 v2_2 v2_3 v2_4 v4 v6_0 v6_1 v6_2 v6_3 v6_4 a) (.exit 0) (o5 v2_0 v2_1 v2_2 v2_3 v2_4 v6_0 v6_1 v6_2 v6_3 v6_4)from RP [.b false] (AC c<|AN)) (by intro h;cases h))
noncomputable def oD (l:Y9):Option (GCron×Bool):=
  cond ((aS l).2)
   (cond ((((aS l).1).length:Int) != 5)
    (some ((GCron.mk ([]:List Int) ([]:List Int) ([]:List Int) ([]:List Int) ([]:List Int)),false))
    ((aU ((aS l).1) 9223372036854775808 ([]) ([]) ([]) ([]) ([]) 0).bind fun y=>match y with
     | .ret a b c d e k=>(some ((GCron.mk a b c d e),k))
     | .x0 f g h i j=>(some ((GCron.mk f g h i j),true))))
   (some ((GCron.mk ([]:List Int) ([]:List Int) ([]:List Int) ([]:List Int) ([]:List Int)),false))
theorem HI (x0:Y9):Ans (oD x0) (fun r=>Does E 112 [V4 x0] [(true,VJ .own r.1),VY r.2]):=by
 unfold oD;apply VC<;>intro l
 ·apply VC<;>intro n
  ·exact Vz (DP Tryz.f112 [.ret [(false,[V7 1 (((aS x0).1).map etS)]),VY true],V5 (((aS x0).1).length:Int),.b true] (AD (oy x0 l)<|ALn ((aS x0).1) etS<|AC n<|AN))
  ·apply VD;intro y m;replace m:=Fq ([]) ([]) ([]) ([]) ([]) ((aS x0).1) 9223372036854775808 ([]) ([]) ([]) ([]) ([]) 0 y m;cases y with
   |ret a b c d e k =>have o:=m;exact Vz (DP Tryz.f112 [.ret [(false,[V7 1 (((aS x0).1).map etS)]),VY true],V5 (((aS x0).1).length:Int),.b false,.lp .ret (eT a b c d e k)] (AD (oy x0 l)<|ALn ((aS x0).1) etS<|AC n<|AL o<|AN))
   |x0 f g h i j =>have o:=m;exact Vz (DP Tryz.f112 [.ret [(false,[V7 1 (((aS x0).1).map etS)]),VY true],V5 (((aS x0).1).length:Int),.b false,.lp (.exit 0) (o5 ([]) ([]) ([]) ([]) ([]) f g h i j)] (AD (oy x0 l)<|ALn ((aS x0).1) etS<|AC n<|AL o<|AN))
 ·exact Vz (DP Tryz.f112 [.ret [(false,[V7 1 (((aS x0).1).map etS)]),VY false]] (AD (oy x0 l)<|AN))
def noCron:GCron:=⟨[],[],[],[],[]⟩
noncomputable def xN (a b c d e:Y9):GCron×Bool :=cond (ai a 0 59).2 (cond (ai b 0 23).2 (cond (ai c 1 31).2 (cond (ai d 1 12).2 (cond (ai e 0 6).2 (⟨(ai a 0 59).1,(ai b 0 23).1,(ai c 1 31).1,(ai d 1 12).1,(ai e 0 6).1⟩,true) (noCron,false)) (noCron,false)) (noCron,false)) (noCron,false)) (noCron,false)
noncomputable def Jo:List Y9→GCron×Bool|[a,b,c,d,e]=>xN a b c d e|_=>(noCron,false)
noncomputable def ay (s:Y9):GCron×Bool:=Jo (aS s).1
theorem Ez {s:Y9}(h:(aS s).2=false):(aS s).1=[]:=by
 unfold aS at h ⊢;split
 ·rfl
 ·rename_i a;rw[Wo a]at h;split
  ·rename_i b;rw[Wa b]at h;split
   ·rfl
   ·rename_i c;rw[Wo c]at h;cases h
  ·rfl
theorem Sy {α:Type}{l:List α}(h:l.length=5):∃a b c d e,l=[a,b,c,d,e]:=by
 match l,h with
 |[a,b,c,d,e],_=>exact⟨a,b,c,d,e,rfl⟩
theorem zU {l:List Y9}(h:l.length≠5):Jo l=(noCron,false):=by
 unfold Jo;split
 ·exact absurd rfl h
 ·rfl
theorem Ub (a b c d e:Bool)(n:Nat):jt [a,b,c,d,e] (n+6) 0=some (cond a (cond b (cond c (cond d (cond e .x0 (.ret [] [] [] [] [] false)) (.ret [] [] [] [] [] false)) (.ret [] [] [] [] [] false)) (.ret [] [] [] [] [] false)) (.ret [] [] [] [] [] false)):=by cases a<;>cases b<;>cases c<;>cases d<;>cases e<;>rfl
theorem TA (s:Y9):oP s=some (ay s):=by
 unfold oP ay;cases q:(aS s).2 with
 |false =>rw[Ez q];rfl
 |true =>
  rw[Wn];by_cases h:(aS s).1.length=5
  ·obtain⟨a,b,c,d,e,i⟩:=Sy h;have f:∀p∈[a,b,c,d,e],p.size≤2000000:=fun p j=>by rw[←i]at j;have:=wx j;omega
   have k:(a.size≤2000000)=True:=Yb (f a (by simp));have hb:(b.size≤2000000)=True:=Yb (f b (by simp));have hc:(c.size≤2000000)=True:=Yb (f c (by simp));have hd:(d.size≤2000000)=True:=Yb (f d (by simp));have l:(e.size≤2000000)=True:=Yb (f e (by simp));have g:((([a,b,c,d,e]:List Y9).length:Int) != 5)=false:=rfl;rw[i,g,Wu,Wa (by decide)];have m:ak [a,b,c,d,e] (0:Int)=some a:=rfl;have g1:ak [a,b,c,d,e] (1:Int)=some b:=rfl;have n:ak [a,b,c,d,e] (2:Int)=some c:=rfl;have g3:ak [a,b,c,d,e] (3:Int)=some d:=rfl;have g4:ak [a,b,c,d,e] (4:Int)=some e:=rfl;have o:((0:Int)≤0∧(0:Int)≤59∧(59:Int)≤59)=True:=Yb (by decide);have r:((0:Int)≤0∧(0:Int)≤23∧(23:Int)≤59)=True:=Yb (by decide);have t:((0:Int)≤1∧(1:Int)≤31∧(31:Int)≤59)=True:=Yb (by decide);have u:((0:Int)≤1∧(1:Int)≤12∧(12:Int)≤59)=True:=Yb (by decide);have v:((0:Int)≤0∧(0:Int)≤6∧(6:Int)≤59)=True:=Yb (by decide);simp only[m,g1,n,g3,g4,V9,k,hb,hc,hd,l,o,r,t,u,v,WN];show(jt [(ai a 0 59).2,(ai b 0 23).2,(ai c 1 31).2,(ai d 1 12).2,(ai e 0 6).2] (9223372036854775802+6) 0).bind _=some (xN a b c d e);rw[Ub];unfold xN;cases(ai a 0 59).2<;>cases(ai b 0 23).2<;>cases(ai c 1 31).2<;>cases(ai d 1 12).2<;>cases(ai e 0 6).2<;>rfl
  ·have g:(((aS s).1.length:Int) != 5)=true:=by rw[Y7];omega
   rw[g,Wn,zU h];rfl
theorem Tz (s:Y9):oD s=some (ay s):=by
 unfold oD ay;cases q:(aS s).2 with
 |false =>rw[Ez q];rfl
 |true =>
  rw[Wn];by_cases h:(aS s).1.length=5
  ·obtain⟨a,b,c,d,e,i⟩:=Sy h;have f:∀p∈[a,b,c,d,e],p.size≤2000000:=fun p j=>by rw[←i]at j;have:=wx j;omega
   have g:((([a,b,c,d,e]:List Y9).length:Int) != 5)=false:=rfl;rw[i,g,Wu];have k:∀n v0 v1 v2 v3 v4,aU [a,b,c,d,e] (n+1) v0 v1 v2 v3 v4 0=cond (ai a 0 59).2 (aU [a,b,c,d,e] n (ai a 0 59).1 v1 v2 v3 v4 1) (some (.ret [] [] [] [] [] false)):=fun n v0 v1 v2 v3 v4=>by
    conv=>lhs;unfold aU
    show(if a.size≤2000000 then _ else none)=_;rw[Wa (f a (by simp))];rfl
   have l:∀n v0 v1 v2 v3 v4,aU [a,b,c,d,e] (n+1) v0 v1 v2 v3 v4 1=cond (ai b 0 23).2 (aU [a,b,c,d,e] n v0 (ai b 0 23).1 v2 v3 v4 2) (some (.ret [] [] [] [] [] false)):=fun n v0 v1 v2 v3 v4=>by
    conv=>lhs;unfold aU
    show(if b.size≤2000000 then _ else none)=_;rw[Wa (f b (by simp))];rfl
   have m:∀n v0 v1 v2 v3 v4,aU [a,b,c,d,e] (n+1) v0 v1 v2 v3 v4 2=cond (ai c 1 31).2 (aU [a,b,c,d,e] n v0 v1 (ai c 1 31).1 v3 v4 3) (some (.ret [] [] [] [] [] false)):=fun n v0 v1 v2 v3 v4=>by
    conv=>lhs;unfold aU
    show(if c.size≤2000000 then _ else none)=_;rw[Wa (f c (by simp))];rfl
   have o:∀n v0 v1 v2 v3 v4,aU [a,b,c,d,e] (n+1) v0 v1 v2 v3 v4 3=cond (ai d 1 12).2 (aU [a,b,c,d,e] n v0 v1 v2 (ai d 1 12).1 v4 4) (some (.ret [] [] [] [] [] false)):=fun n v0 v1 v2 v3 v4=>by
    conv=>lhs;unfold aU
    show(if d.size≤2000000 then _ else none)=_;rw[Wa (f d (by simp))];rfl
   have r:∀n v0 v1 v2 v3 v4,aU [a,b,c,d,e] (n+1) v0 v1 v2 v3 v4 4=cond (ai e 0 6).2 (aU [a,b,c,d,e] n v0 v1 v2 v3 (ai e 0 6).1 5) (some (.ret [] [] [] [] [] false)):=fun n v0 v1 v2 v3 v4=>by
    conv=>lhs;unfold aU
    show(if(4:Int)=4 then(if e.size≤2000000 then _ else none)else none)=_;rw[Wa rfl,Wa (f e (by simp))];rfl
   have t:∀n v0 v1 v2 v3 v4,aU [a,b,c,d,e] (n+1) v0 v1 v2 v3 v4 5=some (.x0 v0 v1 v2 v3 v4):=fun n v0 v1 v2 v3 v4=>rfl
   have st:aU [a,b,c,d,e] (9223372036854775802+6) [] [] [] [] [] 0=_:=k _ _ _ _ _ _;rw[l,m,o,r,t]at st;refine(Wy (Option.bind · _) st).trans ?_;show _=some (xN a b c d e);unfold xN;cases(ai a 0 59).2<;>cases(ai b 0 23).2<;>cases(ai c 1 31).2<;>cases(ai d 1 12).2<;>cases(ai e 0 6).2<;>rfl
  ·have g:(((aS s).1.length:Int) != 5)=true:=by rw[Y7];omega
   rw[g,Wn,zU h];rfl
theorem w6 {lo hi:Int}{s:Y9}(hs:s.size≤2000000)(hb:0≤lo∧lo≤hi∧hi≤59):ab.sm (ai s lo hi).1:=by
 rcases(CU s lo hi hs hb).2.1 with h|h
 ·rw[h.2];exact⟨by decide,fun y a=>by cases a⟩
 ·exact⟨by have:=h.2.2.2.2;omega,fun y a=>trivial⟩
theorem Hg:ab.sm noCron:=⟨⟨by decide,fun y a=>by cases a⟩,⟨by decide,fun y a=>by cases a⟩,⟨by decide,fun y a=>by cases a⟩,⟨by decide,fun y a=>by cases a⟩,⟨by decide,fun y a=>by cases a⟩⟩
theorem KI (s:Y9):ab.sm (ay s).1:=by
 unfold ay;by_cases h:(aS s).1.length=5
 ·obtain⟨a,b,c,d,e,g⟩:=Sy h;have f:∀p∈[a,b,c,d,e],p.size≤2000000:=fun p i=>by rw[←g]at i;have:=wx i;omega
  rw[g];show ab.sm (xN a b c d e).1;unfold xN;have:=w6 (lo:=0) (hi:=59) (f a (by simp)) (by decide);have:=w6 (lo:=0) (hi:=23) (f b (by simp)) (by decide);have:=w6 (lo:=1) (hi:=31) (f c (by simp)) (by decide);have:=w6 (lo:=1) (hi:=12) (f d (by simp)) (by decide);have:=w6 (lo:=0) (hi:=6) (f e (by simp)) (by decide);cases(ai a 0 59).2<;>cases(ai b 0 23).2<;>cases(ai c 1 31).2<;>cases(ai d 1 12).2<;>cases(ai e 0 6).2<;>first|exact Hg|exact⟨by assumption,by assumption,by assumption,by assumption,by assumption⟩
 ·rw[zU h];exact Hg
theorem sH (a:Y9):Does E 85 [V4 a] [(true,VJ .own ((ay a).1)),VY ((ay a).2)]:=by exact Ih a _ (TA a)
theorem fN (a:Y9){c:Bool}(b:(ay a).2=c):Does E 85 [V4 a] [(true,VJ .own ((ay a).1)),VY c]:=by rw[←b];exact sH a
theorem Hp (a:Y9):Does E 112 [V4 a] [(true,VJ .own ((ay a).1)),VY ((ay a).2)]:=by exact HI a _ (Tz a)
theorem vg (a:Y9){c:Bool}(b:(ay a).2=c):Does E 112 [V4 a] [(true,VJ .own ((ay a).1)),VY c]:=by rw[←b];exact Hp a
inductive EJ where|ret (v4:Bool)|x0
def nE (v0:List Int)(v1 v5:Int):US:=stL 18 [(0,.one (V8 1 (v0.map etI))),(1,V2 v1),(5,V2 v5)]
def tn (a:Bool):US:=stL 18 [(4,V3 a)]
def uW  : US:=stL 18 []
abbrev yz:US→Exit→US→Prop:=Round E 60 (an Tryz.f60 0)
def PV (v0:List Int)(v1 v5:Int):EJ→Prop| .ret a=>Loops E 60 (an Tryz.f60 0) (nE v0 v1 v5) .ret (tn a)| .x0=>Loops E 60 (an Tryz.f60 0) (nE v0 v1 v5) (.exit 0) (uW)
noncomputable def lC (v1:Int):List Int→Nat→Option EJ|[],i=>some (.x0)|hd::rest,i=>cond (hd==v1) (some (.ret true)) (lC v1 rest (i+1))
theorem PU (v0:List Int)(v1:Int)(rest:List Int):∀(i:Nat) ,(v0).drop i=rest→v0.length≤9223372036854775807→Ans (lC v1 rest i) (PV v0 v1 (i:Int)):=by
 induction rest with
 |nil =>intro i a b;have hb:=aK a;unfold lC;exact Vz (VB (show yz (nE v0 v1 (i:Int)) (.exit 0) (uW)from RP [V5 (v0.length:Int),.b false] (ALn v0 etI<|AC hb<|AN)) (by intro h;cases h))
 |cons hd rest f =>
  intro i a b;have hb:=aF a;have g:=aG a b;have c:=au a;have d:=aE a;unfold lC;apply VC<;>intro e
  ·exact Vz (VB (show yz (nE v0 v1 (i:Int)) .ret (tn true)from RP [V5 (v0.length:Int),.b true,.row (etI hd),.b true] (ALn v0 etI<|AC hb<|AR etI d<|AC e<|AN)) (by intro h;cases h))
  ·exact(f (i+1) c b).mono fun y j=>by have r:yz (nE v0 v1 (i:Int)) .normal (nE v0 v1 (inc (i:Int))):=RP [V5 (v0.length:Int),.b true,.row (etI hd),.b false] (ALn v0 etI<|AC hb<|AR etI d<|AC e<|AN);rw[g]at r;cases y<;>exact VA r j
noncomputable def Bb (b:List Int)(c:Int):Option (Bool):=
  if b.length≤9223372036854775807 then(lC c b 0).bind fun y=>match y with
   | .ret a=>(some (a))
   | .x0=>(some (false))else none
theorem RC (x0:List Int)(c:Int):Ans (Bb x0 c) (fun r=>Does E 60 [.one (V8 1 (x0.map etI)),V2 c] [VY r]):=by
 unfold Bb;apply VE;intro d;apply VD;intro y b;replace b:=PU x0 c x0 0 rfl d y b;cases y with
 |ret a =>have e:=b;exact Vz (DP Tryz.f60 [.lp .ret (tn a)] (AL e<|AN))
 |x0 =>have e:=b;exact Vz (DP Tryz.f60 [.lp (.exit 0) (uW)] (AL e<|AN))
def ck (l:List Int)(x:Int):Bool:=l.any fun y=>y==x
theorem Q2 (x:Int):∀(rest:List Int)(i:Nat),lC x rest i=some (if ck rest x=true then .ret true else .x0)
 |[],i=>rfl
 |y::rest,i=>by unfold lC;rw[Q2 x rest (i+1)];unfold ck;rw[Y8];cases y==x<;>rfl
theorem pm (a:List Int)(b:Int)(h:a.length≤1050000):Does E 60 [.one (V8 1 (a.map etI)),V2 b] [VY (ck a b)]:=by exact RC a b _ (by unfold Bb;rw[Wa (by omega),Q2];cases q:ck a b<;>rfl)
inductive qX where|ret (v4:Int)|x0
def e9 (v0:List Int)(v1 v7 v8:Int):US:=stL 19 [(0,.one (V8 1 (v0.map etI))),(1,V2 v1),(7,V2 v7),(8,V2 v8)]
def kA (a:Int):US:=stL 19 [(4,V2 a)]
def k7  : US:=stL 19 []
abbrev mg:US→Exit→US→Prop:=Round E 101 (an Tryz.f101 0)
def zA (v0:List Int)(v1 v7 v8:Int):qX→Prop| .ret a=>Loops E 101 (an Tryz.f101 0) (e9 v0 v1 v7 v8) .ret (kA a)| .x0=>Loops E 101 (an Tryz.f101 0) (e9 v0 v1 v7 v8) (.exit 0) (k7)
noncomputable def c6 (v1:Int):List Int→Nat→Option qX|[],i=>some (.x0)|hd::rest,i=>cond (v1==hd) (some (.ret (i:Int))) (c6 v1 rest (i+1))
theorem zy (v0:List Int)(v1:Int)(rest:List Int):∀(i:Nat) ,(v0).drop i=rest→v0.length≤9223372036854775807→Ans (c6 v1 rest i) (zA v0 v1 (v0.length:Int) (i:Int)):=by
 induction rest with
 |nil =>intro i a b;have hb:=aK a;unfold c6;exact Vz (VB (show mg (e9 v0 v1 (v0.length:Int) (i:Int)) (.exit 0) (k7)from RP [.b false] (AC hb<|AN)) (by intro h;cases h))
 |cons hd rest f =>
  intro i a b;have hb:=aF a;have g:=aG a b;have c:=au a;have d:=aE a;unfold c6;apply VC<;>intro e
  ·exact Vz (VB (show mg (e9 v0 v1 (v0.length:Int) (i:Int)) .ret (kA (i:Int))from RP [.b true,.row (etI hd),.b true] (AC hb<|AR etI d<|AC e<|AN)) (by intro h;cases h))
  ·exact(f (i+1) c b).mono fun y j=>by have r:mg (e9 v0 v1 (v0.length:Int) (i:Int)) .normal (e9 v0 v1 (v0.length:Int) (inc (i:Int))):=RP [.b true,.row (etI hd),.b false] (AC hb<|AR etI d<|AC e<|AN);rw[g]at r;cases y<;>exact VA r j
noncomputable def fG (b:List Int)(c:Int):Option (Int):=
  if b.length≤9223372036854775807 then(c6 c b 0).bind fun y=>match y with
   | .ret a=>(some (a))
   | .x0=>(some ((-1:Int)))else none
theorem Bk (x0:List Int)(c:Int):Ans (fG x0 c) (fun r=>Does E 101 [.one (V8 1 (x0.map etI)),V2 c] [VX r]):=by
 unfold fG;apply VE;intro d;apply VD;intro y b;replace b:=zy x0 c x0 0 rfl d y b;cases y with
 |ret a =>have e:=b;exact Vz (DP Tryz.f101 [V5 (x0.length:Int),.lp .ret (kA a)] (ALn x0 etI<|AL e<|AN))
 |x0 =>have e:=b;exact Vz (DP Tryz.f101 [V5 (x0.length:Int),.lp (.exit 0) (k7)] (ALn x0 etI<|AL e<|AN))
noncomputable def C1 (l:List Int)(x:Int):Int:=(fG l x).getD (-1)
theorem S5 (x:Int):∀(rest:List Int)(i:Nat),(∃k:Nat,c6 x rest i=some (.ret (k:Int))∧ck rest x=true)∨c6 x rest i=some .x0∧ck rest x=false
 |[],i=>.inr ⟨rfl,rfl⟩
 |y::rest,i=>by
  have e:(x==y)=(y==x):=by cases q:y==x with|true=>rw[eq_of_beq q];simp|false=>exact W5.2 fun e=>by rw[e]at q;simp at q
  unfold c6 ck;rw[Y8,e];cases y==x with
  |true=>exact .inl ⟨i,rfl,rfl⟩
  |false=>exact S5 x rest (i+1)
theorem QZ (l:List Int)(x:Int)(h:l.length≤1050000):fG l x=some (C1 l x)∧decide (C1 l x≥(0:Int))=ck l x:=by
 have e:∃r,fG l x=some r∧decide (r≥(0:Int))=ck l x:=by
  unfold fG;rw[Wa (by omega)];rcases S5 x l 0 with⟨k,a,b⟩|⟨a,b⟩
  ·exact⟨(k:Int),by rw[a];rfl,by rw[b];exact Wi (by omega)⟩
  ·exact⟨-1,by rw[a];rfl,by rw[b];rfl⟩
 obtain⟨r,a,b⟩:=e;have p:C1 l x=r:=by unfold C1;rw[a];rfl
 rw[p];exact⟨a,b⟩
theorem zL (a:List Int)(b:Int)(h:a.length≤1050000):Does E 101 [.one (V8 1 (a.map etI)),V2 b] [VX (C1 a b)]:=by exact Bk a b _ (QZ a b h).1
noncomputable def k6 (a:List Int)(b:Int):Option (Bool):=if a.length≤1050000 then some (decide ((C1 a b)≥(0:Int)))else none
theorem xt (a:List Int)(b:Int):Ans (k6 a b) (fun r=>Does E 72 [.one (V8 1 (a.map etI)),V2 b] [VY r]):=by unfold k6;apply VE;intro c;exact Vz (DP Tryz.f72 [.ret [VX (C1 a b)]] (AD (zL a b c)<|AN))
theorem ee (a:List Int)(b:Int)(h:a.length≤1050000):Does E 72 [.one (V8 1 (a.map etI)),V2 b] [VY (ck a b)]:=by
 exact xt a b _ (by
  unfold k6;try rw[Wa h]
  rw[(QZ a b h).2])
inductive Bc where|ret (v6:Bool)|x0
def gf (v0:List Int)(v1 v2 v7:Int):US:=stL 41 [(0,.one (V8 1 (v0.map etI))),(1,V2 v1),(2,V2 v2),(7,V2 v7)]
def mt (a:Bool):US:=stL 41 [(6,V3 a)]
def rD (v0:List Int):US:=stL 41 [(0,.one (V8 1 (v0.map etI)))]
abbrev mU:US→Exit→US→Prop:=Round E 122 (an Tryz.f122 0)
def Lc (v0:List Int)(v1 v2 v7:Int):Bc→Prop| .ret a=>Loops E 122 (an Tryz.f122 0) (gf v0 v1 v2 v7) .ret (mt a)| .x0=>Loops E 122 (an Tryz.f122 0) (gf v0 v1 v2 v7) (.exit 0) (rD v0)
noncomputable def ig (v0:List Int)(v1 v2:Int):List Int→Nat→Option Bc|[],i=>some (.x0)|hd::rest,i=>cond (ag hd v1 v2) (cond (decide ((i:Int)>(0:Int))) ((ak v0 (IntKind.wrap .i64 ((i:Int)-(1:Int)))).bind fun g1=>cond (decide (g1≥hd)) (some (.ret false)) (ig v0 v1 v2 rest (i+1))) (ig v0 v1 v2 rest (i+1))) (some (.ret false))
theorem Lb (v0:List Int)(v1 v2:Int)(rest:List Int):∀(i:Nat) ,(v0).drop i=rest→v0.length≤9223372036854775807→Ans (ig v0 v1 v2 rest i) (Lc v0 v1 v2 (i:Int)):=by
 induction rest with
 |nil =>intro i a d;have hb:=aK a;unfold ig;exact Vz (VB (show mU (gf v0 v1 v2 (i:Int)) (.exit 0) (rD v0)from RP [V5 (v0.length:Int),.b false] (ALn v0 etI<|AC hb<|AN)) (by intro h;cases h))
 |cons hd rest j =>
  intro i a d;have hb:=aF a;have k:=aG a d;have c:=au a;have b:=aE a;unfold ig;apply VC<;>intro e
  ·apply VC<;>intro f
   ·apply VD;intro g1 l;apply VC<;>intro m
    ·exact Vz (VB (show mU (gf v0 v1 v2 (i:Int)) .ret (mt false)from RP [V5 (v0.length:Int),.b true,.row (etI hd),rT,.b true,.row (etI g1),.row (etI hd),.b true] (ALn v0 etI<|AC hb<|AR etI b<|AD (VH (ae hd v1 v2) e)<|AC f<|AR etI l<|AR etI b<|AC m<|AN)) (by intro h;cases h))
    ·exact(j (i+1) c d).mono fun y g=>by have r:mU (gf v0 v1 v2 (i:Int)) .normal (gf v0 v1 v2 (inc (i:Int))):=RP [V5 (v0.length:Int),.b true,.row (etI hd),rT,.b true,.row (etI g1),.row (etI hd),.b false] (ALn v0 etI<|AC hb<|AR etI b<|AD (VH (ae hd v1 v2) e)<|AC f<|AR etI l<|AR etI b<|AC m<|AN);rw[k]at r;cases y<;>exact VA r g
   ·exact(j (i+1) c d).mono fun y g=>by have r:mU (gf v0 v1 v2 (i:Int)) .normal (gf v0 v1 v2 (inc (i:Int))):=RP [V5 (v0.length:Int),.b true,.row (etI hd),rT,.b false] (ALn v0 etI<|AC hb<|AR etI b<|AD (VH (ae hd v1 v2) e)<|AC f<|AN);rw[k]at r;cases y<;>exact VA r g
  ·exact Vz (VB (show mU (gf v0 v1 v2 (i:Int)) .ret (mt false)from RP [V5 (v0.length:Int),.b true,.row (etI hd),rF] (ALn v0 etI<|AC hb<|AR etI b<|AD (VH (ae hd v1 v2) e)<|AN)) (by intro h;cases h))
noncomputable def wD (b:List Int)(c d:Int):Option (Bool):=
  if b.length≤9223372036854775807 then(ig b c d b 0).bind fun y=>match y with
   | .ret a=>(some (a))
   | .x0=>(some (decide ((b.length:Int)>(0:Int))))else none
theorem Nj (x0:List Int)(c d:Int):Ans (wD x0 c d) (fun r=>Does E 122 [.one (V8 1 (x0.map etI)),V2 c,V2 d] [VY r]):=by
 unfold wD;apply VE;intro e;apply VD;intro y b;replace b:=Lb x0 c d x0 0 rfl e y b;cases y with
 |ret a =>have f:=b;exact Vz (DP Tryz.f122 [.lp .ret (mt a)] (AL f<|AN))
 |x0 =>have f:=b;exact Vz (DP Tryz.f122 [.lp (.exit 0) (rD x0),V5 (x0.length:Int)] (AL f<|ALn x0 etI<|AN))
def lL (a b:Int):List Int→Option Int→Bool
 |[],_=>true
 |x::l,p=>ag x a b&&(match p with|some y=>decide (y<x)|none=>true)&&lL a b l (some x)
def bi (l:List Int)(a b:Int):Bool:=lL a b l none&&decide ((l.length:Int)>0)
theorem NX {ax rest:List Int}{x:Int}{i:Nat}(h:ax.drop i=x::rest):i=0∨∃y,ax[i-1]?=some y:=by
 cases i with
 |zero=>exact .inl rfl
 |succ i =>
  right;have:i<ax.length:=by
   rcases Wl i ax.length with g|g
   ·exact g
   ·rw[WV (by omega)]at h;cases h
  exact⟨ax[i],by simp[this]⟩
def kn (ax:List Int)(i:Nat):Option Int:=if i=0 then none else ax[i-1]?
theorem Hb {ax rest:List Int}{x:Int}{i:Nat}(h:ax.drop i=x::rest):kn ax (i+1)=some x:=by unfold kn;rw[Wo (by omega)];show ax[i]?=some x;rw[←Yo,h];rfl
theorem Rc (ax:List Int)(a b:Int)(k:ax.length≤1050000):∀(rest:List Int)(i:Nat),ax.drop i=rest→ig ax a b rest i=some (if lL a b rest (kn ax i)=true then .x0 else .ret false)
 |[],i,_=>rfl
 |x::rest,i,h=>by
  have f:=Rc ax a b k rest (i+1) (au h);rw[Hb h]at f;have hi:i<ax.length:=by
   rcases Wl i ax.length with g|g
   ·exact g
   ·rw[WV g]at h;cases h
  unfold ig lL;rw[f];cases ag x a b with
  |false=>rfl
  |true =>
   rw[Wn,WJ];rcases NX h with rfl|⟨y,j⟩
   ·simp[kn]
   ·by_cases z:i=0
    ·subst z;simp[kn]
    ·have l:kn ax i=some y:=by unfold kn;rw[Wo z,j]
     have m:ak ax (IntKind.wrap .i64 ((i:Int)-1))=some y:=by
      rw[du _ (by omega) (by omega)];have e:((i:Int)-1)=((i-1:Nat):Int):=by omega
      rw[e,cp,j]
     rw[l,m,Wi (by omega:(i:Int)>0),Wn,V9];simp only;by_cases c:y≥x
     ·have d:¬y<x:=by omega
      rw[Wi c,Wn];simp[d]
     ·have d:y<x:=by omega
      rw[Wj c,Wu];simp[d]
theorem cN (a:List Int)(b:Int)(c:Int)(h:a.length≤1050000):Does E 122 [.one (V8 1 (a.map etI)),V2 b,V2 c] [VY (bi a b c)]:=by exact Nj a b c _ (by unfold wD;rw[Wa (by omega),Rc a b c h a 0 rfl];unfold bi kn;rw[Wa rfl];cases lL b c a none<;>rfl)
noncomputable def yw (a:GCron):Option (Bool):=if a.f0.length≤1050000 then cond (bi a.f0 0 59) (if a.f1.length≤1050000 then cond (bi a.f1 0 23) (if a.f2.length≤1050000 then cond (bi a.f2 1 31) (if a.f3.length≤1050000 then cond (bi a.f3 1 12) (if a.f4.length≤1050000 then some (bi a.f4 0 6)else none) (some (false))else none) (some (false))else none) (some (false))else none) (some (false))else none
theorem PN (a:GCron):Ans (yw a) (fun r=>Does E 109 [.agg (VJ .far a)] [VY r]):=by
 unfold yw;apply VE;intro b;apply VC<;>intro c
 ·apply VE;intro d;apply VC<;>intro e
  ·apply VE;intro f;apply VC<;>intro g
   ·apply VE;intro h;apply VC<;>intro i
    ·apply VE;intro j;exact Vz (DP Tryz.f109 [rT,rT,rT,rT,.ret [VY (bi a.f4 0 6)]] (AD (VH (cN a.f0 0 59 b) c)<|AD (VH (cN a.f1 0 23 d) e)<|AD (VH (cN a.f2 1 31 f) g)<|AD (VH (cN a.f3 1 12 h) i)<|AD (cN a.f4 0 6 j)<|AN))
    ·exact Vz (DP Tryz.f109 [rT,rT,rT,rF] (AD (VH (cN a.f0 0 59 b) c)<|AD (VH (cN a.f1 0 23 d) e)<|AD (VH (cN a.f2 1 31 f) g)<|AD (VH (cN a.f3 1 12 h) i)<|AN))
   ·exact Vz (DP Tryz.f109 [rT,rT,rF] (AD (VH (cN a.f0 0 59 b) c)<|AD (VH (cN a.f1 0 23 d) e)<|AD (VH (cN a.f2 1 31 f) g)<|AN))
  ·exact Vz (DP Tryz.f109 [rT,rF] (AD (VH (cN a.f0 0 59 b) c)<|AD (VH (cN a.f1 0 23 d) e)<|AN))
 ·exact Vz (DP Tryz.f109 [rF] (AD (VH (cN a.f0 0 59 b) c)<|AN))
def ka (c:GCron):Bool:=bi c.f0 0 59&&(bi c.f1 0 23&&(bi c.f2 1 31&&(bi c.f3 1 12&&bi c.f4 0 6)))
theorem DA (a:GCron)(h:ab.sm a):Does E 109 [.agg (VJ .far a)] [VY (ka a)]:=by exact PN a _ (by have b:=h.1.1;have c:=h.2.1.1;have d:=h.2.2.1.1;have e:=h.2.2.2.1.1;have f:=h.2.2.2.2.1;unfold yw ka;simp only[b,c,d,e,f,WN];cases bi a.f0 0 59<;>cases bi a.f1 0 23<;>cases bi a.f2 1 31<;>cases bi a.f3 1 12<;>rfl)
inductive B6 where|ret (v2:Bool)|x2
def gN (a b c d e:List Int)(v5 v6:Int)(v7:List Int)(v11:Int)(f:List Int)(v24 g:Int):US:=stL 53 [(1,.box () [V8 1 (a.map etI),V8 1 (b.map etI),V8 1 (c.map etI),V8 1 (d.map etI),V8 1 (e.map etI)]),(5,V2 v5),(6,V2 v6),(7,.one (V8 1 (v7.map etI))),(10,.clo (.arr [0,1,2,3,4]) [1,1,1,1,1]),(11,V2 v11),(23,.one (V8 1 (f.map etI))),(24,V2 v24),(25,V2 g)]
def fD (a:Bool):US:=stL 53 [(2,V3 a)]
def c8 (a b c d e v7:List Int)(v11:Int):US:=stL 53 [(1,.box () [V8 1 (a.map etI),V8 1 (b.map etI),V8 1 (c.map etI),V8 1 (d.map etI),V8 1 (e.map etI)]),(7,.one (V8 1 (v7.map etI))),(10,.clo (.arr [0,1,2,3,4]) [1,1,1,1,1]),(11,V2 v11)]
abbrev om:US→Exit→US→Prop:=Round E 128 (an Tryz.f128 1)
def Mh (a b c d e:List Int)(v5 v6:Int)(v7:List Int)(v11:Int)(f:List Int)(v24 g:Int):B6→Prop| .ret h=>Loops E 128 (an Tryz.f128 1) (gN a b c d e v5 v6 v7 v11 f v24 g) .ret (fD h)| .x2=>Loops E 128 (an Tryz.f128 1) (gN a b c d e v5 v6 v7 v11 f v24 g) (.exit 2) (c8 a b c d e v7 v11)
noncomputable def dM (v5 v6:Int)(v7:List Int):List Int→Nat→Option B6|[],i=>some (.x2)|hd::rest,i=>cond (ag hd v5 v6) (cond (decide ((i:Int)>(0:Int))) ((ak v7 (IntKind.wrap .i64 ((i:Int)-(1:Int)))).bind fun g1=>cond (decide (hd≤g1)) (some (.ret false)) (dM v5 v6 v7 rest (i+1))) (dM v5 v6 v7 rest (i+1))) (some (.ret false))
theorem oo (b c d e f:List Int)(v5 v6:Int)(v7:List Int)(v11:Int)(a:List Int)(rest:List Int):∀(i:Nat) ,(a).drop i=rest→a.length≤9223372036854775807→Ans (dM v5 v6 v7 rest i) (Mh b c d e f v5 v6 v7 v11 a (a.length:Int) (i:Int)):=by
 induction rest with
 |nil =>intro i g k;have hb:=aK g;unfold dM;exact Vz (VB (show om (gN b c d e f v5 v6 v7 v11 a (a.length:Int) (i:Int)) (.exit 2) (c8 b c d e f v7 v11)from RP [.b false] (AC hb<|AN)) (by intro h;cases h))
 |cons hd rest p =>
  intro i g k;have hb:=aF g;have q:=aG g k;have j:=au g;have l:=aE g;unfold dM;apply VC<;>intro m
  ·apply VC<;>intro n
   ·apply VD;intro g1 s;apply VC<;>intro t
    ·exact Vz (VB (show om (gN b c d e f v5 v6 v7 v11 a (a.length:Int) (i:Int)) .ret (fD false)from RP [.b true,.row (etI hd),rT,.b true,.row (etI g1),.b true] (AC hb<|AR etI l<|AD (VH (ao hd v5 v6) m)<|AC n<|AR etI s<|AC t<|AN)) (by intro h;cases h))
    ·exact(p (i+1) j k).mono fun y o=>by have r:om (gN b c d e f v5 v6 v7 v11 a (a.length:Int) (i:Int)) .normal (gN b c d e f v5 v6 v7 v11 a (a.length:Int) (inc (i:Int))):=RP [.b true,.row (etI hd),rT,.b true,.row (etI g1),.b false] (AC hb<|AR etI l<|AD (VH (ao hd v5 v6) m)<|AC n<|AR etI s<|AC t<|AN);rw[q]at r;cases y<;>exact VA r o
   ·exact(p (i+1) j k).mono fun y o=>by have r:om (gN b c d e f v5 v6 v7 v11 a (a.length:Int) (i:Int)) .normal (gN b c d e f v5 v6 v7 v11 a (a.length:Int) (inc (i:Int))):=RP [.b true,.row (etI hd),rT,.b false] (AC hb<|AR etI l<|AD (VH (ao hd v5 v6) m)<|AC n<|AN);rw[q]at r;cases y<;>exact VA r o
  ·exact Vz (VB (show om (gN b c d e f v5 v6 v7 v11 a (a.length:Int) (i:Int)) .ret (fD false)from RP [.b true,.row (etI hd),rF] (AC hb<|AR etI l<|AD (VH (ao hd v5 v6) m)<|AN)) (by intro h;cases h))
inductive wa where|ret (v2:Bool)|x0
def bI (a b c d e:List Int)(v11:Int):US:=stL 53 [(1,.box () [V8 1 (a.map etI),V8 1 (b.map etI),V8 1 (c.map etI),V8 1 (d.map etI),V8 1 (e.map etI)]),(10,.clo (.arr [0,1,2,3,4]) [1,1,1,1,1]),(11,V2 v11)]
def cF (a:Bool):US:=stL 53 [(2,V3 a)]
def sK  : US:=stL 53 []
abbrev cB:US→Exit→US→Prop:=Round E 128 (an Tryz.f128 0)
def Mg (a b c d e:List Int)(v11:Int):wa→Prop| .ret f=>Loops E 128 (an Tryz.f128 0) (bI a b c d e v11) .ret (cF f)| .x0=>Loops E 128 (an Tryz.f128 0) (bI a b c d e v11) (.exit 0) (sK)
noncomputable def bU (a b c d e:List Int):Nat→Int→Option wa
 | 0,_=>none
 |n+1,v11=>cond (decide (v11<(5:Int)))
  (cond (v11==(0:Int))
   (if a.length≤9223372036854775807 then(dM ((aM v11).1) ((aM v11).2) a a 0).bind fun y=>match y with
    | .ret f=>(some (.ret f))
    | .x2=>(cond ((a.length:Int)==(0:Int))
     (some (.ret false))
     (bU a b c d e n (inc v11)))else none)
   (cond (v11==(1:Int))
    (if b.length≤9223372036854775807 then(dM ((aM v11).1) ((aM v11).2) b b 0).bind fun y=>match y with
     | .ret f=>(some (.ret f))
     | .x2=>(cond ((b.length:Int)==(0:Int))
      (some (.ret false))
      (bU a b c d e n (inc v11)))else none)
    (cond (v11==(2:Int))
     (if c.length≤9223372036854775807 then(dM ((aM v11).1) ((aM v11).2) c c 0).bind fun y=>match y with
      | .ret f=>(some (.ret f))
      | .x2=>(cond ((c.length:Int)==(0:Int))
       (some (.ret false))
       (bU a b c d e n (inc v11)))else none)
     (cond (v11==(3:Int))
      (if d.length≤9223372036854775807 then(dM ((aM v11).1) ((aM v11).2) d d 0).bind fun y=>match y with
       | .ret f=>(some (.ret f))
       | .x2=>(cond ((d.length:Int)==(0:Int))
        (some (.ret false))
        (bU a b c d e n (inc v11)))else none)
      (if v11=(4:Int)then if e.length≤9223372036854775807 then(dM ((aM v11).1) ((aM v11).2) e e 0).bind fun y=>match y with
       | .ret f=>(some (.ret f))
       | .x2=>(cond ((e.length:Int)==(0:Int))
        (some (.ret false))
        (bU a b c d e n (inc v11)))else none else none)))))
  (some (.x0))
theorem Mf (a b c d e:List Int)(n:Nat):∀(v11:Int),Ans (bU a b c d e n v11) (Mg a b c d e v11):=by
 induction n with
 |zero=>intros;exact Ans.none
 |succ n s =>
  intro v11;unfold bU;apply VC<;>intro i
  ·apply VC<;>intro t
   ·apply VE;intro u;apply VD;intro y g;replace g:=oo a b c d e ((aM v11).1) ((aM v11).2) a v11 a a 0 rfl u y g;cases y with
    |ret f =>have m:=g;exact Vz (VB (show cB (bI a b c d e v11) .ret (cF f)from RP [.b true,V5 0,.ret [VX ((aM v11).1),VX ((aM v11).2)],V5 (a.length:Int),.lp .ret (fD f)] (AC i<|AC (p:=v11=(0:Int)) (eq_of_beq t)<|AD (cy v11)<|ALn a etI<|AL m<|AN)) (by intro h;cases h))
    |x2 =>
     have m:=g;apply VC<;>intro j
     ·exact Vz (VB (show cB (bI a b c d e v11) .ret (cF false)from RP [.b true,V5 0,.ret [VX ((aM v11).1),VX ((aM v11).2)],V5 (a.length:Int),.lp (.exit 2) (c8 a b c d e a v11),V5 (a.length:Int),.b true] (AC i<|AC (p:=v11=(0:Int)) (eq_of_beq t)<|AD (cy v11)<|ALn a etI<|AL m<|ALn a etI<|AC j<|AN)) (by intro h;cases h))
     ·have r:cB (bI a b c d e v11) .normal (bI a b c d e (inc v11)):=RP [.b true,V5 0,.ret [VX ((aM v11).1),VX ((aM v11).2)],V5 (a.length:Int),.lp (.exit 2) (c8 a b c d e a v11),V5 (a.length:Int),.b false] (AC i<|AC (p:=v11=(0:Int)) (eq_of_beq t)<|AD (cy v11)<|ALn a etI<|AL m<|ALn a etI<|AC j<|AN);exact(s (inc v11)).mono fun y g=>by cases y<;>exact VA r g
   ·apply VC<;>intro m
    ·apply VE;intro v;apply VD;intro y g;replace g:=oo a b c d e ((aM v11).1) ((aM v11).2) b v11 b b 0 rfl v y g;cases y with
     |ret f =>have j:=g;exact Vz (VB (show cB (bI a b c d e v11) .ret (cF f)from RP [.b true,V5 1,.ret [VX ((aM v11).1),VX ((aM v11).2)],V5 (b.length:Int),.lp .ret (fD f)] (AC i<|AC (p:=v11=(1:Int)) (eq_of_beq m)<|AD (cy v11)<|ALn b etI<|AL j<|AN)) (by intro h;cases h))
     |x2 =>
      have j:=g;apply VC<;>intro k
      ·exact Vz (VB (show cB (bI a b c d e v11) .ret (cF false)from RP [.b true,V5 1,.ret [VX ((aM v11).1),VX ((aM v11).2)],V5 (b.length:Int),.lp (.exit 2) (c8 a b c d e b v11),V5 (b.length:Int),.b true] (AC i<|AC (p:=v11=(1:Int)) (eq_of_beq m)<|AD (cy v11)<|ALn b etI<|AL j<|ALn b etI<|AC k<|AN)) (by intro h;cases h))
      ·have r:cB (bI a b c d e v11) .normal (bI a b c d e (inc v11)):=RP [.b true,V5 1,.ret [VX ((aM v11).1),VX ((aM v11).2)],V5 (b.length:Int),.lp (.exit 2) (c8 a b c d e b v11),V5 (b.length:Int),.b false] (AC i<|AC (p:=v11=(1:Int)) (eq_of_beq m)<|AD (cy v11)<|ALn b etI<|AL j<|ALn b etI<|AC k<|AN);exact(s (inc v11)).mono fun y g=>by cases y<;>exact VA r g
    ·apply VC<;>intro j
     ·apply VE;intro w;apply VD;intro y g;replace g:=oo a b c d e ((aM v11).1) ((aM v11).2) c v11 c c 0 rfl w y g;cases y with
      |ret f =>have k:=g;exact Vz (VB (show cB (bI a b c d e v11) .ret (cF f)from RP [.b true,V5 2,.ret [VX ((aM v11).1),VX ((aM v11).2)],V5 (c.length:Int),.lp .ret (fD f)] (AC i<|AC (p:=v11=(2:Int)) (eq_of_beq j)<|AD (cy v11)<|ALn c etI<|AL k<|AN)) (by intro h;cases h))
      |x2 =>
       have k:=g;apply VC<;>intro l
       ·exact Vz (VB (show cB (bI a b c d e v11) .ret (cF false)from RP [.b true,V5 2,.ret [VX ((aM v11).1),VX ((aM v11).2)],V5 (c.length:Int),.lp (.exit 2) (c8 a b c d e c v11),V5 (c.length:Int),.b true] (AC i<|AC (p:=v11=(2:Int)) (eq_of_beq j)<|AD (cy v11)<|ALn c etI<|AL k<|ALn c etI<|AC l<|AN)) (by intro h;cases h))
       ·have r:cB (bI a b c d e v11) .normal (bI a b c d e (inc v11)):=RP [.b true,V5 2,.ret [VX ((aM v11).1),VX ((aM v11).2)],V5 (c.length:Int),.lp (.exit 2) (c8 a b c d e c v11),V5 (c.length:Int),.b false] (AC i<|AC (p:=v11=(2:Int)) (eq_of_beq j)<|AD (cy v11)<|ALn c etI<|AL k<|ALn c etI<|AC l<|AN);exact(s (inc v11)).mono fun y g=>by cases y<;>exact VA r g
     ·apply VC<;>intro k
      ·apply VE;intro o;apply VD;intro y g;replace g:=oo a b c d e ((aM v11).1) ((aM v11).2) d v11 d d 0 rfl o y g;cases y with
       |ret f =>have l:=g;exact Vz (VB (show cB (bI a b c d e v11) .ret (cF f)from RP [.b true,V5 3,.ret [VX ((aM v11).1),VX ((aM v11).2)],V5 (d.length:Int),.lp .ret (fD f)] (AC i<|AC (p:=v11=(3:Int)) (eq_of_beq k)<|AD (cy v11)<|ALn d etI<|AL l<|AN)) (by intro h;cases h))
       |x2 =>
        have l:=g;apply VC<;>intro q
        ·exact Vz (VB (show cB (bI a b c d e v11) .ret (cF false)from RP [.b true,V5 3,.ret [VX ((aM v11).1),VX ((aM v11).2)],V5 (d.length:Int),.lp (.exit 2) (c8 a b c d e d v11),V5 (d.length:Int),.b true] (AC i<|AC (p:=v11=(3:Int)) (eq_of_beq k)<|AD (cy v11)<|ALn d etI<|AL l<|ALn d etI<|AC q<|AN)) (by intro h;cases h))
        ·have r:cB (bI a b c d e v11) .normal (bI a b c d e (inc v11)):=RP [.b true,V5 3,.ret [VX ((aM v11).1),VX ((aM v11).2)],V5 (d.length:Int),.lp (.exit 2) (c8 a b c d e d v11),V5 (d.length:Int),.b false] (AC i<|AC (p:=v11=(3:Int)) (eq_of_beq k)<|AD (cy v11)<|ALn d etI<|AL l<|ALn d etI<|AC q<|AN);exact(s (inc v11)).mono fun y g=>by cases y<;>exact VA r g
      ·apply VE;intro l;apply VE;intro o;apply VD;intro y g;replace g:=oo a b c d e ((aM v11).1) ((aM v11).2) e v11 e e 0 rfl o y g;cases y with
       |ret f =>have q:=g;exact Vz (VB (show cB (bI a b c d e v11) .ret (cF f)from RP [.b true,V5 4,.ret [VX ((aM v11).1),VX ((aM v11).2)],V5 (e.length:Int),.lp .ret (fD f)] (AC i<|AC l<|AD (cy v11)<|ALn e etI<|AL q<|AN)) (by intro h;cases h))
       |x2 =>
        have q:=g;apply VC<;>intro x
        ·exact Vz (VB (show cB (bI a b c d e v11) .ret (cF false)from RP [.b true,V5 4,.ret [VX ((aM v11).1),VX ((aM v11).2)],V5 (e.length:Int),.lp (.exit 2) (c8 a b c d e e v11),V5 (e.length:Int),.b true] (AC i<|AC l<|AD (cy v11)<|ALn e etI<|AL q<|ALn e etI<|AC x<|AN)) (by intro h;cases h))
        ·have r:cB (bI a b c d e v11) .normal (bI a b c d e (inc v11)):=RP [.b true,V5 4,.ret [VX ((aM v11).1),VX ((aM v11).2)],V5 (e.length:Int),.lp (.exit 2) (c8 a b c d e e v11),V5 (e.length:Int),.b false] (AC i<|AC l<|AD (cy v11)<|ALn e etI<|AL q<|ALn e etI<|AC x<|AN);exact(s (inc v11)).mono fun y g=>by cases y<;>exact VA r g
  ·exact Vz (VB (show cB (bI a b c d e v11) (.exit 0) (sK)from RP [.b false] (AC i<|AN)) (by intro h;cases h))
noncomputable def tG (a:GCron):Option (Bool):=
  (bU a.f0 a.f1 a.f2 a.f3 a.f4 9223372036854775808 0).bind fun y=>match y with
   | .ret b=>(some (b))
   | .x0=>(some (true))
theorem OV (x0:GCron):Ans (tG x0) (fun r=>Does E 128 [.agg (VJ .far x0)] [VY r]):=by
 unfold tG;apply VD;intro y b;replace b:=Mf x0.f0 x0.f1 x0.f2 x0.f3 x0.f4 9223372036854775808 0 y b;cases y with
 |ret a =>have c:=b;exact Vz (DP Tryz.f128 [.lp .ret (cF a)] (AL c<|AN))
 |x0 =>have c:=b;exact Vz (DP Tryz.f128 [.lp (.exit 0) (sK)] (AL c<|AN))
theorem Qr (ax:List Int)(a b:Int)(k:ax.length≤1050000):∀(rest:List Int)(i:Nat),ax.drop i=rest→dM a b ax rest i=some (if lL a b rest (kn ax i)=true then .x2 else .ret false)
 |[],i,_=>rfl
 |x::rest,i,h=>by
  have f:=Qr ax a b k rest (i+1) (au h);rw[Hb h]at f;have hi:i<ax.length:=by
   rcases Wl i ax.length with g|g
   ·exact g
   ·rw[WV g]at h;cases h
  unfold dM lL;rw[f];cases ag x a b with
  |false=>rfl
  |true =>
   rw[Wn,WJ];rcases NX h with rfl|⟨y,j⟩
   ·simp[kn]
   ·by_cases z:i=0
    ·subst z;simp[kn]
    ·have l:kn ax i=some y:=by unfold kn;rw[Wo z,j]
     have m:ak ax (IntKind.wrap .i64 ((i:Int)-1))=some y:=by
      rw[du _ (by omega) (by omega)];have e:((i:Int)-1)=((i-1:Nat):Int):=by omega
      rw[e,cp,j]
     rw[l,m,Wi (by omega:(i:Int)>0),Wn,V9];simp only;by_cases c:y≥x
     ·have d:¬y<x:=by omega
      rw[Wi (show x≤y from c),Wn];simp[d]
     ·have d:y<x:=by omega
      rw[Wj (show ¬x≤y from c),Wu];simp[d]
theorem pR (l:List Int)(a b:Int)(c:l.length≤1050000)(K:Option wa):
  ((dM a b l l 0).bind fun y=>match y with
    | .ret w=>some (.ret w)
    | .x2=>cond ((l.length:Int)==(0:Int)) (some (.ret false)) K)=(cond (bi l a b) K (some (.ret false))):=by
 rw[Qr l a b c l 0 rfl];unfold bi kn;rw[Wa rfl];cases lL a b l none with
 |false=>rfl
 |true =>
  simp only[WN,V9,WJ];cases l with
  |nil=>rfl
  |cons x l =>rw[show(((x::l).length:Int)==(0:Int))=false from W5.2 (by simp<;>omega),Wi (by simp<;>omega)];rfl
theorem Sd (c:GCron)(h:ab.sm c):tG c=some (ka c):=by
 have a:=h.1.1;have b:=h.2.1.1;have d:=h.2.2.1.1;have e:=h.2.2.2.1.1;have f:=h.2.2.2.2.1;unfold tG;have g:∀n,bU c.f0 c.f1 c.f2 c.f3 c.f4 (n+6) 0=some (if ka c=true then .x0 else .ret false):=by
  intro n;have i:bU c.f0 c.f1 c.f2 c.f3 c.f4 (n+1) (inc (inc (inc (inc (inc 0)))))=some .x0:=rfl;have j:bU c.f0 c.f1 c.f2 c.f3 c.f4 (n+2) (inc (inc (inc (inc 0))))=cond (bi c.f4 0 6) (some .x0) (some (.ret false)):=by
   rw[←pR c.f4 0 6 f, ←i]
   conv=>lhs;unfold bU
   show(if inc (inc (inc (inc 0)))=4 then(if c.f4.length≤9223372036854775807 then _ else none)else none)=_;rw[Wa (by rfl),Wa (by omega)];rfl
  have k:bU c.f0 c.f1 c.f2 c.f3 c.f4 (n+3) (inc (inc (inc 0)))=cond (bi c.f3 1 12) (cond (bi c.f4 0 6) (some .x0) (some (.ret false))) (some (.ret false)):=by
   rw[←pR c.f3 1 12 e, ←j]
   conv=>lhs;unfold bU
   show(if c.f3.length≤9223372036854775807 then _ else none)=_;rw[Wa (by omega)];rfl
  have l:bU c.f0 c.f1 c.f2 c.f3 c.f4 (n+4) (inc (inc 0))=cond (bi c.f2 1 31) (cond (bi c.f3 1 12) (cond (bi c.f4 0 6) (some .x0) (some (.ret false))) (some (.ret false))) (some (.ret false)):=by
   rw[←pR c.f2 1 31 d, ←k]
   conv=>lhs;unfold bU
   show(if c.f2.length≤9223372036854775807 then _ else none)=_;rw[Wa (by omega)];rfl
  have m:bU c.f0 c.f1 c.f2 c.f3 c.f4 (n+5) (inc 0)=cond (bi c.f1 0 23) (cond (bi c.f2 1 31) (cond (bi c.f3 1 12) (cond (bi c.f4 0 6) (some .x0) (some (.ret false))) (some (.ret false))) (some (.ret false))) (some (.ret false)):=by
   rw[←pR c.f1 0 23 b, ←l]
   conv=>lhs;unfold bU
   show(if c.f1.length≤9223372036854775807 then _ else none)=_;rw[Wa (by omega)];rfl
  have o:bU c.f0 c.f1 c.f2 c.f3 c.f4 (n+6) 0=cond (bi c.f0 0 59) (cond (bi c.f1 0 23) (cond (bi c.f2 1 31) (cond (bi c.f3 1 12) (cond (bi c.f4 0 6) (some .x0) (some (.ret false))) (some (.ret false))) (some (.ret false))) (some (.ret false))) (some (.ret false)):=by
   rw[←pR c.f0 0 59 a, ←m]
   conv=>lhs;unfold bU
   show(if c.f0.length≤9223372036854775807 then _ else none)=_;rw[Wa (by omega)];rfl
  rw[o];unfold ka;cases bi c.f0 0 59<;>cases bi c.f1 0 23<;>cases bi c.f2 1 31<;>cases bi c.f3 1 12<;>cases bi c.f4 0 6<;>rfl
 rw[g 9223372036854775802];cases ka c<;>rfl
theorem Du (a:GCron)(h:ab.sm a):Does E 128 [.agg (VJ .far a)] [VY (ka a)]:=by exact OV a _ (Sd a h)
noncomputable def As (b:List Int)(a:Int):Option (Bool):=some ((b.length:Int)==(inc (IntKind.wrap .i64 (((aM a).2)-((aM a).1)))))
theorem QV (b:List Int)(a:Int):Ans (As b a) (fun r=>Does E 129 [.one (V8 1 (b.map etI)),V2 a] [VY r]):=by unfold As;exact Vz (DP Tryz.f129 [.ret [VX ((aM a).1),VX ((aM a).2)],V5 (b.length:Int)] (AD (cy a)<|ALn b etI<|AN))
noncomputable def ql (l:List Int)(i:Int):Bool:=(As l i).getD false
theorem iS (a:List Int)(b:Int):Does E 129 [.one (V8 1 (a.map etI)),V2 b] [VY (ql a b)]:=by exact QV a b _ rfl
inductive Bd where|x0 (v5:Y9)
def kV (v0:List Int)(v5:Y9)(v6:Int):US:=stL 29 [(0,.one (V8 1 (v0.map etI))),(5,V4 v5),(6,V2 v6)]
def rE (a:Y9):US:=stL 29 [(5,V4 a)]
abbrev uX:US→Exit→US→Prop:=Round E 110 (an Tryz.f110 0)
def Lf (v0:List Int)(v5:Y9)(v6:Int):Bd→Prop| .x0 a=>Loops E 110 (an Tryz.f110 0) (kV v0 v5 v6) (.exit 0) (rE a)
noncomputable def fh  : List Int→Nat→Y9→Option Bd|[],i,v5=>some (.x0 v5)|hd::rest,i,v5=>cond (decide ((i:Int)>(0:Int))) (if v5.size+(⟨#[44]⟩:Y9).size≤dC then if -9223372036854775808≤hd∧hd≤9223372036854775807 then if(v5++(⟨#[44]⟩:Y9)).size+(bE hd).size≤dC then fh rest (i+1) ((v5++(⟨#[44]⟩:Y9))++(bE hd))else none else none else none) (if -9223372036854775808≤hd∧hd≤9223372036854775807 then if v5.size+(bE hd).size≤dC then fh rest (i+1) (v5++(bE hd))else none else none)
theorem Le (v0:List Int)(rest:List Int):∀(i:Nat)(v5:Y9),(v0).drop i=rest→v0.length≤9223372036854775807→Ans (fh rest i v5) (Lf v0 v5 (i:Int)):=by
 induction rest with
 |nil =>intro i v5 a c;have hb:=aK a;unfold fh;exact Vz (VB (show uX (kV v0 v5 (i:Int)) (.exit 0) (rE v5)from RP [V5 (v0.length:Int),.b false] (ALn v0 etI<|AC hb<|AN)) (by intro h;cases h))
 |cons hd rest f =>
  intro i v5 a c;have hb:=aF a;have g:=aG a c;have b:=au a;have j:=aE a;unfold fh;apply VC<;>intro k
  ·apply VE;intro l;apply VE;intro d;apply VE;intro m;exact(f (i+1) ((v5++(⟨#[44]⟩:Y9))++(bE hd)) b c).mono fun y e=>by have r:uX (kV v0 v5 (i:Int)) .normal (kV v0 ((v5++(⟨#[44]⟩:Y9))++(bE hd)) (inc (i:Int))):=RP [V5 (v0.length:Int),.b true,.b true,.val (.string (v5++(⟨#[44]⟩:Y9))),.row (etI hd),.ret [VZ (bE hd)],.val (.string ((v5++(⟨#[44]⟩:Y9))++(bE hd)))] (ALn v0 etI<|AC hb<|AC k<|AC (kp (tab:=E.tab) (t:=9) l)<|AR etI j<|AD (rK hd d)<|AC (kp (tab:=E.tab) (t:=9) m)<|AN);rw[g]at r;cases y<;>exact VA r e
  ·apply VE;intro n;apply VE;intro d;exact(f (i+1) (v5++(bE hd)) b c).mono fun y e=>by have r:uX (kV v0 v5 (i:Int)) .normal (kV v0 (v5++(bE hd)) (inc (i:Int))):=RP [V5 (v0.length:Int),.b true,.b false,.row (etI hd),.ret [VZ (bE hd)],.val (.string (v5++(bE hd)))] (ALn v0 etI<|AC hb<|AC k<|AR etI j<|AD (rK hd n)<|AC (kp (tab:=E.tab) (t:=9) d)<|AN);rw[g]at r;cases y<;>exact VA r e
noncomputable def r9 (b:List Int)(c:Int):Option (Y9):=
  cond ((b.length:Int)==c)
   (some ((⟨#[42]⟩:Y9)))
   (if b.length≤9223372036854775807 then(fh b 0 ByteArray.empty).bind fun y=>match y with
    | .x0 a=>(some (a))else none)
theorem Nk (x0:List Int)(d:Int):Ans (r9 x0 d) (fun r=>Does E 110 [.one (V8 1 (x0.map etI)),V2 d] [VZ r]):=by
 unfold r9;apply VC<;>intro e
 ·exact Vz (DP Tryz.f110 [V5 (x0.length:Int),.b true] (ALn x0 etI<|AC e<|AN))
 ·apply VE;intro b;apply VD;intro y c;replace c:=Le x0 x0 0 ByteArray.empty rfl b y c;cases y with
  |x0 a =>have f:=c;exact Vz (DP Tryz.f110 [V5 (x0.length:Int),.b false,.lp (.exit 0) (rE a)] (ALn x0 etI<|AC e<|AL f<|AN))
def ji (c:UInt8):List (List UInt8)→List UInt8|[]=>[]|x::xs=>x++(xs.map fun y=>c::y).flatten
theorem AF (c:UInt8):∀xs:List (List UInt8),Lib.join xs [c]=ji c xs
 |[]=>rfl
 |[x]=>by simp[Lib.join,List.intercalate,ji]
 |x::y::xs=>by have a:=AF c (y::xs);unfold Lib.join List.intercalate at a ⊢;rw[List.intersperse_cons_cons,List.flatten_cons,List.flatten_cons,a];simp[ji]
theorem yZ (xs:List (List UInt8))(c:UInt8):bh (xs.map ofTx) ⟨#[c]⟩=ofTx (ji c xs):=by
 unfold bh;have:(xs.map ofTx).map (fun s:Y9=>s.data.toList)=xs:=by
  rw[WW]
  conv=>rhs;rw[←Yh xs]
  rfl
 rw[this];show ofTx (Lib.join xs [c])=_;rw[AF]
theorem BR (c:UInt8)(k:Nat):∀xs:List (List UInt8),(∀x∈xs,x.length≤k)→(ji c xs).length≤xs.length*(k+1)
 |[],_=>by simp[ji]
 |x::xs,h=>by
  have d:=h x (by simp);have:∀ys:List (List UInt8),(∀y∈ys,y.length≤k)→((ys.map fun y=>c::y).flatten).length≤ys.length*(k+1):=by
   intro ys;induction ys with
   |nil=>intro _;simp
   |cons y ys a =>
    intro h;have:=a fun z hz=>h z (by simp[hz])
    have:=h y (by simp);simp[XA]at *;omega
  have:=this xs fun y b=>h y (by simp[b])
  simp only[ji,XT,WL,XA];omega
theorem C3 {x:Int}(h:0≤x∧x≤59):(tx (bE x)).length≤2:=by show(Lib.itoa x).length≤2;unfold Lib.itoa;rw[Wo (by omega)];exact xP 1 _ (by omega)
noncomputable def aL (l:List Int)(size:Int):Y9:=cond ((l.length:Int)==size) ⟨#[42]⟩ (ofTx (ji 44 (l.map fun x=>tx (bE x))))
theorem il {l:List Int}(c:l.length≤60)(h:∀z∈l,0≤z∧z≤59)(n:Int):(aL l n).size≤200:=by
 unfold aL;cases(l.length:Int)==n with
 |true=>exact(by decide:(⟨#[42]⟩:Y9).size≤200)
 |false =>
  rw[Wu,sC];have:=BR 44 2 (l.map fun x=>tx (bE x)) (fun y a=>by obtain⟨x,b,rfl⟩:=Wx.1 a;exact C3 (h x b));rw[WH]at this;omega
theorem RG:∀(l:List Int)(i:Nat)(v:List UInt8),(∀z∈l,0≤z∧z≤59)→0<i→v.length+l.length*3≤1000→fh l i (ofTx v)=some (.x0 (ofTx (v++((l.map fun x=>44::tx (bE x)).flatten))))
 |[],i,v,_,_,_=>by unfold fh;simp
 |x::l,i,v,h,hi,b=>by have c:=h x (by simp);have hz:=C3 c;have a:(⟨#[44]⟩:Y9)=ofTx [44]:=rfl;simp only[WL]at b;unfold fh;rw[Wi (by omega),Wn,a,ru, ←xj (bE x),ru];simp only[sC,xz];rw[Wa (by simp[dC];omega),Wa (by omega),Wa (by simp[dC];omega),RG l (i+1) _ (fun z hz=>h z (by simp[hz])) (by omega) (by simp;omega)];simp
theorem TG (l:List Int)(n:Int)(a:l.length≤60)(h:∀z∈l,0≤z∧z≤59):r9 l n=some (aL l n):=by
 unfold r9 aL;cases(l.length:Int)==n with
 |true=>rfl
 |false =>
  rw[Wu,Wu,Wa (by omega)];cases l with
  |nil=>rfl
  |cons x l =>
   have b:=h x (by simp);have hz:=C3 b;simp only[WL]at a;unfold fh;have e:ByteArray.empty++bE x=ofTx (tx (bE x)):=by show ofTx []++ofTx (tx (bE x))=_;rw[ru];rfl
   have c:(bE x).size≤2:=by rw[dQ];exact hz
   have d:ByteArray.empty.size=0:=rfl;rw[Wj (by omega),Wu,Wa (by omega),Wa (by rw[d];unfold dC;omega),e,RG l _ _ (fun z hz=>h z (by simp[hz])) (by omega) (by omega),V9];simp only[Wv,ji,WW];rfl
theorem oh (a:List Int)(b:Int)(c:a.length≤60)(d:∀z∈a,0≤z∧z≤59):Does E 110 [.one (V8 1 (a.map etI)),V2 b] [VZ (aL a b)]:=by exact Nk a b _ (TG a b c d)
noncomputable def qG (a:GCron):Option (Y9×Bool):=if ab.sm a then cond (ka a) (if a.f0.length≤60 then if ∀z∈a.f0,0≤z∧z≤59 then if(aL a.f0 60).size+(⟨#[32]⟩:Y9).size≤dC then if a.f1.length≤60 then if ∀z∈a.f1,0≤z∧z≤59 then if((aL a.f0 (60:Int))++(⟨#[32]⟩:Y9)).size+(aL a.f1 24).size≤dC then if(((aL a.f0 (60:Int))++(⟨#[32]⟩:Y9))++(aL a.f1 24)).size+(⟨#[32]⟩:Y9).size≤dC then if a.f2.length≤60 then if ∀z∈a.f2,0≤z∧z≤59 then if((((aL a.f0 (60:Int))++(⟨#[32]⟩:Y9))++(aL a.f1 24))++(⟨#[32]⟩:Y9)).size+(aL a.f2 31).size≤dC then if(((((aL a.f0 (60:Int))++(⟨#[32]⟩:Y9))++(aL a.f1 24))++(⟨#[32]⟩:Y9))++(aL a.f2 31)).size+(⟨#[32]⟩:Y9).size≤dC then if a.f3.length≤60 then if ∀z∈a.f3,0≤z∧z≤59 then if((((((aL a.f0 (60:Int))++(⟨#[32]⟩:Y9))++(aL a.f1 24))++(⟨#[32]⟩:Y9))++(aL a.f2 31))++(⟨#[32]⟩:Y9)).size+(aL a.f3 12).size≤dC then if(((((((aL a.f0 (60:Int))++(⟨#[32]⟩:Y9))++(aL a.f1 24))++(⟨#[32]⟩:Y9))++(aL a.f2 31))++(⟨#[32]⟩:Y9))++(aL a.f3 12)).size+(⟨#[32]⟩:Y9).size≤dC then if a.f4.length≤60 then if ∀z∈a.f4,0≤z∧z≤59 then if((((((((aL a.f0 (60:Int))++(⟨#[32]⟩:Y9))++(aL a.f1 24))++(⟨#[32]⟩:Y9))++(aL a.f2 31))++(⟨#[32]⟩:Y9))++(aL a.f3 12))++(⟨#[32]⟩:Y9)).size+(aL a.f4 7).size≤dC then some (((((((((aL a.f0 (60:Int))++(⟨#[32]⟩:Y9))++(aL a.f1 24))++(⟨#[32]⟩:Y9))++(aL a.f2 31))++(⟨#[32]⟩:Y9))++(aL a.f3 12))++(⟨#[32]⟩:Y9))++(aL a.f4 7),true)else none else none else none else none else none else none else none else none else none else none else none else none else none else none else none else none else none else none) (some (ByteArray.empty,false))else none
theorem K3 (a:GCron):Ans (qG a) (fun r=>Does E 86 [.agg (VJ .far a)] [VZ r.1,VY r.2]):=by
 unfold qG;apply VE;intro l;apply VC<;>intro m
 ·apply VE;intro n;apply VE;intro o;apply VE;intro p;apply VE;intro q;apply VE;intro s;apply VE;intro u;apply VE;intro v;apply VE;intro w;apply VE;intro b;apply VE;intro c;apply VE;intro d;apply VE;intro e;apply VE;intro f;apply VE;intro g;apply VE;intro h;apply VE;intro i;apply VE;intro j;apply VE;intro k;exact Vz (DP Tryz.f86 [rT,.ret [VZ (aL a.f0 60)],.val (.string ((aL a.f0 (60:Int))++(⟨#[32]⟩:Y9))),.ret [VZ (aL a.f1 24)],.val (.string (((aL a.f0 (60:Int))++(⟨#[32]⟩:Y9))++(aL a.f1 24))),.val (.string ((((aL a.f0 (60:Int))++(⟨#[32]⟩:Y9))++(aL a.f1 24))++(⟨#[32]⟩:Y9))),.ret [VZ (aL a.f2 31)],.val (.string (((((aL a.f0 (60:Int))++(⟨#[32]⟩:Y9))++(aL a.f1 24))++(⟨#[32]⟩:Y9))++(aL a.f2 31))),.val (.string ((((((aL a.f0 (60:Int))++(⟨#[32]⟩:Y9))++(aL a.f1 24))++(⟨#[32]⟩:Y9))++(aL a.f2 31))++(⟨#[32]⟩:Y9))),.ret [VZ (aL a.f3 12)],.val (.string (((((((aL a.f0 (60:Int))++(⟨#[32]⟩:Y9))++(aL a.f1 24))++(⟨#[32]⟩:Y9))++(aL a.f2 31))++(⟨#[32]⟩:Y9))++(aL a.f3 12))),.val (.string ((((((((aL a.f0 (60:Int))++(⟨#[32]⟩:Y9))++(aL a.f1 24))++(⟨#[32]⟩:Y9))++(aL a.f2 31))++(⟨#[32]⟩:Y9))++(aL a.f3 12))++(⟨#[32]⟩:Y9))),.ret [VZ (aL a.f4 7)],.val (.string (((((((((aL a.f0 (60:Int))++(⟨#[32]⟩:Y9))++(aL a.f1 24))++(⟨#[32]⟩:Y9))++(aL a.f2 31))++(⟨#[32]⟩:Y9))++(aL a.f3 12))++(⟨#[32]⟩:Y9))++(aL a.f4 7)))] (AD (VH (DA a l) m)<|AD (oh a.f0 60 n o)<|AC (kp (tab:=E.tab) (t:=9) p)<|AD (oh a.f1 24 q s)<|AC (kp (tab:=E.tab) (t:=9) u)<|AC (kp (tab:=E.tab) (t:=9) v)<|AD (oh a.f2 31 w b)<|AC (kp (tab:=E.tab) (t:=9) c)<|AC (kp (tab:=E.tab) (t:=9) d)<|AD (oh a.f3 12 e f)<|AC (kp (tab:=E.tab) (t:=9) g)<|AC (kp (tab:=E.tab) (t:=9) h)<|AD (oh a.f4 7 i j)<|AC (kp (tab:=E.tab) (t:=9) k)<|AN))
 ·exact Vz (DP Tryz.f86 [rF] (AD (VH (DA a l) m)<|AN))
inductive yT where|x2 (v7:List Y9)
def oC (a b c d e:List Int)(v4 v7:List Y9)(f:Int)(v28:List Int)(g h:Int):US:=stL 48 [(1,.box () [V8 1 (a.map etI),V8 1 (b.map etI),V8 1 (c.map etI),V8 1 (d.map etI),V8 1 (e.map etI)]),(4,.one (V7 1 (v4.map etS))),(7,.one (V7 1 (v7.map etS))),(13,.clo (.arr [0,1,2,3,4]) [1,1,1,1,1]),(14,V2 f),(28,.one (V8 1 (v28.map etI))),(29,V2 g),(30,V2 h)]
def fQ (a b c d e:List Int)(v4:List Y9)(f:Int)(g:List Y9):US:=stL 48 [(1,.box () [V8 1 (a.map etI),V8 1 (b.map etI),V8 1 (c.map etI),V8 1 (d.map etI),V8 1 (e.map etI)]),(4,.one (V7 1 (v4.map etS))),(7,.one (V7 1 (g.map etS))),(13,.clo (.arr [0,1,2,3,4]) [1,1,1,1,1]),(14,V2 f)]
abbrev yS:US→Exit→US→Prop:=Round E 113 (an Tryz.f113 1)
def HF (a b c d e:List Int)(v4 v7:List Y9)(f:Int)(v28:List Int)(g h:Int):yT→Prop| .x2 i=>Loops E 113 (an Tryz.f113 1) (oC a b c d e v4 v7 f v28 g h) (.exit 2) (fQ a b c d e v4 f i)
noncomputable def cG  : List Int→Nat→(List Y9)→Option yT|[],i,v7=>some (.x2 v7)|hd::rest,i,v7=>if -9223372036854775808≤hd∧hd≤9223372036854775807 then if(v7.length+([bE hd]).length)*16≤140737488355328∧v7.length+([bE hd]).length≤4611686018427387904 then cG rest (i+1) (v7++([bE hd]))else none else none
theorem lI (a b c d e:List Int)(v4:List Y9)(f:Int)(v28:List Int)(rest:List Int):∀(i:Nat)(v7:List Y9),(v28).drop i=rest→v28.length≤9223372036854775807→Ans (cG rest i v7) (HF a b c d e v4 v7 f v28 (v28.length:Int) (i:Int)):=by
 induction rest with
 |nil =>intro i v7 g j;have hb:=aK g;unfold cG;exact Vz (VB (show yS (oC a b c d e v4 v7 f v28 (v28.length:Int) (i:Int)) (.exit 2) (fQ a b c d e v4 f v7)from RP [.b false] (AC hb<|AN)) (by intro h;cases h))
 |cons hd rest l =>intro i v7 g j;have hb:=aF g;have m:=aG g j;have k:=au g;have n:=aE g;unfold cG;apply VE;intro o;apply VE;intro p;exact(l (i+1) (v7++([bE hd])) k j).mono fun y q=>by have r:yS (oC a b c d e v4 v7 f v28 (v28.length:Int) (i:Int)) .normal (oC a b c d e v4 (v7++([bE hd])) f v28 (v28.length:Int) (inc (i:Int))):=RP [.b true,.row (etI hd),.ret [VZ (bE hd)],.rows ((v7++([bE hd])).map etS)] (AC hb<|AR etI n<|AD (vR hd o)<|AAp etS (fun _=>rfl) p<|AN);rw[m]at r;cases y<;>exact VA r q
inductive sL where|x0 (v4:List Y9)
def bm (a b c d e:List Int)(v4:List Y9)(f:Int):US:=stL 48 [(1,.box () [V8 1 (a.map etI),V8 1 (b.map etI),V8 1 (c.map etI),V8 1 (d.map etI),V8 1 (e.map etI)]),(4,.one (V7 1 (v4.map etS))),(13,.clo (.arr [0,1,2,3,4]) [1,1,1,1,1]),(14,V2 f)]
def pX (a:List Y9):US:=stL 48 [(4,.one (V7 1 (a.map etS)))]
abbrev dB:US→Exit→US→Prop:=Round E 113 (an Tryz.f113 0)
def HE (a b c d e:List Int)(v4:List Y9)(f:Int):sL→Prop| .x0 g=>Loops E 113 (an Tryz.f113 0) (bm a b c d e v4 f) (.exit 0) (pX g)
noncomputable def aR (c d e f g:List Int):Nat→(List Y9)→Int→Option sL
 | 0,_,_=>none
 |n+1,v4,b=>cond (decide (b<(5:Int)))
  (cond (b==(0:Int))
   (cond (ql c b)
    (if(v4.length+([(⟨#[42]⟩:Y9)]).length)*16≤140737488355328∧v4.length+([(⟨#[42]⟩:Y9)]).length≤4611686018427387904 then aR c d e f g n (v4++([(⟨#[42]⟩:Y9)])) (inc b)else none)
    (if c.length≤9223372036854775807 then(cG c 0 ([])).bind fun y=>match y with
     | .x2 a=>(if a.length≤140737488355328∧(bh a (⟨#[44]⟩:Y9)).size≤140737488355328 then if(v4.length+([bh a (⟨#[44]⟩:Y9)]).length)*16≤140737488355328∧v4.length+([bh a (⟨#[44]⟩:Y9)]).length≤4611686018427387904 then aR c d e f g n (v4++([bh a (⟨#[44]⟩:Y9)])) (inc b)else none else none)else none))
   (cond (b==(1:Int))
    (cond (ql d b)
     (if(v4.length+([(⟨#[42]⟩:Y9)]).length)*16≤140737488355328∧v4.length+([(⟨#[42]⟩:Y9)]).length≤4611686018427387904 then aR c d e f g n (v4++([(⟨#[42]⟩:Y9)])) (inc b)else none)
     (if d.length≤9223372036854775807 then(cG d 0 ([])).bind fun y=>match y with
      | .x2 a=>(if a.length≤140737488355328∧(bh a (⟨#[44]⟩:Y9)).size≤140737488355328 then if(v4.length+([bh a (⟨#[44]⟩:Y9)]).length)*16≤140737488355328∧v4.length+([bh a (⟨#[44]⟩:Y9)]).length≤4611686018427387904 then aR c d e f g n (v4++([bh a (⟨#[44]⟩:Y9)])) (inc b)else none else none)else none))
    (cond (b==(2:Int))
     (cond (ql e b)
      (if(v4.length+([(⟨#[42]⟩:Y9)]).length)*16≤140737488355328∧v4.length+([(⟨#[42]⟩:Y9)]).length≤4611686018427387904 then aR c d e f g n (v4++([(⟨#[42]⟩:Y9)])) (inc b)else none)
      (if e.length≤9223372036854775807 then(cG e 0 ([])).bind fun y=>match y with
       | .x2 a=>(if a.length≤140737488355328∧(bh a (⟨#[44]⟩:Y9)).size≤140737488355328 then if(v4.length+([bh a (⟨#[44]⟩:Y9)]).length)*16≤140737488355328∧v4.length+([bh a (⟨#[44]⟩:Y9)]).length≤4611686018427387904 then aR c d e f g n (v4++([bh a (⟨#[44]⟩:Y9)])) (inc b)else none else none)else none))
     (cond (b==(3:Int))
      (cond (ql f b)
       (if(v4.length+([(⟨#[42]⟩:Y9)]).length)*16≤140737488355328∧v4.length+([(⟨#[42]⟩:Y9)]).length≤4611686018427387904 then aR c d e f g n (v4++([(⟨#[42]⟩:Y9)])) (inc b)else none)
       (if f.length≤9223372036854775807 then(cG f 0 ([])).bind fun y=>match y with
        | .x2 a=>(if a.length≤140737488355328∧(bh a (⟨#[44]⟩:Y9)).size≤140737488355328 then if(v4.length+([bh a (⟨#[44]⟩:Y9)]).length)*16≤140737488355328∧v4.length+([bh a (⟨#[44]⟩:Y9)]).length≤4611686018427387904 then aR c d e f g n (v4++([bh a (⟨#[44]⟩:Y9)])) (inc b)else none else none)else none))
      (if b=(4:Int)then cond (ql g b)
       (if(v4.length+([(⟨#[42]⟩:Y9)]).length)*16≤140737488355328∧v4.length+([(⟨#[42]⟩:Y9)]).length≤4611686018427387904 then aR c d e f g n (v4++([(⟨#[42]⟩:Y9)])) (inc b)else none)
       (if g.length≤9223372036854775807 then(cG g 0 ([])).bind fun y=>match y with
        | .x2 a=>(if a.length≤140737488355328∧(bh a (⟨#[44]⟩:Y9)).size≤140737488355328 then if(v4.length+([bh a (⟨#[44]⟩:Y9)]).length)*16≤140737488355328∧v4.length+([bh a (⟨#[44]⟩:Y9)]).length≤4611686018427387904 then aR c d e f g n (v4++([bh a (⟨#[44]⟩:Y9)])) (inc b)else none else none)else none)else none)))))
  (some (.x0 v4))
theorem HD (c d e f g:List Int)(n:Nat):∀(v4:List Y9)(b:Int),Ans (aR c d e f g n v4 b) (HE c d e f g v4 b):=by
 induction n with
 |zero=>intros;exact Ans.none
 |succ n o =>
  intro v4 b;unfold aR;apply VC<;>intro l
  ·apply VC<;>intro B
   ·apply VC<;>intro v
    ·apply VE;intro s;have r:dB (bm c d e f g v4 b) .normal (bm c d e f g (v4++([(⟨#[42]⟩:Y9)])) (inc b)):=RP [.b true,V5 0,rT,.rows ((v4++([(⟨#[42]⟩:Y9)])).map etS)] (AC l<|AC (p:=b=(0:Int)) (eq_of_beq B)<|AD (VH (iS c b) v)<|AAp etS (fun _=>rfl) s<|AN);exact(o (v4++([(⟨#[42]⟩:Y9)])) (inc b)).mono fun y i=>by cases y<;>exact VA r i
    ·apply VE;intro w;apply VD;intro y i;replace i:=lI c d e f g v4 b c c 0 ([]) rfl w y i;cases y with
     |x2 a =>have s:=i;apply VE;intro m;apply VE;intro j;have r:dB (bm c d e f g v4 b) .normal (bm c d e f g (v4++([bh a (⟨#[44]⟩:Y9)])) (inc b)):=RP [.b true,V5 0,rF,V5 (c.length:Int),.lp (.exit 2) (fQ c d e f g v4 b a),.ret [VZ (bh a (⟨#[44]⟩:Y9))],.rows ((v4++([bh a (⟨#[44]⟩:Y9)])).map etS)] (AC l<|AC (p:=b=(0:Int)) (eq_of_beq B)<|AD (VH (iS c b) v)<|ALn c etI<|AL s<|AV (ψ:=fun k=>E.C k 131 [.one (V8 1 (((a.map etS).drop 0).take (a.map etS).length)),V4 (⟨#[44]⟩:Y9)]=some [VZ (bh a (⟨#[44]⟩:Y9))]) (VG (by simp only[WS,WK]) (jh a (⟨#[44]⟩:Y9) m))<|AAp etS (fun _=>rfl) j<|AN);exact(o (v4++([bh a (⟨#[44]⟩:Y9)])) (inc b)).mono fun y i=>by cases y<;>exact VA r i
   ·apply VC<;>intro v
    ·apply VC<;>intro s
     ·apply VE;intro m;have r:dB (bm c d e f g v4 b) .normal (bm c d e f g (v4++([(⟨#[42]⟩:Y9)])) (inc b)):=RP [.b true,V5 1,rT,.rows ((v4++([(⟨#[42]⟩:Y9)])).map etS)] (AC l<|AC (p:=b=(1:Int)) (eq_of_beq v)<|AD (VH (iS d b) s)<|AAp etS (fun _=>rfl) m<|AN);exact(o (v4++([(⟨#[42]⟩:Y9)])) (inc b)).mono fun y i=>by cases y<;>exact VA r i
     ·apply VE;intro x;apply VD;intro y i;replace i:=lI c d e f g v4 b d d 0 ([]) rfl x y i;cases y with
      |x2 a =>have m:=i;apply VE;intro j;apply VE;intro q;have r:dB (bm c d e f g v4 b) .normal (bm c d e f g (v4++([bh a (⟨#[44]⟩:Y9)])) (inc b)):=RP [.b true,V5 1,rF,V5 (d.length:Int),.lp (.exit 2) (fQ c d e f g v4 b a),.ret [VZ (bh a (⟨#[44]⟩:Y9))],.rows ((v4++([bh a (⟨#[44]⟩:Y9)])).map etS)] (AC l<|AC (p:=b=(1:Int)) (eq_of_beq v)<|AD (VH (iS d b) s)<|ALn d etI<|AL m<|AV (ψ:=fun k=>E.C k 131 [.one (V8 1 (((a.map etS).drop 0).take (a.map etS).length)),V4 (⟨#[44]⟩:Y9)]=some [VZ (bh a (⟨#[44]⟩:Y9))]) (VG (by simp only[WS,WK]) (jh a (⟨#[44]⟩:Y9) j))<|AAp etS (fun _=>rfl) q<|AN);exact(o (v4++([bh a (⟨#[44]⟩:Y9)])) (inc b)).mono fun y i=>by cases y<;>exact VA r i
    ·apply VC<;>intro s
     ·apply VC<;>intro m
      ·apply VE;intro j;have r:dB (bm c d e f g v4 b) .normal (bm c d e f g (v4++([(⟨#[42]⟩:Y9)])) (inc b)):=RP [.b true,V5 2,rT,.rows ((v4++([(⟨#[42]⟩:Y9)])).map etS)] (AC l<|AC (p:=b=(2:Int)) (eq_of_beq s)<|AD (VH (iS e b) m)<|AAp etS (fun _=>rfl) j<|AN);exact(o (v4++([(⟨#[42]⟩:Y9)])) (inc b)).mono fun y i=>by cases y<;>exact VA r i
      ·apply VE;intro z;apply VD;intro y i;replace i:=lI c d e f g v4 b e e 0 ([]) rfl z y i;cases y with
       |x2 a =>have j:=i;apply VE;intro q;apply VE;intro t;have r:dB (bm c d e f g v4 b) .normal (bm c d e f g (v4++([bh a (⟨#[44]⟩:Y9)])) (inc b)):=RP [.b true,V5 2,rF,V5 (e.length:Int),.lp (.exit 2) (fQ c d e f g v4 b a),.ret [VZ (bh a (⟨#[44]⟩:Y9))],.rows ((v4++([bh a (⟨#[44]⟩:Y9)])).map etS)] (AC l<|AC (p:=b=(2:Int)) (eq_of_beq s)<|AD (VH (iS e b) m)<|ALn e etI<|AL j<|AV (ψ:=fun k=>E.C k 131 [.one (V8 1 (((a.map etS).drop 0).take (a.map etS).length)),V4 (⟨#[44]⟩:Y9)]=some [VZ (bh a (⟨#[44]⟩:Y9))]) (VG (by simp only[WS,WK]) (jh a (⟨#[44]⟩:Y9) q))<|AAp etS (fun _=>rfl) t<|AN);exact(o (v4++([bh a (⟨#[44]⟩:Y9)])) (inc b)).mono fun y i=>by cases y<;>exact VA r i
     ·apply VC<;>intro m
      ·apply VC<;>intro j
       ·apply VE;intro q;have r:dB (bm c d e f g v4 b) .normal (bm c d e f g (v4++([(⟨#[42]⟩:Y9)])) (inc b)):=RP [.b true,V5 3,rT,.rows ((v4++([(⟨#[42]⟩:Y9)])).map etS)] (AC l<|AC (p:=b=(3:Int)) (eq_of_beq m)<|AD (VH (iS f b) j)<|AAp etS (fun _=>rfl) q<|AN);exact(o (v4++([(⟨#[42]⟩:Y9)])) (inc b)).mono fun y i=>by cases y<;>exact VA r i
       ·apply VE;intro u;apply VD;intro y i;replace i:=lI c d e f g v4 b f f 0 ([]) rfl u y i;cases y with
        |x2 a =>have q:=i;apply VE;intro t;apply VE;intro A;have r:dB (bm c d e f g v4 b) .normal (bm c d e f g (v4++([bh a (⟨#[44]⟩:Y9)])) (inc b)):=RP [.b true,V5 3,rF,V5 (f.length:Int),.lp (.exit 2) (fQ c d e f g v4 b a),.ret [VZ (bh a (⟨#[44]⟩:Y9))],.rows ((v4++([bh a (⟨#[44]⟩:Y9)])).map etS)] (AC l<|AC (p:=b=(3:Int)) (eq_of_beq m)<|AD (VH (iS f b) j)<|ALn f etI<|AL q<|AV (ψ:=fun k=>E.C k 131 [.one (V8 1 (((a.map etS).drop 0).take (a.map etS).length)),V4 (⟨#[44]⟩:Y9)]=some [VZ (bh a (⟨#[44]⟩:Y9))]) (VG (by simp only[WS,WK]) (jh a (⟨#[44]⟩:Y9) t))<|AAp etS (fun _=>rfl) A<|AN);exact(o (v4++([bh a (⟨#[44]⟩:Y9)])) (inc b)).mono fun y i=>by cases y<;>exact VA r i
      ·apply VE;intro j;apply VC<;>intro q
       ·apply VE;intro t;have r:dB (bm c d e f g v4 b) .normal (bm c d e f g (v4++([(⟨#[42]⟩:Y9)])) (inc b)):=RP [.b true,V5 4,rT,.rows ((v4++([(⟨#[42]⟩:Y9)])).map etS)] (AC l<|AC j<|AD (VH (iS g b) q)<|AAp etS (fun _=>rfl) t<|AN);exact(o (v4++([(⟨#[42]⟩:Y9)])) (inc b)).mono fun y i=>by cases y<;>exact VA r i
       ·apply VE;intro u;apply VD;intro y i;replace i:=lI c d e f g v4 b g g 0 ([]) rfl u y i;cases y with
        |x2 a =>have t:=i;apply VE;intro A;apply VE;intro D;have r:dB (bm c d e f g v4 b) .normal (bm c d e f g (v4++([bh a (⟨#[44]⟩:Y9)])) (inc b)):=RP [.b true,V5 4,rF,V5 (g.length:Int),.lp (.exit 2) (fQ c d e f g v4 b a),.ret [VZ (bh a (⟨#[44]⟩:Y9))],.rows ((v4++([bh a (⟨#[44]⟩:Y9)])).map etS)] (AC l<|AC j<|AD (VH (iS g b) q)<|ALn g etI<|AL t<|AV (ψ:=fun k=>E.C k 131 [.one (V8 1 (((a.map etS).drop 0).take (a.map etS).length)),V4 (⟨#[44]⟩:Y9)]=some [VZ (bh a (⟨#[44]⟩:Y9))]) (VG (by simp only[WS,WK]) (jh a (⟨#[44]⟩:Y9) A))<|AAp etS (fun _=>rfl) D<|AN);exact(o (v4++([bh a (⟨#[44]⟩:Y9)])) (inc b)).mono fun y i=>by cases y<;>exact VA r i
  ·exact Vz (VB (show dB (bm c d e f g v4 b) (.exit 0) (pX v4)from RP [.b false] (AC l<|AN)) (by intro h;cases h))
noncomputable def pY (b:GCron):Option (Y9×Bool):=
  if ab.sm b then cond (ka b)
   ((aR b.f0 b.f1 b.f2 b.f3 b.f4 9223372036854775808 ([]) 0).bind fun y=>match y with
    | .x0 a=>(if a.length≤140737488355328∧(bh a (⟨#[32]⟩:Y9)).size≤140737488355328 then some (bh a (⟨#[32]⟩:Y9),true)else none))
   (some (ByteArray.empty,false))else none
theorem JV (x0:GCron):Ans (pY x0) (fun r=>Does E 113 [.agg (VJ .far x0)] [VZ r.1,VY r.2]):=by
 unfold pY;apply VE;intro c;apply VC<;>intro d
 ·apply VD;intro y b;replace b:=HD x0.f0 x0.f1 x0.f2 x0.f3 x0.f4 9223372036854775808 ([]) 0 y b;cases y with
  |x0 a =>have e:=b;apply VE;intro f;exact Vz (DP Tryz.f113 [rT,.lp (.exit 0) (pX a),.ret [VZ (bh a (⟨#[32]⟩:Y9))]] (AD (VH (Du x0 c) d)<|AL e<|AV (ψ:=fun k=>E.C k 131 [.one (V8 1 (((a.map etS).drop 0).take (a.map etS).length)),V4 (⟨#[32]⟩:Y9)]=some [VZ (bh a (⟨#[32]⟩:Y9))]) (VG (by simp only[WS,WK]) (jh a (⟨#[32]⟩:Y9) f))<|AN))
 ·exact Vz (DP Tryz.f113 [rF] (AD (VH (Du x0 c) d)<|AN))
theorem Hd {a b:Int}:∀{l:List Int}{p:Option Int},lL a b l p=true→l.Pairwise (· < ·)∧∀y,p=some y→∀x∈l,y<x
 |[],p,_=>⟨by simp,fun y _ x hx=>by cases hx⟩
 |z::l,p,h=>by
  unfold lL at h;simp only[Ww]at h;obtain⟨d,f⟩:=Hd h.2;have c:=f z rfl;refine⟨YP.2 ⟨c,d⟩,fun y e x hx=>?_⟩;subst e;have g:y<z:=by simpa using h.1.2
  rcases WE.1 hx with rfl|hx
  ·exact g
  ·have:=c x hx;omega
theorem KW {a b:Int}:∀{l:List Int}{p:Option Int},lL a b l p=true→∀x∈l,a≤x∧x≤b
 |[],_,_,x,hx=>by cases hx
 |y::l,p,h,x,hx=>by
  unfold lL at h;simp only[Ww]at h;rcases WE.1 hx with rfl|hx
  ·have:=h.1.1;unfold ag at this;simpa using this
  ·exact KW h.2 x hx
theorem GY {l:List Int}{a b:Int}(h:bi l a b=true):∀x∈l,a≤x∧x≤b:=by unfold bi at h;rw[Ww]at h;have h:=h.1;exact KW h
theorem Px {l:List Int}{a b:Int}(h:bi l a b=true)(c:a≤b+1):(l.length:Int)≤b+1-a:=by have hi:=GY h;unfold bi at h;rw[Ww]at h;exact yt a b l a (Hd h.1).1 hi c
theorem DG {c:GCron}(h:ka c=true):bi c.f0 0 59=true∧bi c.f1 0 23=true∧bi c.f2 1 31=true∧bi c.f3 1 12=true∧bi c.f4 0 6=true:=by unfold ka at h;simp only[Ww]at h;exact h
theorem ja {l:List Int}{a b:Int}(h:bi l a b=true)(c:0≤a)(d:a≤b)(e:b≤59):l.length≤60∧∀z∈l,0≤z∧z≤59:=by have:=Px h (by omega);exact⟨by omega,fun z hz=>by have:=GY h z hz;omega⟩
noncomputable def xO (c:GCron):Y9:=ofTx (ji 32 [tx (aL c.f0 60),tx (aL c.f1 24),tx (aL c.f2 31),tx (aL c.f3 12),tx (aL c.f4 7)])
noncomputable def bq (c:GCron):Y9×Bool:=cond (ka c) (xO c,true) (ByteArray.empty,false)
theorem Uu (a b c d e:Y9):((((((((a++⟨#[32]⟩)++b)++⟨#[32]⟩)++c)++⟨#[32]⟩)++d)++⟨#[32]⟩)++e:Y9)=ofTx (ji 32 [tx a,tx b,tx c,tx d,tx e]):=by apply sG;have f:tx (⟨#[32]⟩:Y9)=[32]:=rfl;simp[RR,f,xz,ji]
theorem Ue (c:GCron)(h:ab.sm c):qG c=some (bq c):=by
 unfold qG bq;rw[Wa h];cases q:ka c with
 |false=>rfl
 |true =>
  obtain⟨d,e,f,g,i⟩:=DG q;have a0:=ja d (by decide) (by decide) (by decide);have a:=ja e (by decide) (by decide) (by decide);have a2:=ja f (by decide) (by decide) (by decide);have a3:=ja g (by decide) (by decide) (by decide);have a4:=ja i (by decide) (by decide) (by decide);have z0:=il a0.1 a0.2 60;have j:=il a.1 a.2 24;have z2:=il a2.1 a2.2 31;have z3:=il a3.1 a3.2 12;have z4:=il a4.1 a4.2 7;have b:(⟨#[32]⟩:Y9).size=1:=rfl;rw[Wn,Wn];simp only[Wa a0.1,Wa a0.2,Wa a.1,Wa a.2,Wa a2.1,Wa a2.2,Wa a3.1,Wa a3.2,Wa a4.1,Wa a4.2,ByteArray.size_append,b,dC];repeat rw[Wa (by omega)]
  rw[Uu];rfl
theorem S8:∀(l:List Int)(i:Nat)(v:List Y9),(∀z∈l,0≤z∧z≤59)→v.length+l.length≤1000→cG l i v=some (.x2 (v++l.map bE))
 |[],i,v,_,_=>by unfold cG;simp
 |x::l,i,v,h,a=>by have b:=h x (by simp);simp only[WL]at a;unfold cG;rw[Wa (by omega),Wa (by simp;omega),S8 l (i+1) _ (fun z hz=>h z (by simp[hz])) (by simp;omega)];simp
theorem sE (l:List Int)(d:l.length≤60)(c:∀z∈l,0≤z∧z≤59)(v:List Y9)(hv:v.length≤10)(b:Bool)(n:Int)(hb:b=((l.length:Int)==n))(K:List Y9→Option sL):
  cond b
    (if(v.length+([(⟨#[42]⟩:Y9)]).length)*16≤140737488355328∧v.length+([(⟨#[42]⟩:Y9)]).length≤4611686018427387904 then K (v++([(⟨#[42]⟩:Y9)]))else none)
    (if l.length≤9223372036854775807 then(cG l 0 ([])).bind fun y=>match y with
     | .x2 a=>(if a.length≤140737488355328∧(bh a (⟨#[44]⟩:Y9)).size≤140737488355328 then if(v.length+([bh a (⟨#[44]⟩:Y9)]).length)*16≤140737488355328∧v.length+([bh a (⟨#[44]⟩:Y9)]).length≤4611686018427387904 then K (v++([bh a (⟨#[44]⟩:Y9)]))else none else none)else none)=K (v++[aL l n]):=by
 subst hb;have f:bh (l.map bE) ⟨#[44]⟩=ofTx (ji 44 (l.map fun x=>tx (bE x))):=by
  have e:l.map bE=(l.map fun x=>tx (bE x)).map ofTx:=by rw[WW];rfl
  rw[e,yZ]
 unfold aL;have hz:=il d c n;unfold aL at hz;cases q:(l.length:Int)==n with
 |true=>rw[Wn,Wa (by simp;omega),Wn]
 |false =>rw[q,Wu]at hz;rw[Wu,Wu,Wa (by omega),S8 l 0 [] c (by simp;omega),V9];simp only[WI];rw[f,Wa (by rw[WH];omega),Wa (by simp;omega)]
theorem Ud (c:GCron)(h:ab.sm c):pY c=some (bq c):=by
 unfold pY bq;rw[Wa h];cases q:ka c with
 |false=>rfl
 |true =>
  obtain⟨d,e,f,g,i⟩:=DG q;have a0:=ja d (by decide) (by decide) (by decide);have a:=ja e (by decide) (by decide) (by decide);have a2:=ja f (by decide) (by decide) (by decide);have a3:=ja g (by decide) (by decide) (by decide);have a4:=ja i (by decide) (by decide) (by decide);have z0:=il a0.1 a0.2 60;have s:=il a.1 a.2 24;have z2:=il a2.1 a2.2 31;have z3:=il a3.1 a3.2 12;have z4:=il a4.1 a4.2 7;have j:∀n,aR c.f0 c.f1 c.f2 c.f3 c.f4 (n+1) [] 0=aR c.f0 c.f1 c.f2 c.f3 c.f4 n ([]++[aL c.f0 60]) 1:=fun n =>sE c.f0 a0.1 a0.2 [] (by simp) (ql c.f0 0) 60 rfl fun w=>aR c.f0 c.f1 c.f2 c.f3 c.f4 n w 1
  have k:∀n v,v.length≤10→aR c.f0 c.f1 c.f2 c.f3 c.f4 (n+1) v 1=aR c.f0 c.f1 c.f2 c.f3 c.f4 n (v++[aL c.f1 24]) 2:=fun n v hv =>sE c.f1 a.1 a.2 v hv (ql c.f1 1) 24 rfl fun w=>aR c.f0 c.f1 c.f2 c.f3 c.f4 n w 2
  have l:∀n v,v.length≤10→aR c.f0 c.f1 c.f2 c.f3 c.f4 (n+1) v 2=aR c.f0 c.f1 c.f2 c.f3 c.f4 n (v++[aL c.f2 31]) 3:=fun n v hv =>sE c.f2 a2.1 a2.2 v hv (ql c.f2 2) 31 rfl fun w=>aR c.f0 c.f1 c.f2 c.f3 c.f4 n w 3
  have m:∀n v,v.length≤10→aR c.f0 c.f1 c.f2 c.f3 c.f4 (n+1) v 3=aR c.f0 c.f1 c.f2 c.f3 c.f4 n (v++[aL c.f3 12]) 4:=fun n v hv =>sE c.f3 a3.1 a3.2 v hv (ql c.f3 3) 12 rfl fun w=>aR c.f0 c.f1 c.f2 c.f3 c.f4 n w 4
  have o:∀n v,v.length≤10→aR c.f0 c.f1 c.f2 c.f3 c.f4 (n+1) v 4=aR c.f0 c.f1 c.f2 c.f3 c.f4 n (v++[aL c.f4 7]) 5:=fun n v hv =>sE c.f4 a4.1 a4.2 v hv (ql c.f4 4) 7 rfl fun w=>aR c.f0 c.f1 c.f2 c.f3 c.f4 n w 5
  have p:∀n v,aR c.f0 c.f1 c.f2 c.f3 c.f4 (n+1) v 5=some (.x0 v):=fun n v=>rfl
  have st:aR c.f0 c.f1 c.f2 c.f3 c.f4 (9223372036854775802+6) [] 0=_:=j _;rw[k _ _ (by simp),l _ _ (by simp),m _ _ (by simp),o _ _ (by simp),p]at st;simp only[WI,Ym]at st;rw[Wn,Wn];refine(Wy (Option.bind · _) st).trans ?_;rw[V9];have r:bh [aL c.f0 60,aL c.f1 24,aL c.f2 31,aL c.f3 12,aL c.f4 7] ⟨#[32]⟩=xO c:=yZ [tx (aL c.f0 60),tx (aL c.f1 24),tx (aL c.f2 31),tx (aL c.f3 12),tx (aL c.f4 7)] 32;have t:(xO c).size≤2000:=by
   unfold xO;rw[sC];have:=BR 32 200 [tx (aL c.f0 60),tx (aL c.f1 24),tx (aL c.f2 31),tx (aL c.f3 12),tx (aL c.f4 7)] (fun x b=>by simp only[WE,XR,Yx]at b;rcases b with rfl|rfl|rfl|rfl|rfl<;>rw[←dQ]<;>assumption);simp only[WL,Yn]at this;omega
  show(if _ then _ else none)=_;rw[r,Wa ⟨by simp,by omega⟩]
theorem fP (a:GCron)(h:ab.sm a):Does E 86 [.agg (VJ .far a)] [VZ ((bq a).1),VY ((bq a).2)]:=by exact K3 a _ (Ue a h)
theorem zD (a:GCron)(h:ab.sm a):Does E 113 [.agg (VJ .far a)] [VZ ((bq a).1),VY ((bq a).2)]:=by exact JV a _ (Ud a h)
end
end Go.Proofs.YtjikhkndmohepaaGreatDoor.Am
