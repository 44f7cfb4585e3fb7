/- Rules. -/
import Derived.Test.YtlgddjncnedkgaaGreatDoorWords
namespace Go.Proofs.YtlgddjncnedkgaaGreatDoor.Am
open Go
set_option linter.unusedVariables false
set_option linter.unusedSimpArgs false
section
open Go.Proofs Classical
set_option maxRecDepth 100000
inductive yA where|ret (v2_0 v2_1 v2_2 v2_3 v2_4:List Int) (v3:Bool)|x0
def jL (v2_0 v2_1 v2_2 v2_3 v2_4 v6_0 v6_1 v6_2 v6_3 v6_4:List Int)(v7:List Bool)(v8:Int):US:=stL 85 [(2,.box () [Ww 1 (v2_0.map etI),Ww 1 (v2_1.map etI),Ww 1 (v2_2.map etI),Ww 1 (v2_3.map etI),Ww 1 (v2_4.map etI)]),(6,.box () [Ww 1 (v6_0.map etI),Ww 1 (v6_1.map etI),Ww 1 (v6_2.map etI),Ww 1 (v6_3.map etI),Ww 1 (v6_4.map etI)]),(7,.one (Ww 1 (v7.map etB))),(8,Wr v8)]
def oH (a b c d e:List Int)(f:Bool):US:=stL 85 [(2,.box () [Ww 1 (a.map etI),Ww 1 (b.map etI),Ww 1 (c.map etI),Ww 1 (d.map etI),Ww 1 (e.map etI)]),(3,Ws f)]
def pS (v2_0 v2_1 v2_2 v2_3 v2_4 v6_0 v6_1 v6_2 v6_3 v6_4:List Int):US:=stL 85 [(2,.box () [Ww 1 (v2_0.map etI),Ww 1 (v2_1.map etI),Ww 1 (v2_2.map etI),Ww 1 (v2_3.map etI),Ww 1 (v2_4.map etI)]),(6,.box () [Ww 1 (v6_0.map etI),Ww 1 (v6_1.map etI),Ww 1 (v6_2.map etI),Ww 1 (v6_3.map etI),Ww 1 (v6_4.map etI)])]
abbrev rZ:US→Exit→US→Prop:=Round E 91 (aq Tryz.f91 0)
def Hh (v2_0 v2_1 v2_2 v2_3 v2_4 v6_0 v6_1 v6_2 v6_3 v6_4:List Int)(v7:List Bool)(v8:Int):yA→Prop| .ret a b c d e f=>Loops E 91 (aq Tryz.f91 0) (jL v2_0 v2_1 v2_2 v2_3 v2_4 v6_0 v6_1 v6_2 v6_3 v6_4 v7 v8) .ret (oH a b c d e f)| .x0=>Loops E 91 (aq Tryz.f91 0) (jL v2_0 v2_1 v2_2 v2_3 v2_4 v6_0 v6_1 v6_2 v6_3 v6_4 v7 v8) (.exit 0) (pS v2_0 v2_1 v2_2 v2_3 v2_4 v6_0 v6_1 v6_2 v6_3 v6_4)
noncomputable def jM (v7:List Bool):Nat→Int→Option yA| 0,_=>none|n+1,v8=>cond (decide (v8<(5:Int))) ((ar v7 v8).bind fun a=>cond (a) (jM v7 n (inc v8)) (some (.ret ([]) ([]) ([]) ([]) ([]) false))) (some (.x0))
theorem Hg (v2_0 v2_1 v2_2 v2_3 v2_4 v6_0 v6_1 v6_2 v6_3 v6_4:List Int)(v7:List Bool)(n:Nat):∀(v8:Int),Ans (jM v7 n v8) (Hh v2_0 v2_1 v2_2 v2_3 v2_4 v6_0 v6_1 v6_2 v6_3 v6_4 v7 v8):=by
 induction n with
 |zero=>intros;exact Ans.none
 |succ n e =>
  intro v8;unfold jM;apply V4<;>intro b
  ·apply V5;intro c a;apply V4<;>intro d
   ·have r:rZ (jL v2_0 v2_1 v2_2 v2_3 v2_4 v6_0 v6_1 v6_2 v6_3 v6_4 v7 v8) .normal (jL v2_0 v2_1 v2_2 v2_3 v2_4 v6_0 v6_1 v6_2 v6_3 v6_4 v7 (inc v8)):=RP [.b true,.row ([tB true])] (AC b<|AC (p:=0≤v8∧v8<((v7.map etB).length:Int)) (di a)<|AC (p:=(v7.map etB)[0+v8.toNat]?=some ([tB true])) ((bC a).trans (WV some (show [tB c]=[tB true] by rw[d])))<|AN);exact(e (inc v8)).mono fun y f=>by cases y<;>exact V2 r f
   ·exact VZ (V3 (show rZ (jL v2_0 v2_1 v2_2 v2_3 v2_4 v6_0 v6_1 v6_2 v6_3 v6_4 v7 v8) .ret (oH ([]) ([]) ([]) ([]) ([]) false)from RP [.b true,.row ([tB false])] (AC b<|AC (p:=0≤v8∧v8<((v7.map etB).length:Int)) (di a)<|AC (p:=(v7.map etB)[0+v8.toNat]?=some ([tB false])) ((bC a).trans (WV some (show [tB c]=[tB false] by rw[d])))<|AN)))
  ·exact VZ (V3 (show rZ (jL v2_0 v2_1 v2_2 v2_3 v2_4 v6_0 v6_1 v6_2 v6_3 v6_4 v7 v8) (.exit 0) (pS v2_0 v2_1 v2_2 v2_3 v2_4 v6_0 v6_1 v6_2 v6_3 v6_4)from RP [.b false] (AC b<|AN)))
noncomputable def pp (f:Zz):Option (GCron×Bool):=
  cond ((aX f).2)
   (cond ((((aX f).1).length:Int) != 5)
    (some ((GCron.mk ([]:List Int) ([]:List Int) ([]:List Int) ([]:List Int) ([]:List Int)),false))
    (if 0≤(5:Int)∧(5:Int)≤(5:Int)∧((1:Nat):Int)*(5:Int)≤281474976710656∧(5:Int)≤4611686018427387904 then(ar ((aX f).1) 0).bind fun g=>if g.size≤2000000 then if 0≤(0:Int)∧(0:Int)≤(59:Int)∧(59:Int)≤59 then(ar (List.replicate (5:Int).toNat false) 0).bind fun g1=>(ar ((aX f).1) 1).bind fun h=>if h.size≤2000000 then if 0≤(0:Int)∧(0:Int)≤(23:Int)∧(23:Int)≤59 then(ar ((List.replicate (5:Int).toNat false).set (0:Int).toNat ((aj g 0 59).2)) 1).bind fun g3=>(ar ((aX f).1) 2).bind fun g4=>if g4.size≤2000000 then if 0≤(1:Int)∧(1:Int)≤(31:Int)∧(31:Int)≤59 then(ar (((List.replicate (5:Int).toNat false).set (0:Int).toNat ((aj g 0 59).2)).set (1:Int).toNat ((aj h 0 23).2)) 2).bind fun l=>(ar ((aX f).1) 3).bind fun j=>if j.size≤2000000 then if 0≤(1:Int)∧(1:Int)≤(12:Int)∧(12:Int)≤59 then(ar ((((List.replicate (5:Int).toNat false).set (0:Int).toNat ((aj g 0 59).2)).set (1:Int).toNat ((aj h 0 23).2)).set (2:Int).toNat ((aj g4 1 31).2)) 3).bind fun m=>(ar ((aX f).1) 4).bind fun k=>if k.size≤2000000 then if 0≤(0:Int)∧(0:Int)≤(6:Int)∧(6:Int)≤59 then(ar (((((List.replicate (5:Int).toNat false).set (0:Int).toNat ((aj g 0 59).2)).set (1:Int).toNat ((aj h 0 23).2)).set (2:Int).toNat ((aj g4 1 31).2)).set (3:Int).toNat ((aj j 1 12).2)) 4).bind fun n=>(jM ((((((List.replicate (5:Int).toNat false).set (0:Int).toNat ((aj g 0 59).2)).set (1:Int).toNat ((aj h 0 23).2)).set (2:Int).toNat ((aj g4 1 31).2)).set (3:Int).toNat ((aj j 1 12).2)).set (4:Int).toNat ((aj k 0 6).2)) 9223372036854775808 0).bind fun y=>match y with
     | .ret a b c d e i=>(some ((GCron.mk a b c d e),i))
     | .x0=>(some ((GCron.mk ((aj g 0 59).1) ((aj h 0 23).1) ((aj g4 1 31).1) ((aj j 1 12).1) ((aj k 0 6).1)),true))else none else none else none else none else none else none else none else none else none else none else none))
   (some ((GCron.mk ([]:List Int) ([]:List Int) ([]:List Int) ([]:List Int) ([]:List Int)),false))
abbrev ZW:=List.replicate (5:Int).toNat false
noncomputable abbrev ZX (x0:Zz):=(false,[Ww 1 (((aX x0).1).map etS)])
theorem Jr (x0:Zz):Ans (pp x0) (fun r=>Does E 91 [Wt x0] [(true,Wb .own r.1),Wp r.2]):=by
 unfold pp;apply V4<;>intro B
 ·apply V4<;>intro H
  ·exact VZ (DP Tryz.f91 [.ret [(ZX x0),Wp true],Wu (((aX x0).1).length:Int),.b true] (AD (o5 x0 B)<|ALn ((aX x0).1) etS<|AC H<|AN))
  ·apply V6;intro I;apply V5;intro a J;apply V6;intro K;apply V6;intro L;apply V5;intro g1 M;apply V5;intro b N;apply V6;intro O;apply V6;intro P;apply V5;intro g3 k;apply V5;intro g4 l;apply V6;intro m;apply V6;intro n;apply V5;intro C o;apply V5;intro c q;apply V6;intro s;apply V6;intro t;apply V5;intro D u;apply V5;intro d v;apply V6;intro w;apply V6;intro x;apply V5;intro F z;apply V5;intro y G;replace G:=Hg ([]) ([]) ([]) ([]) ([]) ((aj a 0 59).1) ((aj b 0 23).1) ((aj g4 1 31).1) ((aj c 1 12).1) ((aj d 0 6).1) (((((ZW.set (0:Int).toNat ((aj a 0 59).2)).set (1:Int).toNat ((aj b 0 23).2)).set (2:Int).toNat ((aj g4 1 31).2)).set (3:Int).toNat ((aj c 1 12).2)).set (4:Int).toNat ((aj d 0 6).2)) 9223372036854775808 0 y G;cases y with
   |ret e f g h i A =>have j:=G;exact VZ (DP Tryz.f91 [.ret [(ZX x0),Wp true],Wu (((aX x0).1).length:Int),.b false,.rows (ZW.map etB),.row (etS a),.ret [(false,[Ww 1 (((aj a 0 59).1).map etI)]),Wp ((aj a 0 59).2)],.row (etB g1),.rows ((ZW.set (0:Int).toNat ((aj a 0 59).2)).map etB),.row (etS b),.ret [(false,[Ww 1 (((aj b 0 23).1).map etI)]),Wp ((aj b 0 23).2)],.row (etB g3),.rows (((ZW.set (0:Int).toNat ((aj a 0 59).2)).set (1:Int).toNat ((aj b 0 23).2)).map etB),.row (etS g4),.ret [(false,[Ww 1 (((aj g4 1 31).1).map etI)]),Wp ((aj g4 1 31).2)],.row (etB C),.rows ((((ZW.set (0:Int).toNat ((aj a 0 59).2)).set (1:Int).toNat ((aj b 0 23).2)).set (2:Int).toNat ((aj g4 1 31).2)).map etB),.row (etS c),.ret [(false,[Ww 1 (((aj c 1 12).1).map etI)]),Wp ((aj c 1 12).2)],.row (etB D),.rows (((((ZW.set (0:Int).toNat ((aj a 0 59).2)).set (1:Int).toNat ((aj b 0 23).2)).set (2:Int).toNat ((aj g4 1 31).2)).set (3:Int).toNat ((aj c 1 12).2)).map etB),.row (etS d),.ret [(false,[Ww 1 (((aj d 0 6).1).map etI)]),Wp ((aj d 0 6).2)],.row (etB F),.rows ((((((ZW.set (0:Int).toNat ((aj a 0 59).2)).set (1:Int).toNat ((aj b 0 23).2)).set (2:Int).toNat ((aj g4 1 31).2)).set (3:Int).toNat ((aj c 1 12).2)).set (4:Int).toNat ((aj d 0 6).2)).map etB),.lp .ret (oH e f g h i A)] (AD (o5 x0 B)<|ALn ((aX x0).1) etS<|AC H<|AC I<|AC (p:=List.replicate (5:Int).toNat [tB false]=ZW.map etB) (nj rfl)<|AG etS J<|AD (fk a 0 59 K L)<|AG etB M<|AC (p:=(ZW.map etB).set (0+(0:Int).toNat) (au (etB g1) 0 [tB ((aj a 0 59).2)])=(ZW.set (0:Int).toNat ((aj a 0 59).2)).map etB) (cu (by rfl))<|AG etS N<|AD (fk b 0 23 O P)<|AG etB k<|AC (p:=((ZW.set (0:Int).toNat ((aj a 0 59).2)).map etB).set (0+(1:Int).toNat) (au (etB g3) 0 [tB ((aj b 0 23).2)])=((ZW.set (0:Int).toNat ((aj a 0 59).2)).set (1:Int).toNat ((aj b 0 23).2)).map etB) (cu (by rfl))<|AG etS l<|AD (fk g4 1 31 m n)<|AG etB o<|AC (p:=(((ZW.set (0:Int).toNat ((aj a 0 59).2)).set (1:Int).toNat ((aj b 0 23).2)).map etB).set (0+(2:Int).toNat) (au (etB C) 0 [tB ((aj g4 1 31).2)])=(((ZW.set (0:Int).toNat ((aj a 0 59).2)).set (1:Int).toNat ((aj b 0 23).2)).set (2:Int).toNat ((aj g4 1 31).2)).map etB) (cu (by rfl))<|AG etS q<|AD (fk c 1 12 s t)<|AG etB u<|AC (p:=((((ZW.set (0:Int).toNat ((aj a 0 59).2)).set (1:Int).toNat ((aj b 0 23).2)).set (2:Int).toNat ((aj g4 1 31).2)).map etB).set (0+(3:Int).toNat) (au (etB D) 0 [tB ((aj c 1 12).2)])=((((ZW.set (0:Int).toNat ((aj a 0 59).2)).set (1:Int).toNat ((aj b 0 23).2)).set (2:Int).toNat ((aj g4 1 31).2)).set (3:Int).toNat ((aj c 1 12).2)).map etB) (cu (by rfl))<|AG etS v<|AD (fk d 0 6 w x)<|AG etB z<|AC (p:=(((((ZW.set (0:Int).toNat ((aj a 0 59).2)).set (1:Int).toNat ((aj b 0 23).2)).set (2:Int).toNat ((aj g4 1 31).2)).set (3:Int).toNat ((aj c 1 12).2)).map etB).set (0+(4:Int).toNat) (au (etB F) 0 [tB ((aj d 0 6).2)])=(((((ZW.set (0:Int).toNat ((aj a 0 59).2)).set (1:Int).toNat ((aj b 0 23).2)).set (2:Int).toNat ((aj g4 1 31).2)).set (3:Int).toNat ((aj c 1 12).2)).set (4:Int).toNat ((aj d 0 6).2)).map etB) (cu (by rfl))<|AL j<|AN))
   |x0 =>have j:=G;exact VZ (DP Tryz.f91 [.ret [(ZX x0),Wp true],Wu (((aX x0).1).length:Int),.b false,.rows (ZW.map etB),.row (etS a),.ret [(false,[Ww 1 (((aj a 0 59).1).map etI)]),Wp ((aj a 0 59).2)],.row (etB g1),.rows ((ZW.set (0:Int).toNat ((aj a 0 59).2)).map etB),.row (etS b),.ret [(false,[Ww 1 (((aj b 0 23).1).map etI)]),Wp ((aj b 0 23).2)],.row (etB g3),.rows (((ZW.set (0:Int).toNat ((aj a 0 59).2)).set (1:Int).toNat ((aj b 0 23).2)).map etB),.row (etS g4),.ret [(false,[Ww 1 (((aj g4 1 31).1).map etI)]),Wp ((aj g4 1 31).2)],.row (etB C),.rows ((((ZW.set (0:Int).toNat ((aj a 0 59).2)).set (1:Int).toNat ((aj b 0 23).2)).set (2:Int).toNat ((aj g4 1 31).2)).map etB),.row (etS c),.ret [(false,[Ww 1 (((aj c 1 12).1).map etI)]),Wp ((aj c 1 12).2)],.row (etB D),.rows (((((ZW.set (0:Int).toNat ((aj a 0 59).2)).set (1:Int).toNat ((aj b 0 23).2)).set (2:Int).toNat ((aj g4 1 31).2)).set (3:Int).toNat ((aj c 1 12).2)).map etB),.row (etS d),.ret [(false,[Ww 1 (((aj d 0 6).1).map etI)]),Wp ((aj d 0 6).2)],.row (etB F),.rows ((((((ZW.set (0:Int).toNat ((aj a 0 59).2)).set (1:Int).toNat ((aj b 0 23).2)).set (2:Int).toNat ((aj g4 1 31).2)).set (3:Int).toNat ((aj c 1 12).2)).set (4:Int).toNat ((aj d 0 6).2)).map etB),.lp (.exit 0) (pS ([]) ([]) ([]) ([]) ([]) ((aj a 0 59).1) ((aj b 0 23).1) ((aj g4 1 31).1) ((aj c 1 12).1) ((aj d 0 6).1))] (AD (o5 x0 B)<|ALn ((aX x0).1) etS<|AC H<|AC I<|AC (p:=List.replicate (5:Int).toNat [tB false]=ZW.map etB) (nj rfl)<|AG etS J<|AD (fk a 0 59 K L)<|AG etB M<|AC (p:=(ZW.map etB).set (0+(0:Int).toNat) (au (etB g1) 0 [tB ((aj a 0 59).2)])=(ZW.set (0:Int).toNat ((aj a 0 59).2)).map etB) (cu (by rfl))<|AG etS N<|AD (fk b 0 23 O P)<|AG etB k<|AC (p:=((ZW.set (0:Int).toNat ((aj a 0 59).2)).map etB).set (0+(1:Int).toNat) (au (etB g3) 0 [tB ((aj b 0 23).2)])=((ZW.set (0:Int).toNat ((aj a 0 59).2)).set (1:Int).toNat ((aj b 0 23).2)).map etB) (cu (by rfl))<|AG etS l<|AD (fk g4 1 31 m n)<|AG etB o<|AC (p:=(((ZW.set (0:Int).toNat ((aj a 0 59).2)).set (1:Int).toNat ((aj b 0 23).2)).map etB).set (0+(2:Int).toNat) (au (etB C) 0 [tB ((aj g4 1 31).2)])=(((ZW.set (0:Int).toNat ((aj a 0 59).2)).set (1:Int).toNat ((aj b 0 23).2)).set (2:Int).toNat ((aj g4 1 31).2)).map etB) (cu (by rfl))<|AG etS q<|AD (fk c 1 12 s t)<|AG etB u<|AC (p:=((((ZW.set (0:Int).toNat ((aj a 0 59).2)).set (1:Int).toNat ((aj b 0 23).2)).set (2:Int).toNat ((aj g4 1 31).2)).map etB).set (0+(3:Int).toNat) (au (etB D) 0 [tB ((aj c 1 12).2)])=((((ZW.set (0:Int).toNat ((aj a 0 59).2)).set (1:Int).toNat ((aj b 0 23).2)).set (2:Int).toNat ((aj g4 1 31).2)).set (3:Int).toNat ((aj c 1 12).2)).map etB) (cu (by rfl))<|AG etS v<|AD (fk d 0 6 w x)<|AG etB z<|AC (p:=(((((ZW.set (0:Int).toNat ((aj a 0 59).2)).set (1:Int).toNat ((aj b 0 23).2)).set (2:Int).toNat ((aj g4 1 31).2)).set (3:Int).toNat ((aj c 1 12).2)).map etB).set (0+(4:Int).toNat) (au (etB F) 0 [tB ((aj d 0 6).2)])=(((((ZW.set (0:Int).toNat ((aj a 0 59).2)).set (1:Int).toNat ((aj b 0 23).2)).set (2:Int).toNat ((aj g4 1 31).2)).set (3:Int).toNat ((aj c 1 12).2)).set (4:Int).toNat ((aj d 0 6).2)).map etB) (cu (by rfl))<|AL j<|AN))
 ·exact VZ (DP Tryz.f91 [.ret [(ZX x0),Wp false]] (AD (o5 x0 B)<|AN))
inductive xW where|ret (v2_0 v2_1 v2_2 v2_3 v2_4:List Int) (v3:Bool)|x0 (v6_0 v6_1 v6_2 v6_3 v6_4:List Int)
def bJ (v2_0 v2_1 v2_2 v2_3 v2_4:List Int)(v4:List Zz)(v6_0 v6_1 v6_2 v6_3 v6_4:List Int)(a:Int):US:=stL 46 [(2,.box () [Ww 1 (v2_0.map etI),Ww 1 (v2_1.map etI),Ww 1 (v2_2.map etI),Ww 1 (v2_3.map etI),Ww 1 (v2_4.map etI)]),(4,.one (Ww 1 (v4.map etS))),(6,.box () [Ww 1 (v6_0.map etI),Ww 1 (v6_1.map etI),Ww 1 (v6_2.map etI),Ww 1 (v6_3.map etI),Ww 1 (v6_4.map etI)]),(24,.clo (.arr [0,1,2,3,4]) [6,6,6,6,6]),(25,Wr a)]
def eY (a b c d e:List Int)(f:Bool):US:=stL 46 [(2,.box () [Ww 1 (a.map etI),Ww 1 (b.map etI),Ww 1 (c.map etI),Ww 1 (d.map etI),Ww 1 (e.map etI)]),(3,Ws f)]
def pC (v2_0 v2_1 v2_2 v2_3 v2_4 a b c d e:List Int):US:=stL 46 [(2,.box () [Ww 1 (v2_0.map etI),Ww 1 (v2_1.map etI),Ww 1 (v2_2.map etI),Ww 1 (v2_3.map etI),Ww 1 (v2_4.map etI)]),(6,.box () [Ww 1 (a.map etI),Ww 1 (b.map etI),Ww 1 (c.map etI),Ww 1 (d.map etI),Ww 1 (e.map etI)])]
abbrev dn:US→Exit→US→Prop:=Round E 132 (aq Tryz.f132 0)
def Gr (v2_0 v2_1 v2_2 v2_3 v2_4:List Int)(v4:List Zz)(v6_0 v6_1 v6_2 v6_3 v6_4:List Int)(k:Int):xW→Prop| .ret a b c d e l=>Loops E 132 (aq Tryz.f132 0) (bJ v2_0 v2_1 v2_2 v2_3 v2_4 v4 v6_0 v6_1 v6_2 v6_3 v6_4 k) .ret (eY a b c d e l)| .x0 f g h i j=>Loops E 132 (aq Tryz.f132 0) (bJ v2_0 v2_1 v2_2 v2_3 v2_4 v4 v6_0 v6_1 v6_2 v6_3 v6_4 k) (.exit 0) (pC v2_0 v2_1 v2_2 v2_3 v2_4 f g h i j)
noncomputable def a8 (v4:List Zz):Nat→(List Int)→(List Int)→(List Int)→(List Int)→(List Int)→Int→Option xW| 0,_,_,_,_,_,_=>none|n+1,v6_0,v6_1,v6_2,v6_3,v6_4,a=>cond (decide (a<(5:Int))) (cond (a==(0:Int)) ((ar v4 a).bind fun b=>if b.size≤2000000 then cond ((be b a).2) (a8 v4 n ((be b a).1) v6_1 v6_2 v6_3 v6_4 (inc a)) (some (.ret ([]) ([]) ([]) ([]) ([]) false))else none) (cond (a==(1:Int)) ((ar v4 a).bind fun b=>if b.size≤2000000 then cond ((be b a).2) (a8 v4 n v6_0 ((be b a).1) v6_2 v6_3 v6_4 (inc a)) (some (.ret ([]) ([]) ([]) ([]) ([]) false))else none) (cond (a==(2:Int)) ((ar v4 a).bind fun b=>if b.size≤2000000 then cond ((be b a).2) (a8 v4 n v6_0 v6_1 ((be b a).1) v6_3 v6_4 (inc a)) (some (.ret ([]) ([]) ([]) ([]) ([]) false))else none) (cond (a==(3:Int)) ((ar v4 a).bind fun b=>if b.size≤2000000 then cond ((be b a).2) (a8 v4 n v6_0 v6_1 v6_2 ((be b a).1) v6_4 (inc a)) (some (.ret ([]) ([]) ([]) ([]) ([]) false))else none) (if a=(4:Int)then(ar v4 a).bind fun b=>if b.size≤2000000 then cond ((be b a).2) (a8 v4 n v6_0 v6_1 v6_2 v6_3 ((be b a).1) (inc a)) (some (.ret ([]) ([]) ([]) ([]) ([]) false))else none else none))))) (some (.x0 v6_0 v6_1 v6_2 v6_3 v6_4))
abbrev ZY:=eY ([]) ([]) ([]) ([]) ([]) false
theorem Gq (v2_0 v2_1 v2_2 v2_3 v2_4:List Int)(v4:List Zz)(n:Nat):∀(v6_0 v6_1 v6_2 v6_3 v6_4:List Int)(a:Int),Ans (a8 v4 n v6_0 v6_1 v6_2 v6_3 v6_4 a) (Gr v2_0 v2_1 v2_2 v2_3 v2_4 v4 v6_0 v6_1 v6_2 v6_3 v6_4 a):=by
 induction n with
 |zero=>intros;exact Ans.none
 |succ n i =>
  intro v6_0 v6_1 v6_2 v6_3 v6_4 a;unfold a8;apply V4<;>intro c
  ·apply V4<;>intro l
   ·apply V5;intro b j;apply V6;intro g;apply V4<;>intro d
    ·have r:dn (bJ v2_0 v2_1 v2_2 v2_3 v2_4 v4 v6_0 v6_1 v6_2 v6_3 v6_4 a) .normal (bJ v2_0 v2_1 v2_2 v2_3 v2_4 v4 ((be b a).1) v6_1 v6_2 v6_3 v6_4 (inc a)):=RP [.b true,Wu 0,.row (etS b),.ret [(false,[Ww 1 (((be b a).1).map etI)]),Wp true]] (AC c<|AC (p:=a=(0:Int)) (eq_of_beq l)<|AG etS j<|AD (cV b a g d)<|AN);exact(i ((be b a).1) v6_1 v6_2 v6_3 v6_4 (inc a)).mono fun y f=>by cases y<;>exact V2 r f
    ·exact VZ (V3 (show dn (bJ v2_0 v2_1 v2_2 v2_3 v2_4 v4 v6_0 v6_1 v6_2 v6_3 v6_4 a) .ret ZY from RP [.b true,Wu 0,.row (etS b),.ret [(false,[Ww 1 (((be b a).1).map etI)]),Wp false]] (AC c<|AC (p:=a=(0:Int)) (eq_of_beq l)<|AG etS j<|AD (cV b a g d)<|AN)))
   ·apply V4<;>intro j
    ·apply V5;intro b g;apply V6;intro d;apply V4<;>intro e
     ·have r:dn (bJ v2_0 v2_1 v2_2 v2_3 v2_4 v4 v6_0 v6_1 v6_2 v6_3 v6_4 a) .normal (bJ v2_0 v2_1 v2_2 v2_3 v2_4 v4 v6_0 ((be b a).1) v6_2 v6_3 v6_4 (inc a)):=RP [.b true,Wu 1,.row (etS b),.ret [(false,[Ww 1 (((be b a).1).map etI)]),Wp true]] (AC c<|AC (p:=a=(1:Int)) (eq_of_beq j)<|AG etS g<|AD (cV b a d e)<|AN);exact(i v6_0 ((be b a).1) v6_2 v6_3 v6_4 (inc a)).mono fun y f=>by cases y<;>exact V2 r f
     ·exact VZ (V3 (show dn (bJ v2_0 v2_1 v2_2 v2_3 v2_4 v4 v6_0 v6_1 v6_2 v6_3 v6_4 a) .ret ZY from RP [.b true,Wu 1,.row (etS b),.ret [(false,[Ww 1 (((be b a).1).map etI)]),Wp false]] (AC c<|AC (p:=a=(1:Int)) (eq_of_beq j)<|AG etS g<|AD (cV b a d e)<|AN)))
    ·apply V4<;>intro g
     ·apply V5;intro b d;apply V6;intro e;apply V4<;>intro h
      ·have r:dn (bJ v2_0 v2_1 v2_2 v2_3 v2_4 v4 v6_0 v6_1 v6_2 v6_3 v6_4 a) .normal (bJ v2_0 v2_1 v2_2 v2_3 v2_4 v4 v6_0 v6_1 ((be b a).1) v6_3 v6_4 (inc a)):=RP [.b true,Wu 2,.row (etS b),.ret [(false,[Ww 1 (((be b a).1).map etI)]),Wp true]] (AC c<|AC (p:=a=(2:Int)) (eq_of_beq g)<|AG etS d<|AD (cV b a e h)<|AN);exact(i v6_0 v6_1 ((be b a).1) v6_3 v6_4 (inc a)).mono fun y f=>by cases y<;>exact V2 r f
      ·exact VZ (V3 (show dn (bJ v2_0 v2_1 v2_2 v2_3 v2_4 v4 v6_0 v6_1 v6_2 v6_3 v6_4 a) .ret ZY from RP [.b true,Wu 2,.row (etS b),.ret [(false,[Ww 1 (((be b a).1).map etI)]),Wp false]] (AC c<|AC (p:=a=(2:Int)) (eq_of_beq g)<|AG etS d<|AD (cV b a e h)<|AN)))
     ·apply V4<;>intro d
      ·apply V5;intro b e;apply V6;intro h;apply V4<;>intro k
       ·have r:dn (bJ v2_0 v2_1 v2_2 v2_3 v2_4 v4 v6_0 v6_1 v6_2 v6_3 v6_4 a) .normal (bJ v2_0 v2_1 v2_2 v2_3 v2_4 v4 v6_0 v6_1 v6_2 ((be b a).1) v6_4 (inc a)):=RP [.b true,Wu 3,.row (etS b),.ret [(false,[Ww 1 (((be b a).1).map etI)]),Wp true]] (AC c<|AC (p:=a=(3:Int)) (eq_of_beq d)<|AG etS e<|AD (cV b a h k)<|AN);exact(i v6_0 v6_1 v6_2 ((be b a).1) v6_4 (inc a)).mono fun y f=>by cases y<;>exact V2 r f
       ·exact VZ (V3 (show dn (bJ v2_0 v2_1 v2_2 v2_3 v2_4 v4 v6_0 v6_1 v6_2 v6_3 v6_4 a) .ret ZY from RP [.b true,Wu 3,.row (etS b),.ret [(false,[Ww 1 (((be b a).1).map etI)]),Wp false]] (AC c<|AC (p:=a=(3:Int)) (eq_of_beq d)<|AG etS e<|AD (cV b a h k)<|AN)))
      ·apply V6;intro e;apply V5;intro b h;apply V6;intro k;apply V4<;>intro m
       ·have r:dn (bJ v2_0 v2_1 v2_2 v2_3 v2_4 v4 v6_0 v6_1 v6_2 v6_3 v6_4 a) .normal (bJ v2_0 v2_1 v2_2 v2_3 v2_4 v4 v6_0 v6_1 v6_2 v6_3 ((be b a).1) (inc a)):=RP [.b true,Wu 4,.row (etS b),.ret [(false,[Ww 1 (((be b a).1).map etI)]),Wp true]] (AC c<|AC e<|AG etS h<|AD (cV b a k m)<|AN);exact(i v6_0 v6_1 v6_2 v6_3 ((be b a).1) (inc a)).mono fun y f=>by cases y<;>exact V2 r f
       ·exact VZ (V3 (show dn (bJ v2_0 v2_1 v2_2 v2_3 v2_4 v4 v6_0 v6_1 v6_2 v6_3 v6_4 a) .ret ZY from RP [.b true,Wu 4,.row (etS b),.ret [(false,[Ww 1 (((be b a).1).map etI)]),Wp false]] (AC c<|AC e<|AG etS h<|AD (cV b a k m)<|AN)))
  ·exact VZ (V3 (show dn (bJ v2_0 v2_1 v2_2 v2_3 v2_4 v4 v6_0 v6_1 v6_2 v6_3 v6_4 a) (.exit 0) (pC v2_0 v2_1 v2_2 v2_3 v2_4 v6_0 v6_1 v6_2 v6_3 v6_4)from RP [.b false] (AC c<|AN)))
noncomputable def o9 (l:Zz):Option (GCron×Bool):=
  cond ((aX l).2)
   (cond ((((aX l).1).length:Int) != 5)
    (some ((GCron.mk ([]:List Int) ([]:List Int) ([]:List Int) ([]:List Int) ([]:List Int)),false))
    ((a8 ((aX l).1) 9223372036854775808 ([]) ([]) ([]) ([]) ([]) 0).bind fun y=>match y with
     | .ret a b c d e k=>(some ((GCron.mk a b c d e),k))
     | .x0 f g h i j=>(some ((GCron.mk f g h i j),true))))
   (some ((GCron.mk ([]:List Int) ([]:List Int) ([]:List Int) ([]:List Int) ([]:List Int)),false))
theorem IJ (x0:Zz):Ans (o9 x0) (fun r=>Does E 132 [Wt x0] [(true,Wb .own r.1),Wp r.2]):=by
 unfold o9;apply V4<;>intro l
 ·apply V4<;>intro n
  ·exact VZ (DP Tryz.f132 [.ret [(ZX x0),Wp true],Wu (((aX x0).1).length:Int),.b true] (AD (oZ x0 l)<|ALn ((aX x0).1) etS<|AC n<|AN))
  ·apply V5;intro y m;replace m:=Gq ([]) ([]) ([]) ([]) ([]) ((aX x0).1) 9223372036854775808 ([]) ([]) ([]) ([]) ([]) 0 y m;cases y with
   |ret a b c d e k =>have o:=m;exact VZ (DP Tryz.f132 [.ret [(ZX x0),Wp true],Wu (((aX x0).1).length:Int),.b false,.lp .ret (eY a b c d e k)] (AD (oZ x0 l)<|ALn ((aX x0).1) etS<|AC n<|AL o<|AN))
   |x0 f g h i j =>have o:=m;exact VZ (DP Tryz.f132 [.ret [(ZX x0),Wp true],Wu (((aX x0).1).length:Int),.b false,.lp (.exit 0) (pC ([]) ([]) ([]) ([]) ([]) f g h i j)] (AD (oZ x0 l)<|ALn ((aX x0).1) etS<|AC n<|AL o<|AN))
 ·exact VZ (DP Tryz.f132 [.ret [(ZX x0),Wp false]] (AD (oZ x0 l)<|AN))
def noCron:GCron:=⟨[],[],[],[],[]⟩
noncomputable def yU (a b c d e:Zz):GCron×Bool :=cond (aj a 0 59).2 (cond (aj b 0 23).2 (cond (aj c 1 31).2 (cond (aj d 1 12).2 (cond (aj e 0 6).2 (⟨(aj a 0 59).1,(aj b 0 23).1,(aj c 1 31).1,(aj d 1 12).1,(aj e 0 6).1⟩,true) (noCron,false)) (noCron,false)) (noCron,false)) (noCron,false)) (noCron,false)
noncomputable def Ko:List Zz→GCron×Bool|[a,b,c,d,e]=>yU a b c d e|_=>(noCron,false)
noncomputable def aA (s:Zz):GCron×Bool:=Ko (aX s).1
theorem FD {s:Zz}(h:(aX s).2=false):(aX s).1=[]:=by
 unfold aX at h ⊢;split
 ·rfl
 ·rename_i a;rw[WM a]at h;split
  ·rename_i b;rw[Wz b]at h;split
   ·rfl
   ·rename_i c;rw[WM c]at h;cases h
  ·rfl
theorem S9 {α:Type}{l:List α}(h:l.length=5):∃a b c d e,l=[a,b,c,d,e]:=by
 match l,h with
 |[a,b,c,d,e],_=>exact⟨a,b,c,d,e,rfl⟩
theorem A0 {l:List Zz}(h:l.length≠5):Ko l=(noCron,false):=by
 unfold Ko;split
 ·exact absurd rfl h
 ·rfl
theorem UF (a b c d e:Bool)(n:Nat):jM [a,b,c,d,e] (n+6) 0=some (cond a (cond b (cond c (cond d (cond e .x0 (.ret [] [] [] [] [] false)) (.ret [] [] [] [] [] false)) (.ret [] [] [] [] [] false)) (.ret [] [] [] [] [] false)) (.ret [] [] [] [] [] false)):=by cases a<;>cases b<;>cases c<;>cases d<;>cases e<;>rfl
theorem T7 (s:Zz):pp s=some (aA s):=by
 unfold pp aA;cases q:(aX s).2 with
 |false =>rw[FD q];rfl
 |true =>
  rw[WK];by_cases h:(aX s).1.length=5
  ·obtain⟨a,b,c,d,e,i⟩:=S9 h;have f:∀p∈[a,b,c,d,e],p.size≤2000000:=fun p j=>by rw[←i]at j;have:=xh j;omega
   have k:(a.size≤2000000)=True:=Yz (f a (by simp));have hb:(b.size≤2000000)=True:=Yz (f b (by simp));have hc:(c.size≤2000000)=True:=Yz (f c (by simp));have hd:(d.size≤2000000)=True:=Yz (f d (by simp));have l:(e.size≤2000000)=True:=Yz (f e (by simp));have g:((([a,b,c,d,e]:List Zz).length:Int) != 5)=false:=rfl;rw[i,g,WO,Wz (by decide)];have m:ar [a,b,c,d,e] (0:Int)=some a:=rfl;have g1:ar [a,b,c,d,e] (1:Int)=some b:=rfl;have n:ar [a,b,c,d,e] (2:Int)=some c:=rfl;have g3:ar [a,b,c,d,e] (3:Int)=some d:=rfl;have g4:ar [a,b,c,d,e] (4:Int)=some e:=rfl;have o:((0:Int)≤0∧(0:Int)≤59∧(59:Int)≤59)=True:=Yz (by decide);have r:((0:Int)≤0∧(0:Int)≤23∧(23:Int)≤59)=True:=Yz (by decide);have t:((0:Int)≤1∧(1:Int)≤31∧(31:Int)≤59)=True:=Yz (by decide);have u:((0:Int)≤1∧(1:Int)≤12∧(12:Int)≤59)=True:=Yz (by decide);have v:((0:Int)≤0∧(0:Int)≤6∧(6:Int)≤59)=True:=Yz (by decide);simp only[m,g1,n,g3,g4,Wy,k,hb,hc,hd,l,o,r,t,u,v,W8];show(jM [(aj a 0 59).2,(aj b 0 23).2,(aj c 1 31).2,(aj d 1 12).2,(aj e 0 6).2] (9223372036854775802+6) 0).bind _=some (yU a b c d e);rw[UF];unfold yU;cases(aj a 0 59).2<;>cases(aj b 0 23).2<;>cases(aj c 1 31).2<;>cases(aj d 1 12).2<;>cases(aj e 0 6).2<;>rfl
  ·have g:(((aX s).1.length:Int) != 5)=true:=by rw[Zy];omega
   rw[g,WK,A0 h];rfl
theorem T6 (s:Zz):o9 s=some (aA s):=by
 unfold o9 aA;cases q:(aX s).2 with
 |false =>rw[FD q];rfl
 |true =>
  rw[WK];by_cases h:(aX s).1.length=5
  ·obtain⟨a,b,c,d,e,i⟩:=S9 h;have f:∀p∈[a,b,c,d,e],p.size≤2000000:=fun p j=>by rw[←i]at j;have:=xh j;omega
   have g:((([a,b,c,d,e]:List Zz).length:Int) != 5)=false:=rfl;rw[i,g,WO];have k:∀n v0 v1 v2 v3 v4,a8 [a,b,c,d,e] (n+1) v0 v1 v2 v3 v4 0=cond (aj a 0 59).2 (a8 [a,b,c,d,e] n (aj a 0 59).1 v1 v2 v3 v4 1) (some (.ret [] [] [] [] [] false)):=fun n v0 v1 v2 v3 v4=>by
    conv=>lhs;unfold a8
    show(if a.size≤2000000 then _ else none)=_;rw[Wz (f a (by simp))];rfl
   have l:∀n v0 v1 v2 v3 v4,a8 [a,b,c,d,e] (n+1) v0 v1 v2 v3 v4 1=cond (aj b 0 23).2 (a8 [a,b,c,d,e] n v0 (aj b 0 23).1 v2 v3 v4 2) (some (.ret [] [] [] [] [] false)):=fun n v0 v1 v2 v3 v4=>by
    conv=>lhs;unfold a8
    show(if b.size≤2000000 then _ else none)=_;rw[Wz (f b (by simp))];rfl
   have m:∀n v0 v1 v2 v3 v4,a8 [a,b,c,d,e] (n+1) v0 v1 v2 v3 v4 2=cond (aj c 1 31).2 (a8 [a,b,c,d,e] n v0 v1 (aj c 1 31).1 v3 v4 3) (some (.ret [] [] [] [] [] false)):=fun n v0 v1 v2 v3 v4=>by
    conv=>lhs;unfold a8
    show(if c.size≤2000000 then _ else none)=_;rw[Wz (f c (by simp))];rfl
   have o:∀n v0 v1 v2 v3 v4,a8 [a,b,c,d,e] (n+1) v0 v1 v2 v3 v4 3=cond (aj d 1 12).2 (a8 [a,b,c,d,e] n v0 v1 v2 (aj d 1 12).1 v4 4) (some (.ret [] [] [] [] [] false)):=fun n v0 v1 v2 v3 v4=>by
    conv=>lhs;unfold a8
    show(if d.size≤2000000 then _ else none)=_;rw[Wz (f d (by simp))];rfl
   have r:∀n v0 v1 v2 v3 v4,a8 [a,b,c,d,e] (n+1) v0 v1 v2 v3 v4 4=cond (aj e 0 6).2 (a8 [a,b,c,d,e] n v0 v1 v2 v3 (aj e 0 6).1 5) (some (.ret [] [] [] [] [] false)):=fun n v0 v1 v2 v3 v4=>by
    conv=>lhs;unfold a8
    show(if(4:Int)=4 then(if e.size≤2000000 then _ else none)else none)=_;rw[Wz rfl,Wz (f e (by simp))];rfl
   have t:∀n v0 v1 v2 v3 v4,a8 [a,b,c,d,e] (n+1) v0 v1 v2 v3 v4 5=some (.x0 v0 v1 v2 v3 v4):=fun n v0 v1 v2 v3 v4=>rfl
   have st:a8 [a,b,c,d,e] (9223372036854775802+6) [] [] [] [] [] 0=_:=k _ _ _ _ _ _;rw[l,m,o,r,t]at st;refine(WV (Option.bind · _) st).trans ?_;show _=some (yU a b c d e);unfold yU;cases(aj a 0 59).2<;>cases(aj b 0 23).2<;>cases(aj c 1 31).2<;>cases(aj d 1 12).2<;>cases(aj e 0 6).2<;>rfl
  ·have g:(((aX s).1.length:Int) != 5)=true:=by rw[Zy];omega
   rw[g,WK,A0 h];rfl
theorem xS {lo hi:Int}{s:Zz}(hs:s.size≤2000000)(hb:0≤lo∧lo≤hi∧hi≤59):ab.sm (aj s lo hi).1:=by
 rcases(DO s lo hi hs hb).2.1 with h|h
 ·rw[h.2];exact⟨by decide,fun y a=>by cases a⟩
 ·exact⟨by have:=h.2.2.2.2;omega,fun y a=>trivial⟩
theorem Il:ab.sm noCron:=⟨⟨by decide,fun y a=>by cases a⟩,⟨by decide,fun y a=>by cases a⟩,⟨by decide,fun y a=>by cases a⟩,⟨by decide,fun y a=>by cases a⟩,⟨by decide,fun y a=>by cases a⟩⟩
theorem LC (s:Zz):ab.sm (aA s).1:=by
 unfold aA;by_cases h:(aX s).1.length=5
 ·obtain⟨a,b,c,d,e,g⟩:=S9 h;have f:∀p∈[a,b,c,d,e],p.size≤2000000:=fun p i=>by rw[←g]at i;have:=xh i;omega
  rw[g];show ab.sm (yU a b c d e).1;unfold yU;have:=xS (lo:=0) (hi:=59) (f a (by simp)) (by decide);have:=xS (lo:=0) (hi:=23) (f b (by simp)) (by decide);have:=xS (lo:=1) (hi:=31) (f c (by simp)) (by decide);have:=xS (lo:=1) (hi:=12) (f d (by simp)) (by decide);have:=xS (lo:=0) (hi:=6) (f e (by simp)) (by decide);cases(aj a 0 59).2<;>cases(aj b 0 23).2<;>cases(aj c 1 31).2<;>cases(aj d 1 12).2<;>cases(aj e 0 6).2<;>first|exact Il|exact⟨by assumption,by assumption,by assumption,by assumption,by assumption⟩
 ·rw[A0 h];exact Il
theorem sZ (a:Zz):Does E 91 [Wt a] [(true,Wb .own ((aA a).1)),Wp ((aA a).2)]:=by exact Jr a _ (T7 a)
theorem gm (a:Zz){c:Bool}(b:(aA a).2=c):Does E 91 [Wt a] [(true,Wb .own ((aA a).1)),Wp c]:=by rw[←b];exact sZ a
theorem It (a:Zz):Does E 132 [Wt a] [(true,Wb .own ((aA a).1)),Wp ((aA a).2)]:=by exact IJ a _ (T6 a)
theorem vy (a:Zz){c:Bool}(b:(aA a).2=c):Does E 132 [Wt a] [(true,Wb .own ((aA a).1)),Wp c]:=by rw[←b];exact It a
inductive FP where|ret (v4:Bool)|x0
def oe (v0:List Int)(v1 v5:Int):US:=stL 18 [(0,.one (Wx 1 (v0.map etI))),(1,Wr v1),(5,Wr v5)]
def tG (a:Bool):US:=stL 18 [(4,Ws a)]
def vl  : US:=stL 18 []
abbrev zF:US→Exit→US→Prop:=Round E 96 (aq Tryz.f96 0)
def QB (v0:List Int)(v1 v5:Int):FP→Prop| .ret a=>Loops E 96 (aq Tryz.f96 0) (oe v0 v1 v5) .ret (tG a)| .x0=>Loops E 96 (aq Tryz.f96 0) (oe v0 v1 v5) (.exit 0) (vl)
noncomputable def l7 (v1:Int):List Int→Nat→Option FP|[],i=>some (.x0)|hd::rest,i=>cond (hd==v1) (some (.ret true)) (l7 v1 rest (i+1))
theorem QA (v0:List Int)(v1:Int)(rest:List Int):∀(i:Nat) ,(v0).drop i=rest→v0.length≤9223372036854775807→Ans (l7 v1 rest i) (QB v0 v1 (i:Int)):=by
 induction rest with
 |nil =>intro i a b;have hb:=aP a;unfold l7;exact VZ (V3 (show zF (oe v0 v1 (i:Int)) (.exit 0) (vl)from RP [Wu (v0.length:Int),.b false] (ALn v0 etI<|AC hb<|AN)))
 |cons hd rest f =>
  intro i a b;have hb:=aI a;have g:=aJ a b;have c:=az a;have d:=aK a;unfold l7;apply V4<;>intro e
  ·exact VZ (V3 (show zF (oe v0 v1 (i:Int)) .ret (tG true)from RP [Wu (v0.length:Int),.b true,.row (etI hd),.b true] (ALn v0 etI<|AC hb<|AR etI d<|AC e<|AN)))
  ·exact(f (i+1) c b).mono fun y h=>by have r:zF (oe v0 v1 (i:Int)) .normal (oe v0 v1 (inc (i:Int))):=RP [Wu (v0.length:Int),.b true,.row (etI hd),.b false] (ALn v0 etI<|AC hb<|AR etI d<|AC e<|AN);rw[g]at r;cases y<;>exact V2 r h
noncomputable def Ca (b:List Int)(c:Int):Option (Bool):=
  if b.length≤9223372036854775807 then(l7 c b 0).bind fun y=>match y with
   | .ret a=>(some (a))
   | .x0=>(some (false))else none
theorem Sn (x0:List Int)(c:Int):Ans (Ca x0 c) (fun r=>Does E 96 [.one (Wx 1 (x0.map etI)),Wr c] [Wp r]):=by
 unfold Ca;apply V6;intro d;apply V5;intro y b;replace b:=QA x0 c x0 0 rfl d y b;cases y with
 |ret a =>have e:=b;exact VZ (DP Tryz.f96 [.lp .ret (tG a)] (AL e<|AN))
 |x0 =>have e:=b;exact VZ (DP Tryz.f96 [.lp (.exit 0) (vl)] (AL e<|AN))
def cC (l:List Int)(x:Int):Bool:=l.any fun y=>y==x
theorem RI (x:Int):∀(rest:List Int)(i:Nat),l7 x rest i=some (if cC rest x=true then .ret true else .x0)
 |[],i=>rfl
 |y::rest,i=>by unfold l7;rw[RI x rest (i+1)];unfold cC;rw[YW];cases y==x<;>rfl
theorem vF (a:List Int)(b:Int)(h:a.length≤1050000):Does E 96 [.one (Wx 1 (a.map etI)),Wr b] [Wp (cC a b)]:=by exact Sn a b _ (by unfold Ca;rw[Wz (by omega),RI];cases q:cC a b<;>rfl)
inductive ru where|ret (v4:Int)|x0
def fj (v0:List Int)(v1 v7 v8:Int):US:=stL 19 [(0,.one (Wx 1 (v0.map etI))),(1,Wr v1),(7,Wr v7),(8,Wr v8)]
def kU (a:Int):US:=stL 19 [(4,Wr a)]
def lz  : US:=stL 19 []
abbrev mG:US→Exit→US→Prop:=Round E 122 (aq Tryz.f122 0)
def AE (v0:List Int)(v1 v7 v8:Int):ru→Prop| .ret a=>Loops E 122 (aq Tryz.f122 0) (fj v0 v1 v7 v8) .ret (kU a)| .x0=>Loops E 122 (aq Tryz.f122 0) (fj v0 v1 v7 v8) (.exit 0) (lz)
noncomputable def dh (v1:Int):List Int→Nat→Option ru|[],i=>some (.x0)|hd::rest,i=>cond (v1==hd) (some (.ret (i:Int))) (dh v1 rest (i+1))
theorem AB (v0:List Int)(v1:Int)(rest:List Int):∀(i:Nat) ,(v0).drop i=rest→v0.length≤9223372036854775807→Ans (dh v1 rest i) (AE v0 v1 (v0.length:Int) (i:Int)):=by
 induction rest with
 |nil =>intro i a b;have hb:=aP a;unfold dh;exact VZ (V3 (show mG (fj v0 v1 (v0.length:Int) (i:Int)) (.exit 0) (lz)from RP [.b false] (AC hb<|AN)))
 |cons hd rest f =>
  intro i a b;have hb:=aI a;have g:=aJ a b;have c:=az a;have d:=aK a;unfold dh;apply V4<;>intro e
  ·exact VZ (V3 (show mG (fj v0 v1 (v0.length:Int) (i:Int)) .ret (kU (i:Int))from RP [.b true,.row (etI hd),.b true] (AC hb<|AR etI d<|AC e<|AN)))
  ·exact(f (i+1) c b).mono fun y h=>by have r:mG (fj v0 v1 (v0.length:Int) (i:Int)) .normal (fj v0 v1 (v0.length:Int) (inc (i:Int))):=RP [.b true,.row (etI hd),.b false] (AC hb<|AR etI d<|AC e<|AN);rw[g]at r;cases y<;>exact V2 r h
noncomputable def ga (b:List Int)(c:Int):Option (Int):=
  if b.length≤9223372036854775807 then(dh c b 0).bind fun y=>match y with
   | .ret a=>(some (a))
   | .x0=>(some ((-1:Int)))else none
theorem Cl (x0:List Int)(c:Int):Ans (ga x0 c) (fun r=>Does E 122 [.one (Wx 1 (x0.map etI)),Wr c] [Wo r]):=by
 unfold ga;apply V6;intro d;apply V5;intro y b;replace b:=AB x0 c x0 0 rfl d y b;cases y with
 |ret a =>have e:=b;exact VZ (DP Tryz.f122 [Wu (x0.length:Int),.lp .ret (kU a)] (ALn x0 etI<|AL e<|AN))
 |x0 =>have e:=b;exact VZ (DP Tryz.f122 [Wu (x0.length:Int),.lp (.exit 0) (lz)] (ALn x0 etI<|AL e<|AN))
noncomputable def DX (l:List Int)(x:Int):Int:=(ga l x).getD (-1)
theorem TC (x:Int):∀(rest:List Int)(i:Nat),(∃k:Nat,dh x rest i=some (.ret (k:Int))∧cC rest x=true)∨dh x rest i=some .x0∧cC rest x=false
 |[],i=>.inr ⟨rfl,rfl⟩
 |y::rest,i=>by
  have e:(x==y)=(y==x):=by cases q:y==x with|true=>rw[eq_of_beq q];simp|false=>exact Xy.2 fun e=>by rw[e]at q;simp at q
  unfold dh cC;rw[YW,e];cases y==x with
  |true=>exact .inl ⟨i,rfl,rfl⟩
  |false=>exact TC x rest (i+1)
theorem RF (l:List Int)(x:Int)(h:l.length≤1050000):ga l x=some (DX l x)∧decide (DX l x≥(0:Int))=cC l x:=by
 have e:∃r,ga l x=some r∧decide (r≥(0:Int))=cC l x:=by
  unfold ga;rw[Wz (by omega)];rcases TC x l 0 with⟨k,a,b⟩|⟨a,b⟩
  ·exact⟨(k:Int),by rw[a];rfl,by rw[b];exact WJ (by omega)⟩
  ·exact⟨-1,by rw[a];rfl,by rw[b];rfl⟩
 obtain⟨r,a,b⟩:=e;have p:DX l x=r:=by unfold DX;rw[a];rfl
 rw[p];exact⟨a,b⟩
theorem AQ (a:List Int)(b:Int)(h:a.length≤1050000):Does E 122 [.one (Wx 1 (a.map etI)),Wr b] [Wo (DX a b)]:=by exact Cl a b _ (RF a b h).1
noncomputable def lw (a:List Int)(b:Int):Option (Bool):=if a.length≤1050000 then some (decide ((DX a b)≥(0:Int)))else none
theorem yE (a:List Int)(b:Int):Ans (lw a b) (fun r=>Does E 104 [.one (Wx 1 (a.map etI)),Wr b] [Wp r]):=by unfold lw;apply V6;intro c;exact VZ (DP Tryz.f104 [.ret [Wo (DX a b)]] (AD (AQ a b c)<|AN))
theorem ek (a:List Int)(b:Int)(h:a.length≤1050000):Does E 104 [.one (Wx 1 (a.map etI)),Wr b] [Wp (cC a b)]:=by
 exact yE a b _ (by
  unfold lw;try rw[Wz h]
  rw[(RF a b h).2])
inductive Cb where|ret (v6:Bool)|x0
def gH (v0:List Int)(v1 v2 v7:Int):US:=stL 41 [(0,.one (Wx 1 (v0.map etI))),(1,Wr v1),(2,Wr v2),(7,Wr v7)]
def mR (a:Bool):US:=stL 41 [(6,Ws a)]
def r7 (v0:List Int):US:=stL 41 [(0,.one (Wx 1 (v0.map etI)))]
abbrev nn:US→Exit→US→Prop:=Round E 129 (aq Tryz.f129 0)
def L7 (v0:List Int)(v1 v2 v7:Int):Cb→Prop| .ret a=>Loops E 129 (aq Tryz.f129 0) (gH v0 v1 v2 v7) .ret (mR a)| .x0=>Loops E 129 (aq Tryz.f129 0) (gH v0 v1 v2 v7) (.exit 0) (r7 v0)
noncomputable def iL (v0:List Int)(v1 v2:Int):List Int→Nat→Option Cb|[],i=>some (.x0)|hd::rest,i=>cond (ak hd v1 v2) (cond (decide ((i:Int)>(0:Int))) ((ar v0 (IntKind.wrap .i64 ((i:Int)-(1:Int)))).bind fun g1=>cond (decide (g1≥hd)) (some (.ret false)) (iL v0 v1 v2 rest (i+1))) (iL v0 v1 v2 rest (i+1))) (some (.ret false))
theorem L6 (v0:List Int)(v1 v2:Int)(rest:List Int):∀(i:Nat) ,(v0).drop i=rest→v0.length≤9223372036854775807→Ans (iL v0 v1 v2 rest i) (L7 v0 v1 v2 (i:Int)):=by
 induction rest with
 |nil =>intro i a d;have hb:=aP a;unfold iL;exact VZ (V3 (show nn (gH v0 v1 v2 (i:Int)) (.exit 0) (r7 v0)from RP [Wu (v0.length:Int),.b false] (ALn v0 etI<|AC hb<|AN)))
 |cons hd rest h =>
  intro i a d;have hb:=aI a;have j:=aJ a d;have c:=az a;have b:=aK a;unfold iL;apply V4<;>intro e
  ·apply V4<;>intro f
   ·apply V5;intro g1 k;apply V4<;>intro l
    ·exact VZ (V3 (show nn (gH v0 v1 v2 (i:Int)) .ret (mR false)from RP [Wu (v0.length:Int),.b true,.row (etI hd),rT,.b true,.row (etI g1),.row (etI hd),.b true] (ALn v0 etI<|AC hb<|AR etI b<|AD (V9 (am hd v1 v2) e)<|AC f<|AR etI k<|AR etI b<|AC l<|AN)))
    ·exact(h (i+1) c d).mono fun y g=>by have r:nn (gH v0 v1 v2 (i:Int)) .normal (gH v0 v1 v2 (inc (i:Int))):=RP [Wu (v0.length:Int),.b true,.row (etI hd),rT,.b true,.row (etI g1),.row (etI hd),.b false] (ALn v0 etI<|AC hb<|AR etI b<|AD (V9 (am hd v1 v2) e)<|AC f<|AR etI k<|AR etI b<|AC l<|AN);rw[j]at r;cases y<;>exact V2 r g
   ·exact(h (i+1) c d).mono fun y g=>by have r:nn (gH v0 v1 v2 (i:Int)) .normal (gH v0 v1 v2 (inc (i:Int))):=RP [Wu (v0.length:Int),.b true,.row (etI hd),rT,.b false] (ALn v0 etI<|AC hb<|AR etI b<|AD (V9 (am hd v1 v2) e)<|AC f<|AN);rw[j]at r;cases y<;>exact V2 r g
  ·exact VZ (V3 (show nn (gH v0 v1 v2 (i:Int)) .ret (mR false)from RP [Wu (v0.length:Int),.b true,.row (etI hd),rF] (ALn v0 etI<|AC hb<|AR etI b<|AD (V9 (am hd v1 v2) e)<|AN)))
noncomputable def xm (b:List Int)(c d:Int):Option (Bool):=
  if b.length≤9223372036854775807 then(iL b c d b 0).bind fun y=>match y with
   | .ret a=>(some (a))
   | .x0=>(some (decide ((b.length:Int)>(0:Int))))else none
theorem N1 (x0:List Int)(c d:Int):Ans (xm x0 c d) (fun r=>Does E 129 [.one (Wx 1 (x0.map etI)),Wr c,Wr d] [Wp r]):=by
 unfold xm;apply V6;intro e;apply V5;intro y b;replace b:=L6 x0 c d x0 0 rfl e y b;cases y with
 |ret a =>have f:=b;exact VZ (DP Tryz.f129 [.lp .ret (mR a)] (AL f<|AN))
 |x0 =>have f:=b;exact VZ (DP Tryz.f129 [.lp (.exit 0) (r7 x0),Wu (x0.length:Int)] (AL f<|ALn x0 etI<|AN))
def mj (a b:Int):List Int→Option Int→Bool
 |[],_=>true
 |x::l,p=>ak x a b&&(match p with|some y=>decide (y<x)|none=>true)&&mj a b l (some x)
def br (l:List Int)(a b:Int):Bool:=mj a b l none&&decide ((l.length:Int)>0)
theorem OG {aL rest:List Int}{x:Int}{i:Nat}(h:aL.drop i=x::rest):i=0∨∃y,aL[i-1]?=some y:=by
 cases i with
 |zero=>exact .inl rfl
 |succ i =>
  right;have:i<aL.length:=by
   rcases WI i aL.length with g|g
   ·exact g
   ·rw[Xn (by omega)]at h;cases h
  exact⟨aL[i],by simp[this]⟩
def kH (aL:List Int)(i:Nat):Option Int:=if i=0 then none else aL[i-1]?
theorem Ig {aL rest:List Int}{x:Int}{i:Nat}(h:aL.drop i=x::rest):kH aL (i+1)=some x:=by unfold kH;rw[WM (by omega)];show aL[i]?=some x;rw[←YE,h];rfl
theorem RS (aL:List Int)(a b:Int)(k:aL.length≤1050000):∀(rest:List Int)(i:Nat),aL.drop i=rest→iL aL a b rest i=some (if mj a b rest (kH aL i)=true then .x0 else .ret false)
 |[],i,_=>rfl
 |x::rest,i,h=>by
  have f:=RS aL a b k rest (i+1) (az h);rw[Ig h]at f;have hi:i<aL.length:=by
   rcases WI i aL.length with g|g
   ·exact g
   ·rw[Xn g]at h;cases h
  unfold iL mj;rw[f];cases ak x a b with
  |false=>rfl
  |true =>
   rw[WK,Xa];rcases OG h with rfl|⟨y,j⟩
   ·simp[kH]
   ·by_cases z:i=0
    ·subst z;simp[kH]
    ·have l:kH aL i=some y:=by unfold kH;rw[WM z,j]
     have m:ar aL (IntKind.wrap .i64 ((i:Int)-1))=some y:=by
      rw[dR _ (by omega) (by omega)];have e:((i:Int)-1)=((i-1:Nat):Int):=by omega
      rw[e,dA,j]
     rw[l,m,WJ (by omega:(i:Int)>0),WK,Wy];simp only;by_cases c:y≥x
     ·have d:¬y<x:=by omega
      rw[WJ c,WK];simp[d]
     ·have d:y<x:=by omega
      rw[WH c,WO];simp[d]
theorem cW (a:List Int)(b:Int)(c:Int)(h:a.length≤1050000):Does E 129 [.one (Wx 1 (a.map etI)),Wr b,Wr c] [Wp (br a b c)]:=by exact N1 a b c _ (by unfold xm;rw[Wz (by omega),RS a b c h a 0 rfl];unfold br kH;rw[Wz rfl];cases mj b c a none<;>rfl)
noncomputable def zC (a:GCron):Option (Bool):=if a.f0.length≤1050000 then cond (br a.f0 0 59) (if a.f1.length≤1050000 then cond (br a.f1 0 23) (if a.f2.length≤1050000 then cond (br a.f2 1 31) (if a.f3.length≤1050000 then cond (br a.f3 1 12) (if a.f4.length≤1050000 then some (br a.f4 0 6)else none) (some (false))else none) (some (false))else none) (some (false))else none) (some (false))else none
theorem Qs (a:GCron):Ans (zC a) (fun r=>Does E 111 [.agg (Wb .far a)] [Wp r]):=by
 unfold zC;apply V6;intro b;apply V4<;>intro c
 ·apply V6;intro d;apply V4<;>intro e
  ·apply V6;intro f;apply V4<;>intro g
   ·apply V6;intro h;apply V4<;>intro i
    ·apply V6;intro j;exact VZ (DP Tryz.f111 [rT,rT,rT,rT,.ret [Wp (br a.f4 0 6)]] (AD (V9 (cW a.f0 0 59 b) c)<|AD (V9 (cW a.f1 0 23 d) e)<|AD (V9 (cW a.f2 1 31 f) g)<|AD (V9 (cW a.f3 1 12 h) i)<|AD (cW a.f4 0 6 j)<|AN))
    ·exact VZ (DP Tryz.f111 [rT,rT,rT,rF] (AD (V9 (cW a.f0 0 59 b) c)<|AD (V9 (cW a.f1 0 23 d) e)<|AD (V9 (cW a.f2 1 31 f) g)<|AD (V9 (cW a.f3 1 12 h) i)<|AN))
   ·exact VZ (DP Tryz.f111 [rT,rT,rF] (AD (V9 (cW a.f0 0 59 b) c)<|AD (V9 (cW a.f1 0 23 d) e)<|AD (V9 (cW a.f2 1 31 f) g)<|AN))
  ·exact VZ (DP Tryz.f111 [rT,rF] (AD (V9 (cW a.f0 0 59 b) c)<|AD (V9 (cW a.f1 0 23 d) e)<|AN))
 ·exact VZ (DP Tryz.f111 [rF] (AD (V9 (cW a.f0 0 59 b) c)<|AN))
def ku (c:GCron):Bool:=br c.f0 0 59&&(br c.f1 0 23&&(br c.f2 1 31&&(br c.f3 1 12&&br c.f4 0 6)))
theorem EC (a:GCron)(h:ab.sm a):Does E 111 [.agg (Wb .far a)] [Wp (ku a)]:=by exact Qs a _ (by have b:=h.1.1;have c:=h.2.1.1;have d:=h.2.2.1.1;have e:=h.2.2.2.1.1;have f:=h.2.2.2.2.1;unfold zC ku;simp only[b,c,d,e,f,W8];cases br a.f0 0 59<;>cases br a.f1 0 23<;>cases br a.f2 1 31<;>cases br a.f3 1 12<;>rfl)
inductive C6 where|ret (v2:Bool)|x2
def ir (a b c d e:List Int)(v5 v6:Int)(v7:List Int)(v11:Int)(f:List Int)(v24 g:Int):US:=stL 53 [(1,.box () [Wx 1 (a.map etI),Wx 1 (b.map etI),Wx 1 (c.map etI),Wx 1 (d.map etI),Wx 1 (e.map etI)]),(5,Wr v5),(6,Wr v6),(7,.one (Wx 1 (v7.map etI))),(10,.clo (.arr [0,1,2,3,4]) [1,1,1,1,1]),(11,Wr v11),(23,.one (Wx 1 (f.map etI))),(24,Wr v24),(25,Wr g)]
def fQ (a:Bool):US:=stL 53 [(2,Ws a)]
def dk (a b c d e v7:List Int)(v11:Int):US:=stL 53 [(1,.box () [Wx 1 (a.map etI),Wx 1 (b.map etI),Wx 1 (c.map etI),Wx 1 (d.map etI),Wx 1 (e.map etI)]),(7,.one (Wx 1 (v7.map etI))),(10,.clo (.arr [0,1,2,3,4]) [1,1,1,1,1]),(11,Wr v11)]
abbrev oQ:US→Exit→US→Prop:=Round E 153 (aq Tryz.f153 1)
def Nc (a b c d e:List Int)(v5 v6:Int)(v7:List Int)(v11:Int)(f:List Int)(v24 g:Int):C6→Prop| .ret h=>Loops E 153 (aq Tryz.f153 1) (ir a b c d e v5 v6 v7 v11 f v24 g) .ret (fQ h)| .x2=>Loops E 153 (aq Tryz.f153 1) (ir a b c d e v5 v6 v7 v11 f v24 g) (.exit 2) (dk a b c d e v7 v11)
noncomputable def dM (v5 v6:Int)(v7:List Int):List Int→Nat→Option C6|[],i=>some (.x2)|hd::rest,i=>cond (ak hd v5 v6) (cond (decide ((i:Int)>(0:Int))) ((ar v7 (IntKind.wrap .i64 ((i:Int)-(1:Int)))).bind fun g1=>cond (decide (hd≤g1)) (some (.ret false)) (dM v5 v6 v7 rest (i+1))) (dM v5 v6 v7 rest (i+1))) (some (.ret false))
theorem oR (b c d e f:List Int)(v5 v6:Int)(v7:List Int)(v11:Int)(a:List Int)(rest:List Int):∀(i:Nat) ,(a).drop i=rest→a.length≤9223372036854775807→Ans (dM v5 v6 v7 rest i) (Nc b c d e f v5 v6 v7 v11 a (a.length:Int) (i:Int)):=by
 induction rest with
 |nil =>intro i g j;have hb:=aP g;unfold dM;exact VZ (V3 (show oQ (ir b c d e f v5 v6 v7 v11 a (a.length:Int) (i:Int)) (.exit 2) (dk b c d e f v7 v11)from RP [.b false] (AC hb<|AN)))
 |cons hd rest o =>
  intro i g j;have hb:=aI g;have p:=aJ g j;have h:=az g;have k:=aK g;unfold dM;apply V4<;>intro l
  ·apply V4<;>intro m
   ·apply V5;intro g1 q;apply V4<;>intro s
    ·exact VZ (V3 (show oQ (ir b c d e f v5 v6 v7 v11 a (a.length:Int) (i:Int)) .ret (fQ false)from RP [.b true,.row (etI hd),rT,.b true,.row (etI g1),.b true] (AC hb<|AR etI k<|AD (V9 (aG hd v5 v6) l)<|AC m<|AR etI q<|AC s<|AN)))
    ·exact(o (i+1) h j).mono fun y n=>by have r:oQ (ir b c d e f v5 v6 v7 v11 a (a.length:Int) (i:Int)) .normal (ir b c d e f v5 v6 v7 v11 a (a.length:Int) (inc (i:Int))):=RP [.b true,.row (etI hd),rT,.b true,.row (etI g1),.b false] (AC hb<|AR etI k<|AD (V9 (aG hd v5 v6) l)<|AC m<|AR etI q<|AC s<|AN);rw[p]at r;cases y<;>exact V2 r n
   ·exact(o (i+1) h j).mono fun y n=>by have r:oQ (ir b c d e f v5 v6 v7 v11 a (a.length:Int) (i:Int)) .normal (ir b c d e f v5 v6 v7 v11 a (a.length:Int) (inc (i:Int))):=RP [.b true,.row (etI hd),rT,.b false] (AC hb<|AR etI k<|AD (V9 (aG hd v5 v6) l)<|AC m<|AN);rw[p]at r;cases y<;>exact V2 r n
  ·exact VZ (V3 (show oQ (ir b c d e f v5 v6 v7 v11 a (a.length:Int) (i:Int)) .ret (fQ false)from RP [.b true,.row (etI hd),rF] (AC hb<|AR etI k<|AD (V9 (aG hd v5 v6) l)<|AN)))
inductive wP where|ret (v2:Bool)|x0
def bM (a b c d e:List Int)(v11:Int):US:=stL 53 [(1,.box () [Wx 1 (a.map etI),Wx 1 (b.map etI),Wx 1 (c.map etI),Wx 1 (d.map etI),Wx 1 (e.map etI)]),(10,.clo (.arr [0,1,2,3,4]) [1,1,1,1,1]),(11,Wr v11)]
def cO (a:Bool):US:=stL 53 [(2,Ws a)]
def s7  : US:=stL 53 []
abbrev cM:US→Exit→US→Prop:=Round E 153 (aq Tryz.f153 0)
def Nb (a b c d e:List Int)(v11:Int):wP→Prop| .ret f=>Loops E 153 (aq Tryz.f153 0) (bM a b c d e v11) .ret (cO f)| .x0=>Loops E 153 (aq Tryz.f153 0) (bM a b c d e v11) (.exit 0) (s7)
noncomputable def b9 (a b c d e:List Int):Nat→Int→Option wP
 | 0,_=>none
 |n+1,v11=>cond (decide (v11<(5:Int)))
  (cond (v11==(0:Int))
   (if a.length≤9223372036854775807 then(dM ((aR v11).1) ((aR v11).2) a a 0).bind fun y=>match y with
    | .ret f=>(some (.ret f))
    | .x2=>(cond ((a.length:Int)==(0:Int))
     (some (.ret false))
     (b9 a b c d e n (inc v11)))else none)
   (cond (v11==(1:Int))
    (if b.length≤9223372036854775807 then(dM ((aR v11).1) ((aR v11).2) b b 0).bind fun y=>match y with
     | .ret f=>(some (.ret f))
     | .x2=>(cond ((b.length:Int)==(0:Int))
      (some (.ret false))
      (b9 a b c d e n (inc v11)))else none)
    (cond (v11==(2:Int))
     (if c.length≤9223372036854775807 then(dM ((aR v11).1) ((aR v11).2) c c 0).bind fun y=>match y with
      | .ret f=>(some (.ret f))
      | .x2=>(cond ((c.length:Int)==(0:Int))
       (some (.ret false))
       (b9 a b c d e n (inc v11)))else none)
     (cond (v11==(3:Int))
      (if d.length≤9223372036854775807 then(dM ((aR v11).1) ((aR v11).2) d d 0).bind fun y=>match y with
       | .ret f=>(some (.ret f))
       | .x2=>(cond ((d.length:Int)==(0:Int))
        (some (.ret false))
        (b9 a b c d e n (inc v11)))else none)
      (if v11=(4:Int)then if e.length≤9223372036854775807 then(dM ((aR v11).1) ((aR v11).2) e e 0).bind fun y=>match y with
       | .ret f=>(some (.ret f))
       | .x2=>(cond ((e.length:Int)==(0:Int))
        (some (.ret false))
        (b9 a b c d e n (inc v11)))else none else none)))))
  (some (.x0))
theorem Na (a b c d e:List Int)(n:Nat):∀(v11:Int),Ans (b9 a b c d e n v11) (Nb a b c d e v11):=by
 induction n with
 |zero=>intros;exact Ans.none
 |succ n q =>
  intro v11;unfold b9;apply V4<;>intro h
  ·apply V4<;>intro s
   ·apply V6;intro t;apply V5;intro y g;replace g:=oR a b c d e ((aR v11).1) ((aR v11).2) a v11 a a 0 rfl t y g;cases y with
    |ret f =>have l:=g;exact VZ (V3 (show cM (bM a b c d e v11) .ret (cO f)from RP [.b true,Wu 0,.ret [Wo ((aR v11).1),Wo ((aR v11).2)],Wu (a.length:Int),.lp .ret (fQ f)] (AC h<|AC (p:=v11=(0:Int)) (eq_of_beq s)<|AD (cI v11)<|ALn a etI<|AL l<|AN)))
    |x2 =>
     have l:=g;apply V4<;>intro i
     ·exact VZ (V3 (show cM (bM a b c d e v11) .ret (cO false)from RP [.b true,Wu 0,.ret [Wo ((aR v11).1),Wo ((aR v11).2)],Wu (a.length:Int),.lp (.exit 2) (dk a b c d e a v11),Wu (a.length:Int),.b true] (AC h<|AC (p:=v11=(0:Int)) (eq_of_beq s)<|AD (cI v11)<|ALn a etI<|AL l<|ALn a etI<|AC i<|AN)))
     ·have r:cM (bM a b c d e v11) .normal (bM a b c d e (inc v11)):=RP [.b true,Wu 0,.ret [Wo ((aR v11).1),Wo ((aR v11).2)],Wu (a.length:Int),.lp (.exit 2) (dk a b c d e a v11),Wu (a.length:Int),.b false] (AC h<|AC (p:=v11=(0:Int)) (eq_of_beq s)<|AD (cI v11)<|ALn a etI<|AL l<|ALn a etI<|AC i<|AN);exact(q (inc v11)).mono fun y g=>by cases y<;>exact V2 r g
   ·apply V4<;>intro l
    ·apply V6;intro u;apply V5;intro y g;replace g:=oR a b c d e ((aR v11).1) ((aR v11).2) b v11 b b 0 rfl u y g;cases y with
     |ret f =>have i:=g;exact VZ (V3 (show cM (bM a b c d e v11) .ret (cO f)from RP [.b true,Wu 1,.ret [Wo ((aR v11).1),Wo ((aR v11).2)],Wu (b.length:Int),.lp .ret (fQ f)] (AC h<|AC (p:=v11=(1:Int)) (eq_of_beq l)<|AD (cI v11)<|ALn b etI<|AL i<|AN)))
     |x2 =>
      have i:=g;apply V4<;>intro j
      ·exact VZ (V3 (show cM (bM a b c d e v11) .ret (cO false)from RP [.b true,Wu 1,.ret [Wo ((aR v11).1),Wo ((aR v11).2)],Wu (b.length:Int),.lp (.exit 2) (dk a b c d e b v11),Wu (b.length:Int),.b true] (AC h<|AC (p:=v11=(1:Int)) (eq_of_beq l)<|AD (cI v11)<|ALn b etI<|AL i<|ALn b etI<|AC j<|AN)))
      ·have r:cM (bM a b c d e v11) .normal (bM a b c d e (inc v11)):=RP [.b true,Wu 1,.ret [Wo ((aR v11).1),Wo ((aR v11).2)],Wu (b.length:Int),.lp (.exit 2) (dk a b c d e b v11),Wu (b.length:Int),.b false] (AC h<|AC (p:=v11=(1:Int)) (eq_of_beq l)<|AD (cI v11)<|ALn b etI<|AL i<|ALn b etI<|AC j<|AN);exact(q (inc v11)).mono fun y g=>by cases y<;>exact V2 r g
    ·apply V4<;>intro i
     ·apply V6;intro v;apply V5;intro y g;replace g:=oR a b c d e ((aR v11).1) ((aR v11).2) c v11 c c 0 rfl v y g;cases y with
      |ret f =>have j:=g;exact VZ (V3 (show cM (bM a b c d e v11) .ret (cO f)from RP [.b true,Wu 2,.ret [Wo ((aR v11).1),Wo ((aR v11).2)],Wu (c.length:Int),.lp .ret (fQ f)] (AC h<|AC (p:=v11=(2:Int)) (eq_of_beq i)<|AD (cI v11)<|ALn c etI<|AL j<|AN)))
      |x2 =>
       have j:=g;apply V4<;>intro k
       ·exact VZ (V3 (show cM (bM a b c d e v11) .ret (cO false)from RP [.b true,Wu 2,.ret [Wo ((aR v11).1),Wo ((aR v11).2)],Wu (c.length:Int),.lp (.exit 2) (dk a b c d e c v11),Wu (c.length:Int),.b true] (AC h<|AC (p:=v11=(2:Int)) (eq_of_beq i)<|AD (cI v11)<|ALn c etI<|AL j<|ALn c etI<|AC k<|AN)))
       ·have r:cM (bM a b c d e v11) .normal (bM a b c d e (inc v11)):=RP [.b true,Wu 2,.ret [Wo ((aR v11).1),Wo ((aR v11).2)],Wu (c.length:Int),.lp (.exit 2) (dk a b c d e c v11),Wu (c.length:Int),.b false] (AC h<|AC (p:=v11=(2:Int)) (eq_of_beq i)<|AD (cI v11)<|ALn c etI<|AL j<|ALn c etI<|AC k<|AN);exact(q (inc v11)).mono fun y g=>by cases y<;>exact V2 r g
     ·apply V4<;>intro j
      ·apply V6;intro m;apply V5;intro y g;replace g:=oR a b c d e ((aR v11).1) ((aR v11).2) d v11 d d 0 rfl m y g;cases y with
       |ret f =>have k:=g;exact VZ (V3 (show cM (bM a b c d e v11) .ret (cO f)from RP [.b true,Wu 3,.ret [Wo ((aR v11).1),Wo ((aR v11).2)],Wu (d.length:Int),.lp .ret (fQ f)] (AC h<|AC (p:=v11=(3:Int)) (eq_of_beq j)<|AD (cI v11)<|ALn d etI<|AL k<|AN)))
       |x2 =>
        have k:=g;apply V4<;>intro o
        ·exact VZ (V3 (show cM (bM a b c d e v11) .ret (cO false)from RP [.b true,Wu 3,.ret [Wo ((aR v11).1),Wo ((aR v11).2)],Wu (d.length:Int),.lp (.exit 2) (dk a b c d e d v11),Wu (d.length:Int),.b true] (AC h<|AC (p:=v11=(3:Int)) (eq_of_beq j)<|AD (cI v11)<|ALn d etI<|AL k<|ALn d etI<|AC o<|AN)))
        ·have r:cM (bM a b c d e v11) .normal (bM a b c d e (inc v11)):=RP [.b true,Wu 3,.ret [Wo ((aR v11).1),Wo ((aR v11).2)],Wu (d.length:Int),.lp (.exit 2) (dk a b c d e d v11),Wu (d.length:Int),.b false] (AC h<|AC (p:=v11=(3:Int)) (eq_of_beq j)<|AD (cI v11)<|ALn d etI<|AL k<|ALn d etI<|AC o<|AN);exact(q (inc v11)).mono fun y g=>by cases y<;>exact V2 r g
      ·apply V6;intro k;apply V6;intro m;apply V5;intro y g;replace g:=oR a b c d e ((aR v11).1) ((aR v11).2) e v11 e e 0 rfl m y g;cases y with
       |ret f =>have o:=g;exact VZ (V3 (show cM (bM a b c d e v11) .ret (cO f)from RP [.b true,Wu 4,.ret [Wo ((aR v11).1),Wo ((aR v11).2)],Wu (e.length:Int),.lp .ret (fQ f)] (AC h<|AC k<|AD (cI v11)<|ALn e etI<|AL o<|AN)))
       |x2 =>
        have o:=g;apply V4<;>intro w
        ·exact VZ (V3 (show cM (bM a b c d e v11) .ret (cO false)from RP [.b true,Wu 4,.ret [Wo ((aR v11).1),Wo ((aR v11).2)],Wu (e.length:Int),.lp (.exit 2) (dk a b c d e e v11),Wu (e.length:Int),.b true] (AC h<|AC k<|AD (cI v11)<|ALn e etI<|AL o<|ALn e etI<|AC w<|AN)))
        ·have r:cM (bM a b c d e v11) .normal (bM a b c d e (inc v11)):=RP [.b true,Wu 4,.ret [Wo ((aR v11).1),Wo ((aR v11).2)],Wu (e.length:Int),.lp (.exit 2) (dk a b c d e e v11),Wu (e.length:Int),.b false] (AC h<|AC k<|AD (cI v11)<|ALn e etI<|AL o<|ALn e etI<|AC w<|AN);exact(q (inc v11)).mono fun y g=>by cases y<;>exact V2 r g
  ·exact VZ (V3 (show cM (bM a b c d e v11) (.exit 0) (s7)from RP [.b false] (AC h<|AN)))
noncomputable def ua (a:GCron):Option (Bool):=
  (b9 a.f0 a.f1 a.f2 a.f3 a.f4 9223372036854775808 0).bind fun y=>match y with
   | .ret b=>(some (b))
   | .x0=>(some (true))
theorem PG (x0:GCron):Ans (ua x0) (fun r=>Does E 153 [.agg (Wb .far x0)] [Wp r]):=by
 unfold ua;apply V5;intro y b;replace b:=Na x0.f0 x0.f1 x0.f2 x0.f3 x0.f4 9223372036854775808 0 y b;cases y with
 |ret a =>have c:=b;exact VZ (DP Tryz.f153 [.lp .ret (cO a)] (AL c<|AN))
 |x0 =>have c:=b;exact VZ (DP Tryz.f153 [.lp (.exit 0) (s7)] (AL c<|AN))
theorem Q4 (aL:List Int)(a b:Int)(k:aL.length≤1050000):∀(rest:List Int)(i:Nat),aL.drop i=rest→dM a b aL rest i=some (if mj a b rest (kH aL i)=true then .x2 else .ret false)
 |[],i,_=>rfl
 |x::rest,i,h=>by
  have f:=Q4 aL a b k rest (i+1) (az h);rw[Ig h]at f;have hi:i<aL.length:=by
   rcases WI i aL.length with g|g
   ·exact g
   ·rw[Xn g]at h;cases h
  unfold dM mj;rw[f];cases ak x a b with
  |false=>rfl
  |true =>
   rw[WK,Xa];rcases OG h with rfl|⟨y,j⟩
   ·simp[kH]
   ·by_cases z:i=0
    ·subst z;simp[kH]
    ·have l:kH aL i=some y:=by unfold kH;rw[WM z,j]
     have m:ar aL (IntKind.wrap .i64 ((i:Int)-1))=some y:=by
      rw[dR _ (by omega) (by omega)];have e:((i:Int)-1)=((i-1:Nat):Int):=by omega
      rw[e,dA,j]
     rw[l,m,WJ (by omega:(i:Int)>0),WK,Wy];simp only;by_cases c:y≥x
     ·have d:¬y<x:=by omega
      rw[WJ (show x≤y from c),WK];simp[d]
     ·have d:y<x:=by omega
      rw[WH (show ¬x≤y from c),WO];simp[d]
theorem qw (l:List Int)(a b:Int)(c:l.length≤1050000)(K:Option wP):
  ((dM a b l l 0).bind fun y=>match y with
    | .ret w=>some (.ret w)
    | .x2=>cond ((l.length:Int)==(0:Int)) (some (.ret false)) K)=(cond (br l a b) K (some (.ret false))):=by
 rw[Q4 l a b c l 0 rfl];unfold br kH;rw[Wz rfl];cases mj a b l none with
 |false=>rfl
 |true =>
  simp only[W8,Wy,Xa];cases l with
  |nil=>rfl
  |cons x l =>rw[show(((x::l).length:Int)==(0:Int))=false from Xy.2 (by simp<;>omega),WJ (by simp<;>omega)];rfl
theorem SQ (c:GCron)(h:ab.sm c):ua c=some (ku c):=by
 have a:=h.1.1;have b:=h.2.1.1;have d:=h.2.2.1.1;have e:=h.2.2.2.1.1;have f:=h.2.2.2.2.1;unfold ua;have g:∀n,b9 c.f0 c.f1 c.f2 c.f3 c.f4 (n+6) 0=some (if ku c=true then .x0 else .ret false):=by
  intro n;have i:b9 c.f0 c.f1 c.f2 c.f3 c.f4 (n+1) (inc (inc (inc (inc (inc 0)))))=some .x0:=rfl;have j:b9 c.f0 c.f1 c.f2 c.f3 c.f4 (n+2) (inc (inc (inc (inc 0))))=cond (br c.f4 0 6) (some .x0) (some (.ret false)):=by
   rw[←qw c.f4 0 6 f, ←i]
   conv=>lhs;unfold b9
   show(if inc (inc (inc (inc 0)))=4 then(if c.f4.length≤9223372036854775807 then _ else none)else none)=_;rw[Wz (by rfl),Wz (by omega)];rfl
  have k:b9 c.f0 c.f1 c.f2 c.f3 c.f4 (n+3) (inc (inc (inc 0)))=cond (br c.f3 1 12) (cond (br c.f4 0 6) (some .x0) (some (.ret false))) (some (.ret false)):=by
   rw[←qw c.f3 1 12 e, ←j]
   conv=>lhs;unfold b9
   show(if c.f3.length≤9223372036854775807 then _ else none)=_;rw[Wz (by omega)];rfl
  have l:b9 c.f0 c.f1 c.f2 c.f3 c.f4 (n+4) (inc (inc 0))=cond (br c.f2 1 31) (cond (br c.f3 1 12) (cond (br c.f4 0 6) (some .x0) (some (.ret false))) (some (.ret false))) (some (.ret false)):=by
   rw[←qw c.f2 1 31 d, ←k]
   conv=>lhs;unfold b9
   show(if c.f2.length≤9223372036854775807 then _ else none)=_;rw[Wz (by omega)];rfl
  have m:b9 c.f0 c.f1 c.f2 c.f3 c.f4 (n+5) (inc 0)=cond (br c.f1 0 23) (cond (br c.f2 1 31) (cond (br c.f3 1 12) (cond (br c.f4 0 6) (some .x0) (some (.ret false))) (some (.ret false))) (some (.ret false))) (some (.ret false)):=by
   rw[←qw c.f1 0 23 b, ←l]
   conv=>lhs;unfold b9
   show(if c.f1.length≤9223372036854775807 then _ else none)=_;rw[Wz (by omega)];rfl
  have o:b9 c.f0 c.f1 c.f2 c.f3 c.f4 (n+6) 0=cond (br c.f0 0 59) (cond (br c.f1 0 23) (cond (br c.f2 1 31) (cond (br c.f3 1 12) (cond (br c.f4 0 6) (some .x0) (some (.ret false))) (some (.ret false))) (some (.ret false))) (some (.ret false))) (some (.ret false)):=by
   rw[←qw c.f0 0 59 a, ←m]
   conv=>lhs;unfold b9
   show(if c.f0.length≤9223372036854775807 then _ else none)=_;rw[Wz (by omega)];rfl
  rw[o];unfold ku;cases br c.f0 0 59<;>cases br c.f1 0 23<;>cases br c.f2 1 31<;>cases br c.f3 1 12<;>cases br c.f4 0 6<;>rfl
 rw[g 9223372036854775802];cases ku c<;>rfl
theorem Eu (a:GCron)(h:ab.sm a):Does E 153 [.agg (Wb .far a)] [Wp (ku a)]:=by exact PG a _ (SQ a h)
noncomputable def Bv (b:List Int)(a:Int):Option (Bool):=some ((b.length:Int)==(inc (IntKind.wrap .i64 (((aR a).2)-((aR a).1)))))
theorem RC (b:List Int)(a:Int):Ans (Bv b a) (fun r=>Does E 154 [.one (Wx 1 (b.map etI)),Wr a] [Wp r]):=by unfold Bv;exact VZ (DP Tryz.f154 [.ret [Wo ((aR a).1),Wo ((aR a).2)],Wu (b.length:Int)] (AD (cI a)<|ALn b etI<|AN))
noncomputable def qI (l:List Int)(i:Int):Bool:=(Bv l i).getD false
theorem jn (a:List Int)(b:Int):Does E 154 [.one (Wx 1 (a.map etI)),Wr b] [Wp (qI a b)]:=by exact RC a b _ rfl
inductive Cc where|x0 (v5:Zz)
def lr (v0:List Int)(v5:Zz)(v6:Int):US:=stL 29 [(0,.one (Wx 1 (v0.map etI))),(5,Wt v5),(6,Wr v6)]
def r8 (a:Zz):US:=stL 29 [(5,Wt a)]
abbrev vm:US→Exit→US→Prop:=Round E 112 (aq Tryz.f112 0)
def Ma (v0:List Int)(v5:Zz)(v6:Int):Cc→Prop| .x0 a=>Loops E 112 (aq Tryz.f112 0) (lr v0 v5 v6) (.exit 0) (r8 a)
noncomputable def fv  : List Int→Nat→Zz→Option Cc|[],i,v5=>some (.x0 v5)|hd::rest,i,v5=>cond (decide ((i:Int)>(0:Int))) (if v5.size+(⟨#[44]⟩:Zz).size≤maxStr then if -9223372036854775808≤hd∧hd≤9223372036854775807 then if(v5++(⟨#[44]⟩:Zz)).size+(bI hd).size≤maxStr then fv rest (i+1) ((v5++(⟨#[44]⟩:Zz))++(bI hd))else none else none else none) (if -9223372036854775808≤hd∧hd≤9223372036854775807 then if v5.size+(bI hd).size≤maxStr then fv rest (i+1) (v5++(bI hd))else none else none)
theorem L9 (v0:List Int)(rest:List Int):∀(i:Nat)(v5:Zz),(v0).drop i=rest→v0.length≤9223372036854775807→Ans (fv rest i v5) (Ma v0 v5 (i:Int)):=by
 induction rest with
 |nil =>intro i v5 a c;have hb:=aP a;unfold fv;exact VZ (V3 (show vm (lr v0 v5 (i:Int)) (.exit 0) (r8 v5)from RP [Wu (v0.length:Int),.b false] (ALn v0 etI<|AC hb<|AN)))
 |cons hd rest f =>
  intro i v5 a c;have hb:=aI a;have g:=aJ a c;have b:=az a;have h:=aK a;unfold fv;apply V4<;>intro j
  ·apply V6;intro k;apply V6;intro d;apply V6;intro l;exact(f (i+1) ((v5++(⟨#[44]⟩:Zz))++(bI hd)) b c).mono fun y e=>by have r:vm (lr v0 v5 (i:Int)) .normal (lr v0 ((v5++(⟨#[44]⟩:Zz))++(bI hd)) (inc (i:Int))):=RP [Wu (v0.length:Int),.b true,.b true,.val (.string (v5++(⟨#[44]⟩:Zz))),.row (etI hd),.ret [Wq (bI hd)],.val (.string ((v5++(⟨#[44]⟩:Zz))++(bI hd)))] (ALn v0 etI<|AC hb<|AC j<|AC (ji (tab:=E.tab) (t:=9) k)<|AR etI h<|AD (sj hd d)<|AC (ji (tab:=E.tab) (t:=9) l)<|AN);rw[g]at r;cases y<;>exact V2 r e
  ·apply V6;intro m;apply V6;intro d;exact(f (i+1) (v5++(bI hd)) b c).mono fun y e=>by have r:vm (lr v0 v5 (i:Int)) .normal (lr v0 (v5++(bI hd)) (inc (i:Int))):=RP [Wu (v0.length:Int),.b true,.b false,.row (etI hd),.ret [Wq (bI hd)],.val (.string (v5++(bI hd)))] (ALn v0 etI<|AC hb<|AC j<|AR etI h<|AD (sj hd m)<|AC (ji (tab:=E.tab) (t:=9) d)<|AN);rw[g]at r;cases y<;>exact V2 r e
noncomputable def sI (b:List Int)(c:Int):Option (Zz):=
  cond ((b.length:Int)==c)
   (some ((⟨#[42]⟩:Zz)))
   (if b.length≤9223372036854775807 then(fv b 0 ByteArray.empty).bind fun y=>match y with
    | .x0 a=>(some (a))else none)
theorem N2 (x0:List Int)(d:Int):Ans (sI x0 d) (fun r=>Does E 112 [.one (Wx 1 (x0.map etI)),Wr d] [Wq r]):=by
 unfold sI;apply V4<;>intro e
 ·exact VZ (DP Tryz.f112 [Wu (x0.length:Int),.b true] (ALn x0 etI<|AC e<|AN))
 ·apply V6;intro b;apply V5;intro y c;replace c:=L9 x0 x0 0 ByteArray.empty rfl b y c;cases y with
  |x0 a =>have f:=c;exact VZ (DP Tryz.f112 [Wu (x0.length:Int),.b false,.lp (.exit 0) (r8 a)] (ALn x0 etI<|AC e<|AL f<|AN))
def jE (c:UInt8):List (List UInt8)→List UInt8|[]=>[]|x::xs=>x++(xs.map fun y=>c::y).flatten
theorem BE (c:UInt8):∀xs:List (List UInt8),Lib.join xs [c]=jE c xs
 |[]=>rfl
 |[x]=>by simp[Lib.join,List.intercalate,jE]
 |x::y::xs=>by have a:=BE c (y::xs);unfold Lib.join List.intercalate at a ⊢;rw[List.intersperse_cons_cons,List.flatten_cons,List.flatten_cons,a];simp[jE]
theorem z6 (xs:List (List UInt8))(c:UInt8):bq (xs.map ofTx) ⟨#[c]⟩=ofTx (jE c xs):=by
 unfold bq;have:(xs.map ofTx).map (fun s:Zz=>s.data.toList)=xs:=by
  rw[Xk]
  conv=>rhs;rw[←YG xs]
  rfl
 rw[this];show ofTx (Lib.join xs [c])=_;rw[BE]
theorem CS (c:UInt8)(k:Nat):∀xs:List (List UInt8),(∀x∈xs,x.length≤k)→(jE c xs).length≤xs.length*(k+1)
 |[],_=>by simp[jE]
 |x::xs,h=>by
  have d:=h x (by simp);have:∀ys:List (List UInt8),(∀y∈ys,y.length≤k)→((ys.map fun y=>c::y).flatten).length≤ys.length*(k+1):=by
   intro ys;induction ys with
   |nil=>intro _;simp
   |cons y ys a =>
    intro h;have:=a fun z hz=>h z (by simp[hz])
    have:=h y (by simp);simp[X0]at *;omega
  have:=this xs fun y b=>h y (by simp[b])
  simp only[jE,Zh,W4,X0];omega
theorem DY {x:Int}(h:0≤x∧x≤59):(tx (bI x)).length≤2:=by show(Lib.itoa x).length≤2;unfold Lib.itoa;rw[WM (by omega)];exact yW 1 _ (by omega)
noncomputable def aQ (l:List Int)(size:Int):Zz:=cond ((l.length:Int)==size) ⟨#[42]⟩ (ofTx (jE 44 (l.map fun x=>tx (bI x))))
theorem iN {l:List Int}(c:l.length≤60)(h:∀z∈l,0≤z∧z≤59)(n:Int):(aQ l n).size≤200:=by
 unfold aQ;cases(l.length:Int)==n with
 |true=>exact(by decide:(⟨#[42]⟩:Zz).size≤200)
 |false =>
  rw[WO,sV];have:=CS 44 2 (l.map fun x=>tx (bI x)) (fun y a=>by obtain⟨x,b,rfl⟩:=WU.1 a;exact DY (h x b));rw[W6]at this;omega
theorem Sp:∀(l:List Int)(i:Nat)(v:List UInt8),(∀z∈l,0≤z∧z≤59)→0<i→v.length+l.length*3≤1000→fv l i (ofTx v)=some (.x0 (ofTx (v++((l.map fun x=>44::tx (bI x)).flatten))))
 |[],i,v,_,_,_=>by unfold fv;simp
 |x::l,i,v,h,hi,b=>by have c:=h x (by simp);have hz:=DY c;have a:(⟨#[44]⟩:Zz)=ofTx [44]:=rfl;simp only[W4]at b;unfold fv;rw[WJ (by omega),WK,a,rR, ←yn (bI x),rR];simp only[sV,yJ];rw[Wz (by simp[maxStr];omega),Wz (by omega),Wz (by simp[maxStr];omega),Sp l (i+1) _ (fun z hz=>h z (by simp[hz])) (by omega) (by simp;omega)];simp
theorem Ub (l:List Int)(n:Int)(a:l.length≤60)(h:∀z∈l,0≤z∧z≤59):sI l n=some (aQ l n):=by
 unfold sI aQ;cases(l.length:Int)==n with
 |true=>rfl
 |false =>
  rw[WO,WO,Wz (by omega)];cases l with
  |nil=>rfl
  |cons x l =>
   have b:=h x (by simp);have hz:=DY b;simp only[W4]at a;unfold fv;have e:ByteArray.empty++bI x=ofTx (tx (bI x)):=by show ofTx []++ofTx (tx (bI x))=_;rw[rR];rfl
   have c:(bI x).size≤2:=by rw[dQ];exact hz
   have d:ByteArray.empty.size=0:=rfl;rw[WH (by omega),WO,Wz (by omega),Wz (by rw[d];unfold maxStr;omega),e,Sp l _ _ (fun z hz=>h z (by simp[hz])) (by omega) (by omega),Wy];simp only[WT,jE,Xk];rfl
theorem oL (a:List Int)(b:Int)(c:a.length≤60)(d:∀z∈a,0≤z∧z≤59):Does E 112 [.one (Wx 1 (a.map etI)),Wr b] [Wq (aQ a b)]:=by exact N2 a b _ (Ub a b c d)
noncomputable def rc (a:GCron):Option (Zz×Bool):=if ab.sm a then cond (ku a) (if a.f0.length≤60 then if ∀z∈a.f0,0≤z∧z≤59 then if(aQ a.f0 60).size+(⟨#[32]⟩:Zz).size≤maxStr then if a.f1.length≤60 then if ∀z∈a.f1,0≤z∧z≤59 then if((aQ a.f0 (60:Int))++(⟨#[32]⟩:Zz)).size+(aQ a.f1 24).size≤maxStr then if(((aQ a.f0 (60:Int))++(⟨#[32]⟩:Zz))++(aQ a.f1 24)).size+(⟨#[32]⟩:Zz).size≤maxStr then if a.f2.length≤60 then if ∀z∈a.f2,0≤z∧z≤59 then if((((aQ a.f0 (60:Int))++(⟨#[32]⟩:Zz))++(aQ a.f1 24))++(⟨#[32]⟩:Zz)).size+(aQ a.f2 31).size≤maxStr then if(((((aQ a.f0 (60:Int))++(⟨#[32]⟩:Zz))++(aQ a.f1 24))++(⟨#[32]⟩:Zz))++(aQ a.f2 31)).size+(⟨#[32]⟩:Zz).size≤maxStr then if a.f3.length≤60 then if ∀z∈a.f3,0≤z∧z≤59 then if((((((aQ a.f0 (60:Int))++(⟨#[32]⟩:Zz))++(aQ a.f1 24))++(⟨#[32]⟩:Zz))++(aQ a.f2 31))++(⟨#[32]⟩:Zz)).size+(aQ a.f3 12).size≤maxStr then if(((((((aQ a.f0 (60:Int))++(⟨#[32]⟩:Zz))++(aQ a.f1 24))++(⟨#[32]⟩:Zz))++(aQ a.f2 31))++(⟨#[32]⟩:Zz))++(aQ a.f3 12)).size+(⟨#[32]⟩:Zz).size≤maxStr then if a.f4.length≤60 then if ∀z∈a.f4,0≤z∧z≤59 then if((((((((aQ a.f0 (60:Int))++(⟨#[32]⟩:Zz))++(aQ a.f1 24))++(⟨#[32]⟩:Zz))++(aQ a.f2 31))++(⟨#[32]⟩:Zz))++(aQ a.f3 12))++(⟨#[32]⟩:Zz)).size+(aQ a.f4 7).size≤maxStr then some (((((((((aQ a.f0 (60:Int))++(⟨#[32]⟩:Zz))++(aQ a.f1 24))++(⟨#[32]⟩:Zz))++(aQ a.f2 31))++(⟨#[32]⟩:Zz))++(aQ a.f3 12))++(⟨#[32]⟩:Zz))++(aQ a.f4 7),true)else none else none else none else none else none else none else none else none else none else none else none else none else none else none else none else none else none else none) (some (ByteArray.empty,false))else none
theorem LT (a:GCron):Ans (rc a) (fun r=>Does E 92 [.agg (Wb .far a)] [Wq r.1,Wp r.2]):=by
 unfold rc;apply V6;intro l;apply V4<;>intro m
 ·apply V6;intro n;apply V6;intro o;apply V6;intro p;apply V6;intro q;apply V6;intro s;apply V6;intro u;apply V6;intro v;apply V6;intro w;apply V6;intro b;apply V6;intro c;apply V6;intro d;apply V6;intro e;apply V6;intro f;apply V6;intro g;apply V6;intro h;apply V6;intro i;apply V6;intro j;apply V6;intro k;exact VZ (DP Tryz.f92 [rT,.ret [Wq (aQ a.f0 60)],.val (.string ((aQ a.f0 (60:Int))++(⟨#[32]⟩:Zz))),.ret [Wq (aQ a.f1 24)],.val (.string (((aQ a.f0 (60:Int))++(⟨#[32]⟩:Zz))++(aQ a.f1 24))),.val (.string ((((aQ a.f0 (60:Int))++(⟨#[32]⟩:Zz))++(aQ a.f1 24))++(⟨#[32]⟩:Zz))),.ret [Wq (aQ a.f2 31)],.val (.string (((((aQ a.f0 (60:Int))++(⟨#[32]⟩:Zz))++(aQ a.f1 24))++(⟨#[32]⟩:Zz))++(aQ a.f2 31))),.val (.string ((((((aQ a.f0 (60:Int))++(⟨#[32]⟩:Zz))++(aQ a.f1 24))++(⟨#[32]⟩:Zz))++(aQ a.f2 31))++(⟨#[32]⟩:Zz))),.ret [Wq (aQ a.f3 12)],.val (.string (((((((aQ a.f0 (60:Int))++(⟨#[32]⟩:Zz))++(aQ a.f1 24))++(⟨#[32]⟩:Zz))++(aQ a.f2 31))++(⟨#[32]⟩:Zz))++(aQ a.f3 12))),.val (.string ((((((((aQ a.f0 (60:Int))++(⟨#[32]⟩:Zz))++(aQ a.f1 24))++(⟨#[32]⟩:Zz))++(aQ a.f2 31))++(⟨#[32]⟩:Zz))++(aQ a.f3 12))++(⟨#[32]⟩:Zz))),.ret [Wq (aQ a.f4 7)],.val (.string (((((((((aQ a.f0 (60:Int))++(⟨#[32]⟩:Zz))++(aQ a.f1 24))++(⟨#[32]⟩:Zz))++(aQ a.f2 31))++(⟨#[32]⟩:Zz))++(aQ a.f3 12))++(⟨#[32]⟩:Zz))++(aQ a.f4 7)))] (AD (V9 (EC a l) m)<|AD (oL a.f0 60 n o)<|AC (ji (tab:=E.tab) (t:=9) p)<|AD (oL a.f1 24 q s)<|AC (ji (tab:=E.tab) (t:=9) u)<|AC (ji (tab:=E.tab) (t:=9) v)<|AD (oL a.f2 31 w b)<|AC (ji (tab:=E.tab) (t:=9) c)<|AC (ji (tab:=E.tab) (t:=9) d)<|AD (oL a.f3 12 e f)<|AC (ji (tab:=E.tab) (t:=9) g)<|AC (ji (tab:=E.tab) (t:=9) h)<|AD (oL a.f4 7 i j)<|AC (ji (tab:=E.tab) (t:=9) k)<|AN))
 ·exact VZ (DP Tryz.f92 [rF] (AD (V9 (EC a l) m)<|AN))
inductive zZ where|x2 (v7:List Zz)
def o8 (a b c d e:List Int)(v4 v7:List Zz)(f:Int)(v28:List Int)(g h:Int):US:=stL 48 [(1,.box () [Wx 1 (a.map etI),Wx 1 (b.map etI),Wx 1 (c.map etI),Wx 1 (d.map etI),Wx 1 (e.map etI)]),(4,.one (Ww 1 (v4.map etS))),(7,.one (Ww 1 (v7.map etS))),(13,.clo (.arr [0,1,2,3,4]) [1,1,1,1,1]),(14,Wr f),(28,.one (Wx 1 (v28.map etI))),(29,Wr g),(30,Wr h)]
def gp (a b c d e:List Int)(v4:List Zz)(f:Int)(g:List Zz):US:=stL 48 [(1,.box () [Wx 1 (a.map etI),Wx 1 (b.map etI),Wx 1 (c.map etI),Wx 1 (d.map etI),Wx 1 (e.map etI)]),(4,.one (Ww 1 (v4.map etS))),(7,.one (Ww 1 (g.map etS))),(13,.clo (.arr [0,1,2,3,4]) [1,1,1,1,1]),(14,Wr f)]
abbrev zY:US→Exit→US→Prop:=Round E 133 (aq Tryz.f133 1)
def II (a b c d e:List Int)(v4 v7:List Zz)(f:Int)(v28:List Int)(g h:Int):zZ→Prop| .x2 i=>Loops E 133 (aq Tryz.f133 1) (o8 a b c d e v4 v7 f v28 g h) (.exit 2) (gp a b c d e v4 f i)
noncomputable def cP  : List Int→Nat→(List Zz)→Option zZ|[],i,v7=>some (.x2 v7)|hd::rest,i,v7=>if -9223372036854775808≤hd∧hd≤9223372036854775807 then if(v7.length+([bI hd]).length)*16≤140737488355328∧v7.length+([bI hd]).length≤4611686018427387904 then cP rest (i+1) (v7++([bI hd]))else none else none
theorem mg (a b c d e:List Int)(v4:List Zz)(f:Int)(v28:List Int)(rest:List Int):∀(i:Nat)(v7:List Zz),(v28).drop i=rest→v28.length≤9223372036854775807→Ans (cP rest i v7) (II a b c d e v4 v7 f v28 (v28.length:Int) (i:Int)):=by
 induction rest with
 |nil =>intro i v7 g h;have hb:=aP g;unfold cP;exact VZ (V3 (show zY (o8 a b c d e v4 v7 f v28 (v28.length:Int) (i:Int)) (.exit 2) (gp a b c d e v4 f v7)from RP [.b false] (AC hb<|AN)))
 |cons hd rest k =>intro i v7 g h;have hb:=aI g;have l:=aJ g h;have j:=az g;have m:=aK g;unfold cP;apply V6;intro n;apply V6;intro o;exact(k (i+1) (v7++([bI hd])) j h).mono fun y p=>by have r:zY (o8 a b c d e v4 v7 f v28 (v28.length:Int) (i:Int)) .normal (o8 a b c d e v4 (v7++([bI hd])) f v28 (v28.length:Int) (inc (i:Int))):=RP [.b true,.row (etI hd),.ret [Wq (bI hd)],.rows ((v7++([bI hd])).map etS)] (AC hb<|AR etI m<|AD (wD hd n)<|AAp etS (fun _=>rfl) o<|AN);rw[l]at r;cases y<;>exact V2 r p
inductive s8 where|x0 (v4:List Zz)
def bv (a b c d e:List Int)(v4:List Zz)(f:Int):US:=stL 48 [(1,.box () [Wx 1 (a.map etI),Wx 1 (b.map etI),Wx 1 (c.map etI),Wx 1 (d.map etI),Wx 1 (e.map etI)]),(4,.one (Ww 1 (v4.map etS))),(13,.clo (.arr [0,1,2,3,4]) [1,1,1,1,1]),(14,Wr f)]
def qy (a:List Zz):US:=stL 48 [(4,.one (Ww 1 (a.map etS)))]
abbrev dE:US→Exit→US→Prop:=Round E 133 (aq Tryz.f133 0)
def IH (a b c d e:List Int)(v4:List Zz)(f:Int):s8→Prop| .x0 g=>Loops E 133 (aq Tryz.f133 0) (bv a b c d e v4 f) (.exit 0) (qy g)
noncomputable def aW (c d e f g:List Int):Nat→(List Zz)→Int→Option s8
 | 0,_,_=>none
 |n+1,v4,b=>cond (decide (b<(5:Int)))
  (cond (b==(0:Int))
   (cond (qI c b)
    (if(v4.length+([(⟨#[42]⟩:Zz)]).length)*16≤140737488355328∧v4.length+([(⟨#[42]⟩:Zz)]).length≤4611686018427387904 then aW c d e f g n (v4++([(⟨#[42]⟩:Zz)])) (inc b)else none)
    (if c.length≤9223372036854775807 then(cP c 0 ([])).bind fun y=>match y with
     | .x2 a=>(if a.length≤140737488355328∧(bq a (⟨#[44]⟩:Zz)).size≤140737488355328 then if(v4.length+([bq a (⟨#[44]⟩:Zz)]).length)*16≤140737488355328∧v4.length+([bq a (⟨#[44]⟩:Zz)]).length≤4611686018427387904 then aW c d e f g n (v4++([bq a (⟨#[44]⟩:Zz)])) (inc b)else none else none)else none))
   (cond (b==(1:Int))
    (cond (qI d b)
     (if(v4.length+([(⟨#[42]⟩:Zz)]).length)*16≤140737488355328∧v4.length+([(⟨#[42]⟩:Zz)]).length≤4611686018427387904 then aW c d e f g n (v4++([(⟨#[42]⟩:Zz)])) (inc b)else none)
     (if d.length≤9223372036854775807 then(cP d 0 ([])).bind fun y=>match y with
      | .x2 a=>(if a.length≤140737488355328∧(bq a (⟨#[44]⟩:Zz)).size≤140737488355328 then if(v4.length+([bq a (⟨#[44]⟩:Zz)]).length)*16≤140737488355328∧v4.length+([bq a (⟨#[44]⟩:Zz)]).length≤4611686018427387904 then aW c d e f g n (v4++([bq a (⟨#[44]⟩:Zz)])) (inc b)else none else none)else none))
    (cond (b==(2:Int))
     (cond (qI e b)
      (if(v4.length+([(⟨#[42]⟩:Zz)]).length)*16≤140737488355328∧v4.length+([(⟨#[42]⟩:Zz)]).length≤4611686018427387904 then aW c d e f g n (v4++([(⟨#[42]⟩:Zz)])) (inc b)else none)
      (if e.length≤9223372036854775807 then(cP e 0 ([])).bind fun y=>match y with
       | .x2 a=>(if a.length≤140737488355328∧(bq a (⟨#[44]⟩:Zz)).size≤140737488355328 then if(v4.length+([bq a (⟨#[44]⟩:Zz)]).length)*16≤140737488355328∧v4.length+([bq a (⟨#[44]⟩:Zz)]).length≤4611686018427387904 then aW c d e f g n (v4++([bq a (⟨#[44]⟩:Zz)])) (inc b)else none else none)else none))
     (cond (b==(3:Int))
      (cond (qI f b)
       (if(v4.length+([(⟨#[42]⟩:Zz)]).length)*16≤140737488355328∧v4.length+([(⟨#[42]⟩:Zz)]).length≤4611686018427387904 then aW c d e f g n (v4++([(⟨#[42]⟩:Zz)])) (inc b)else none)
       (if f.length≤9223372036854775807 then(cP f 0 ([])).bind fun y=>match y with
        | .x2 a=>(if a.length≤140737488355328∧(bq a (⟨#[44]⟩:Zz)).size≤140737488355328 then if(v4.length+([bq a (⟨#[44]⟩:Zz)]).length)*16≤140737488355328∧v4.length+([bq a (⟨#[44]⟩:Zz)]).length≤4611686018427387904 then aW c d e f g n (v4++([bq a (⟨#[44]⟩:Zz)])) (inc b)else none else none)else none))
      (if b=(4:Int)then cond (qI g b)
       (if(v4.length+([(⟨#[42]⟩:Zz)]).length)*16≤140737488355328∧v4.length+([(⟨#[42]⟩:Zz)]).length≤4611686018427387904 then aW c d e f g n (v4++([(⟨#[42]⟩:Zz)])) (inc b)else none)
       (if g.length≤9223372036854775807 then(cP g 0 ([])).bind fun y=>match y with
        | .x2 a=>(if a.length≤140737488355328∧(bq a (⟨#[44]⟩:Zz)).size≤140737488355328 then if(v4.length+([bq a (⟨#[44]⟩:Zz)]).length)*16≤140737488355328∧v4.length+([bq a (⟨#[44]⟩:Zz)]).length≤4611686018427387904 then aW c d e f g n (v4++([bq a (⟨#[44]⟩:Zz)])) (inc b)else none else none)else none)else none)))))
  (some (.x0 v4))
theorem IG (c d e f g:List Int)(n:Nat):∀(v4:List Zz)(b:Int),Ans (aW c d e f g n v4 b) (IH c d e f g v4 b):=by
 induction n with
 |zero=>intros;exact Ans.none
 |succ n m =>
  intro v4 b;unfold aW;apply V4<;>intro j
  ·apply V4<;>intro A
   ·apply V4<;>intro u
    ·apply V6;intro q;have r:dE (bv c d e f g v4 b) .normal (bv c d e f g (v4++([(⟨#[42]⟩:Zz)])) (inc b)):=RP [.b true,Wu 0,rT,.rows ((v4++([(⟨#[42]⟩:Zz)])).map etS)] (AC j<|AC (p:=b=(0:Int)) (eq_of_beq A)<|AD (V9 (jn c b) u)<|AAp etS (fun _=>rfl) q<|AN);exact(m (v4++([(⟨#[42]⟩:Zz)])) (inc b)).mono fun y h=>by cases y<;>exact V2 r h
    ·apply V6;intro v;apply V5;intro y h;replace h:=mg c d e f g v4 b c c 0 ([]) rfl v y h;cases y with
     |x2 a =>have q:=h;apply V6;intro l;apply V6;intro i;have r:dE (bv c d e f g v4 b) .normal (bv c d e f g (v4++([bq a (⟨#[44]⟩:Zz)])) (inc b)):=RP [.b true,Wu 0,rF,Wu (c.length:Int),.lp (.exit 2) (gp c d e f g v4 b a),.ret [Wq (bq a (⟨#[44]⟩:Zz))],.rows ((v4++([bq a (⟨#[44]⟩:Zz)])).map etS)] (AC j<|AC (p:=b=(0:Int)) (eq_of_beq A)<|AD (V9 (jn c b) u)<|ALn c etI<|AL q<|AV (ψ:=fun k=>E.C k 156 [.one (Wx 1 (((a.map etS).drop 0).take (a.map etS).length)),Wt (⟨#[44]⟩:Zz)]=some [Wq (bq a (⟨#[44]⟩:Zz))]) (V8 (by simp only[Xb,W9]) (jD a (⟨#[44]⟩:Zz) l))<|AAp etS (fun _=>rfl) i<|AN);exact(m (v4++([bq a (⟨#[44]⟩:Zz)])) (inc b)).mono fun y h=>by cases y<;>exact V2 r h
   ·apply V4<;>intro u
    ·apply V4<;>intro q
     ·apply V6;intro l;have r:dE (bv c d e f g v4 b) .normal (bv c d e f g (v4++([(⟨#[42]⟩:Zz)])) (inc b)):=RP [.b true,Wu 1,rT,.rows ((v4++([(⟨#[42]⟩:Zz)])).map etS)] (AC j<|AC (p:=b=(1:Int)) (eq_of_beq u)<|AD (V9 (jn d b) q)<|AAp etS (fun _=>rfl) l<|AN);exact(m (v4++([(⟨#[42]⟩:Zz)])) (inc b)).mono fun y h=>by cases y<;>exact V2 r h
     ·apply V6;intro w;apply V5;intro y h;replace h:=mg c d e f g v4 b d d 0 ([]) rfl w y h;cases y with
      |x2 a =>have l:=h;apply V6;intro i;apply V6;intro o;have r:dE (bv c d e f g v4 b) .normal (bv c d e f g (v4++([bq a (⟨#[44]⟩:Zz)])) (inc b)):=RP [.b true,Wu 1,rF,Wu (d.length:Int),.lp (.exit 2) (gp c d e f g v4 b a),.ret [Wq (bq a (⟨#[44]⟩:Zz))],.rows ((v4++([bq a (⟨#[44]⟩:Zz)])).map etS)] (AC j<|AC (p:=b=(1:Int)) (eq_of_beq u)<|AD (V9 (jn d b) q)<|ALn d etI<|AL l<|AV (ψ:=fun k=>E.C k 156 [.one (Wx 1 (((a.map etS).drop 0).take (a.map etS).length)),Wt (⟨#[44]⟩:Zz)]=some [Wq (bq a (⟨#[44]⟩:Zz))]) (V8 (by simp only[Xb,W9]) (jD a (⟨#[44]⟩:Zz) i))<|AAp etS (fun _=>rfl) o<|AN);exact(m (v4++([bq a (⟨#[44]⟩:Zz)])) (inc b)).mono fun y h=>by cases y<;>exact V2 r h
    ·apply V4<;>intro q
     ·apply V4<;>intro l
      ·apply V6;intro i;have r:dE (bv c d e f g v4 b) .normal (bv c d e f g (v4++([(⟨#[42]⟩:Zz)])) (inc b)):=RP [.b true,Wu 2,rT,.rows ((v4++([(⟨#[42]⟩:Zz)])).map etS)] (AC j<|AC (p:=b=(2:Int)) (eq_of_beq q)<|AD (V9 (jn e b) l)<|AAp etS (fun _=>rfl) i<|AN);exact(m (v4++([(⟨#[42]⟩:Zz)])) (inc b)).mono fun y h=>by cases y<;>exact V2 r h
      ·apply V6;intro x;apply V5;intro y h;replace h:=mg c d e f g v4 b e e 0 ([]) rfl x y h;cases y with
       |x2 a =>have i:=h;apply V6;intro o;apply V6;intro s;have r:dE (bv c d e f g v4 b) .normal (bv c d e f g (v4++([bq a (⟨#[44]⟩:Zz)])) (inc b)):=RP [.b true,Wu 2,rF,Wu (e.length:Int),.lp (.exit 2) (gp c d e f g v4 b a),.ret [Wq (bq a (⟨#[44]⟩:Zz))],.rows ((v4++([bq a (⟨#[44]⟩:Zz)])).map etS)] (AC j<|AC (p:=b=(2:Int)) (eq_of_beq q)<|AD (V9 (jn e b) l)<|ALn e etI<|AL i<|AV (ψ:=fun k=>E.C k 156 [.one (Wx 1 (((a.map etS).drop 0).take (a.map etS).length)),Wt (⟨#[44]⟩:Zz)]=some [Wq (bq a (⟨#[44]⟩:Zz))]) (V8 (by simp only[Xb,W9]) (jD a (⟨#[44]⟩:Zz) o))<|AAp etS (fun _=>rfl) s<|AN);exact(m (v4++([bq a (⟨#[44]⟩:Zz)])) (inc b)).mono fun y h=>by cases y<;>exact V2 r h
     ·apply V4<;>intro l
      ·apply V4<;>intro i
       ·apply V6;intro o;have r:dE (bv c d e f g v4 b) .normal (bv c d e f g (v4++([(⟨#[42]⟩:Zz)])) (inc b)):=RP [.b true,Wu 3,rT,.rows ((v4++([(⟨#[42]⟩:Zz)])).map etS)] (AC j<|AC (p:=b=(3:Int)) (eq_of_beq l)<|AD (V9 (jn f b) i)<|AAp etS (fun _=>rfl) o<|AN);exact(m (v4++([(⟨#[42]⟩:Zz)])) (inc b)).mono fun y h=>by cases y<;>exact V2 r h
       ·apply V6;intro t;apply V5;intro y h;replace h:=mg c d e f g v4 b f f 0 ([]) rfl t y h;cases y with
        |x2 a =>have o:=h;apply V6;intro s;apply V6;intro z;have r:dE (bv c d e f g v4 b) .normal (bv c d e f g (v4++([bq a (⟨#[44]⟩:Zz)])) (inc b)):=RP [.b true,Wu 3,rF,Wu (f.length:Int),.lp (.exit 2) (gp c d e f g v4 b a),.ret [Wq (bq a (⟨#[44]⟩:Zz))],.rows ((v4++([bq a (⟨#[44]⟩:Zz)])).map etS)] (AC j<|AC (p:=b=(3:Int)) (eq_of_beq l)<|AD (V9 (jn f b) i)<|ALn f etI<|AL o<|AV (ψ:=fun k=>E.C k 156 [.one (Wx 1 (((a.map etS).drop 0).take (a.map etS).length)),Wt (⟨#[44]⟩:Zz)]=some [Wq (bq a (⟨#[44]⟩:Zz))]) (V8 (by simp only[Xb,W9]) (jD a (⟨#[44]⟩:Zz) s))<|AAp etS (fun _=>rfl) z<|AN);exact(m (v4++([bq a (⟨#[44]⟩:Zz)])) (inc b)).mono fun y h=>by cases y<;>exact V2 r h
      ·apply V6;intro i;apply V4<;>intro o
       ·apply V6;intro s;have r:dE (bv c d e f g v4 b) .normal (bv c d e f g (v4++([(⟨#[42]⟩:Zz)])) (inc b)):=RP [.b true,Wu 4,rT,.rows ((v4++([(⟨#[42]⟩:Zz)])).map etS)] (AC j<|AC i<|AD (V9 (jn g b) o)<|AAp etS (fun _=>rfl) s<|AN);exact(m (v4++([(⟨#[42]⟩:Zz)])) (inc b)).mono fun y h=>by cases y<;>exact V2 r h
       ·apply V6;intro t;apply V5;intro y h;replace h:=mg c d e f g v4 b g g 0 ([]) rfl t y h;cases y with
        |x2 a =>have s:=h;apply V6;intro z;apply V6;intro B;have r:dE (bv c d e f g v4 b) .normal (bv c d e f g (v4++([bq a (⟨#[44]⟩:Zz)])) (inc b)):=RP [.b true,Wu 4,rF,Wu (g.length:Int),.lp (.exit 2) (gp c d e f g v4 b a),.ret [Wq (bq a (⟨#[44]⟩:Zz))],.rows ((v4++([bq a (⟨#[44]⟩:Zz)])).map etS)] (AC j<|AC i<|AD (V9 (jn g b) o)<|ALn g etI<|AL s<|AV (ψ:=fun k=>E.C k 156 [.one (Wx 1 (((a.map etS).drop 0).take (a.map etS).length)),Wt (⟨#[44]⟩:Zz)]=some [Wq (bq a (⟨#[44]⟩:Zz))]) (V8 (by simp only[Xb,W9]) (jD a (⟨#[44]⟩:Zz) z))<|AAp etS (fun _=>rfl) B<|AN);exact(m (v4++([bq a (⟨#[44]⟩:Zz)])) (inc b)).mono fun y h=>by cases y<;>exact V2 r h
  ·exact VZ (V3 (show dE (bv c d e f g v4 b) (.exit 0) (qy v4)from RP [.b false] (AC j<|AN)))
noncomputable def qz (b:GCron):Option (Zz×Bool):=
  if ab.sm b then cond (ku b)
   ((aW b.f0 b.f1 b.f2 b.f3 b.f4 9223372036854775808 ([]) 0).bind fun y=>match y with
    | .x0 a=>(if a.length≤140737488355328∧(bq a (⟨#[32]⟩:Zz)).size≤140737488355328 then some (bq a (⟨#[32]⟩:Zz),true)else none))
   (some (ByteArray.empty,false))else none
theorem KR (x0:GCron):Ans (qz x0) (fun r=>Does E 133 [.agg (Wb .far x0)] [Wq r.1,Wp r.2]):=by
 unfold qz;apply V6;intro c;apply V4<;>intro d
 ·apply V5;intro y b;replace b:=IG x0.f0 x0.f1 x0.f2 x0.f3 x0.f4 9223372036854775808 ([]) 0 y b;cases y with
  |x0 a =>have e:=b;apply V6;intro f;exact VZ (DP Tryz.f133 [rT,.lp (.exit 0) (qy a),.ret [Wq (bq a (⟨#[32]⟩:Zz))]] (AD (V9 (Eu x0 c) d)<|AL e<|AV (ψ:=fun k=>E.C k 156 [.one (Wx 1 (((a.map etS).drop 0).take (a.map etS).length)),Wt (⟨#[32]⟩:Zz)]=some [Wq (bq a (⟨#[32]⟩:Zz))]) (V8 (by simp only[Xb,W9]) (jD a (⟨#[32]⟩:Zz) f))<|AN))
 ·exact VZ (DP Tryz.f133 [rF] (AD (V9 (Eu x0 c) d)<|AN))
theorem Ii {a b:Int}:∀{l:List Int}{p:Option Int},mj a b l p=true→l.Pairwise (· < ·)∧∀y,p=some y→∀x∈l,y<x
 |[],p,_=>⟨by simp,fun y _ x hx=>by cases hx⟩
 |z::l,p,h=>by
  unfold mj at h;simp only[W0]at h;obtain⟨d,f⟩:=Ii h.2;have c:=f z rfl;refine⟨Zi.2 ⟨c,d⟩,fun y e x hx=>?_⟩;subst e;have g:y<z:=by simpa using h.1.2
  rcases WZ.1 hx with rfl|hx
  ·exact g
  ·have:=c x hx;omega
theorem LN {a b:Int}:∀{l:List Int}{p:Option Int},mj a b l p=true→∀x∈l,a≤x∧x≤b
 |[],_,_,x,hx=>by cases hx
 |y::l,p,h,x,hx=>by
  unfold mj at h;simp only[W0]at h;rcases WZ.1 hx with rfl|hx
  ·have:=h.1.1;unfold ak at this;simpa using this
  ·exact LN h.2 x hx
theorem H9 {l:List Int}{a b:Int}(h:br l a b=true):∀x∈l,a≤x∧x≤b:=by unfold br at h;rw[W0]at h;have h:=h.1;exact LN h
theorem Qi {l:List Int}{a b:Int}(h:br l a b=true)(c:a≤b+1):(l.length:Int)≤b+1-a:=by have hi:=H9 h;unfold br at h;rw[W0]at h;exact zy a b l a (Ii h.1).1 hi c
theorem EK {c:GCron}(h:ku c=true):br c.f0 0 59=true∧br c.f1 0 23=true∧br c.f2 1 31=true∧br c.f3 1 12=true∧br c.f4 0 6=true:=by unfold ku at h;simp only[W0]at h;exact h
theorem jw {l:List Int}{a b:Int}(h:br l a b=true)(c:0≤a)(d:a≤b)(e:b≤59):l.length≤60∧∀z∈l,0≤z∧z≤59:=by have:=Qi h (by omega);exact⟨by omega,fun z hz=>by have:=H9 h z hz;omega⟩
noncomputable def yV (c:GCron):Zz:=ofTx (jE 32 [tx (aQ c.f0 60),tx (aQ c.f1 24),tx (aQ c.f2 31),tx (aQ c.f3 12),tx (aQ c.f4 7)])
noncomputable def bB (c:GCron):Zz×Bool:=cond (ku c) (yV c,true) (ByteArray.empty,false)
theorem UX (a b c d e:Zz):((((((((a++⟨#[32]⟩)++b)++⟨#[32]⟩)++c)++⟨#[32]⟩)++d)++⟨#[32]⟩)++e:Zz)=ofTx (jE 32 [tx a,tx b,tx c,tx d,tx e]):=by apply FY;have f:tx (⟨#[32]⟩:Zz)=[32]:=rfl;simp[Sy,f,yJ,jE]
theorem UJ (c:GCron)(h:ab.sm c):rc c=some (bB c):=by
 unfold rc bB;rw[Wz h];cases q:ku c with
 |false=>rfl
 |true =>
  obtain⟨d,e,f,g,i⟩:=EK q;have a0:=jw d (by decide) (by decide) (by decide);have a:=jw e (by decide) (by decide) (by decide);have a2:=jw f (by decide) (by decide) (by decide);have a3:=jw g (by decide) (by decide) (by decide);have a4:=jw i (by decide) (by decide) (by decide);have z0:=iN a0.1 a0.2 60;have j:=iN a.1 a.2 24;have z2:=iN a2.1 a2.2 31;have z3:=iN a3.1 a3.2 12;have z4:=iN a4.1 a4.2 7;have b:(⟨#[32]⟩:Zz).size=1:=rfl;rw[WK,WK];simp only[Wz a0.1,Wz a0.2,Wz a.1,Wz a.2,Wz a2.1,Wz a2.2,Wz a3.1,Wz a3.2,Wz a4.1,Wz a4.2,Y5,b,maxStr];repeat rw[Wz (by omega)]
  rw[UX];rfl
theorem TG:∀(l:List Int)(i:Nat)(v:List Zz),(∀z∈l,0≤z∧z≤59)→v.length+l.length≤1000→cP l i v=some (.x2 (v++l.map bI))
 |[],i,v,_,_=>by unfold cP;simp
 |x::l,i,v,h,a=>by have b:=h x (by simp);simp only[W4]at a;unfold cP;rw[Wz (by omega),Wz (by simp;omega),TG l (i+1) _ (fun z hz=>h z (by simp[hz])) (by simp;omega)];simp
theorem sX (l:List Int)(d:l.length≤60)(c:∀z∈l,0≤z∧z≤59)(v:List Zz)(hv:v.length≤10)(b:Bool)(n:Int)(hb:b=((l.length:Int)==n))(K:List Zz→Option s8):
  cond b
    (if(v.length+([(⟨#[42]⟩:Zz)]).length)*16≤140737488355328∧v.length+([(⟨#[42]⟩:Zz)]).length≤4611686018427387904 then K (v++([(⟨#[42]⟩:Zz)]))else none)
    (if l.length≤9223372036854775807 then(cP l 0 ([])).bind fun y=>match y with
     | .x2 a=>(if a.length≤140737488355328∧(bq a (⟨#[44]⟩:Zz)).size≤140737488355328 then if(v.length+([bq a (⟨#[44]⟩:Zz)]).length)*16≤140737488355328∧v.length+([bq a (⟨#[44]⟩:Zz)]).length≤4611686018427387904 then K (v++([bq a (⟨#[44]⟩:Zz)]))else none else none)else none)=K (v++[aQ l n]):=by
 subst hb;have f:bq (l.map bI) ⟨#[44]⟩=ofTx (jE 44 (l.map fun x=>tx (bI x))):=by
  have e:l.map bI=(l.map fun x=>tx (bI x)).map ofTx:=by rw[Xk];rfl
  rw[e,z6]
 unfold aQ;have hz:=iN d c n;unfold aQ at hz;cases q:(l.length:Int)==n with
 |true=>rw[WK,Wz (by simp;omega),WK]
 |false =>rw[q,WO]at hz;rw[WO,WO,Wz (by omega),TG l 0 [] c (by simp;omega),Wy];simp only[W7];rw[f,Wz (by rw[W6];omega),Wz (by simp;omega)]
theorem UI (c:GCron)(h:ab.sm c):qz c=some (bB c):=by
 unfold qz bB;rw[Wz h];cases q:ku c with
 |false=>rfl
 |true =>
  obtain⟨d,e,f,g,i⟩:=EK q;have a0:=jw d (by decide) (by decide) (by decide);have a:=jw e (by decide) (by decide) (by decide);have a2:=jw f (by decide) (by decide) (by decide);have a3:=jw g (by decide) (by decide) (by decide);have a4:=jw i (by decide) (by decide) (by decide);have z0:=iN a0.1 a0.2 60;have s:=iN a.1 a.2 24;have z2:=iN a2.1 a2.2 31;have z3:=iN a3.1 a3.2 12;have z4:=iN a4.1 a4.2 7;have j:∀n,aW c.f0 c.f1 c.f2 c.f3 c.f4 (n+1) [] 0=aW c.f0 c.f1 c.f2 c.f3 c.f4 n ([]++[aQ c.f0 60]) 1:=fun n =>sX c.f0 a0.1 a0.2 [] (by simp) (qI c.f0 0) 60 rfl fun w=>aW c.f0 c.f1 c.f2 c.f3 c.f4 n w 1
  have k:∀n v,v.length≤10→aW c.f0 c.f1 c.f2 c.f3 c.f4 (n+1) v 1=aW c.f0 c.f1 c.f2 c.f3 c.f4 n (v++[aQ c.f1 24]) 2:=fun n v hv =>sX c.f1 a.1 a.2 v hv (qI c.f1 1) 24 rfl fun w=>aW c.f0 c.f1 c.f2 c.f3 c.f4 n w 2
  have l:∀n v,v.length≤10→aW c.f0 c.f1 c.f2 c.f3 c.f4 (n+1) v 2=aW c.f0 c.f1 c.f2 c.f3 c.f4 n (v++[aQ c.f2 31]) 3:=fun n v hv =>sX c.f2 a2.1 a2.2 v hv (qI c.f2 2) 31 rfl fun w=>aW c.f0 c.f1 c.f2 c.f3 c.f4 n w 3
  have m:∀n v,v.length≤10→aW c.f0 c.f1 c.f2 c.f3 c.f4 (n+1) v 3=aW c.f0 c.f1 c.f2 c.f3 c.f4 n (v++[aQ c.f3 12]) 4:=fun n v hv =>sX c.f3 a3.1 a3.2 v hv (qI c.f3 3) 12 rfl fun w=>aW c.f0 c.f1 c.f2 c.f3 c.f4 n w 4
  have o:∀n v,v.length≤10→aW c.f0 c.f1 c.f2 c.f3 c.f4 (n+1) v 4=aW c.f0 c.f1 c.f2 c.f3 c.f4 n (v++[aQ c.f4 7]) 5:=fun n v hv =>sX c.f4 a4.1 a4.2 v hv (qI c.f4 4) 7 rfl fun w=>aW c.f0 c.f1 c.f2 c.f3 c.f4 n w 5
  have p:∀n v,aW c.f0 c.f1 c.f2 c.f3 c.f4 (n+1) v 5=some (.x0 v):=fun n v=>rfl
  have st:aW c.f0 c.f1 c.f2 c.f3 c.f4 (9223372036854775802+6) [] 0=_:=j _;rw[k _ _ (by simp),l _ _ (by simp),m _ _ (by simp),o _ _ (by simp),p]at st;simp only[W7,YY]at st;rw[WK,WK];refine(WV (Option.bind · _) st).trans ?_;rw[Wy];have r:bq [aQ c.f0 60,aQ c.f1 24,aQ c.f2 31,aQ c.f3 12,aQ c.f4 7] ⟨#[32]⟩=yV c:=z6 [tx (aQ c.f0 60),tx (aQ c.f1 24),tx (aQ c.f2 31),tx (aQ c.f3 12),tx (aQ c.f4 7)] 32;have t:(yV c).size≤2000:=by
   unfold yV;rw[sV];have:=CS 32 200 [tx (aQ c.f0 60),tx (aQ c.f1 24),tx (aQ c.f2 31),tx (aQ c.f3 12),tx (aQ c.f4 7)] (fun x b=>by simp only[WZ,Yh,Y0]at b;rcases b with rfl|rfl|rfl|rfl|rfl<;>rw[←dQ]<;>assumption);simp only[W4,Zu]at this;omega
  show(if _ then _ else none)=_;rw[r,Wz ⟨by simp,by omega⟩]
theorem gn (a:GCron)(h:ab.sm a):Does E 92 [.agg (Wb .far a)] [Wq ((bB a).1),Wp ((bB a).2)]:=by exact LT a _ (UJ a h)
theorem AI (a:GCron)(h:ab.sm a):Does E 133 [.agg (Wb .far a)] [Wq ((bB a).1),Wp ((bB a).2)]:=by exact KR a _ (UI a h)
end
end Go.Proofs.YtlgddjncnedkgaaGreatDoor.Am
