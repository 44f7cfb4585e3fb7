/- Rules. -/
import Derived.Test.YtjlkcjlcmaoccaaGreatDoorWords
namespace Go.Proofs.YtjlkcjlcmaoccaaGreatDoor.Am
open Go
set_option linter.unusedVariables false
set_option linter.unusedSimpArgs false
section
open Go.Proofs Classical
set_option maxRecDepth 100000
inductive tN where|ret (v2_0 v2_1 v2_2 v2_3 v2_4:List Int) (v3:Bool)|x0
def ib (v2_0 v2_1 v2_2 v2_3 v2_4 v6_0 v6_1 v6_2 v6_3 v6_4:List Int)(v7:List Bool)(v8:Int):US:=stL 85 [(2,.box () [.s .own () 1 (v2_0.map etI),.s .own () 1 (v2_1.map etI),.s .own () 1 (v2_2.map etI),.s .own () 1 (v2_3.map etI),.s .own () 1 (v2_4.map etI)]),(6,.box () [.s .own () 1 (v6_0.map etI),.s .own () 1 (v6_1.map etI),.s .own () 1 (v6_2.map etI),.s .own () 1 (v6_3.map etI),.s .own () 1 (v6_4.map etI)]),(7,.one (.s .own () 1 (v7.map etB))),(8,O0 v8)]
def mj (a b c d e:List Int)(f:Bool):US:=stL 85 [(2,.box () [.s .own () 1 (a.map etI),.s .own () 1 (b.map etI),.s .own () 1 (c.map etI),.s .own () 1 (d.map etI),.s .own () 1 (e.map etI)]),(3,O1 f)]
def m8 (v2_0 v2_1 v2_2 v2_3 v2_4 v6_0 v6_1 v6_2 v6_3 v6_4:List Int):US:=stL 85 [(2,.box () [.s .own () 1 (v2_0.map etI),.s .own () 1 (v2_1.map etI),.s .own () 1 (v2_2.map etI),.s .own () 1 (v2_3.map etI),.s .own () 1 (v2_4.map etI)]),(6,.box () [.s .own () 1 (v6_0.map etI),.s .own () 1 (v6_1.map etI),.s .own () 1 (v6_2.map etI),.s .own () 1 (v6_3.map etI),.s .own () 1 (v6_4.map etI)])]
abbrev oR:US→Exit→US→Prop:=Round E 59 (av Tryz.f59 0)
def BC (v2_0 v2_1 v2_2 v2_3 v2_4 v6_0 v6_1 v6_2 v6_3 v6_4:List Int)(v7:List Bool)(v8:Int):tN→Prop| .ret a b c d e f=>Loops E 59 (av Tryz.f59 0) (ib v2_0 v2_1 v2_2 v2_3 v2_4 v6_0 v6_1 v6_2 v6_3 v6_4 v7 v8) .ret (mj a b c d e f)| .x0=>Loops E 59 (av Tryz.f59 0) (ib v2_0 v2_1 v2_2 v2_3 v2_4 v6_0 v6_1 v6_2 v6_3 v6_4 v7 v8) (.exit 0) (m8 v2_0 v2_1 v2_2 v2_3 v2_4 v6_0 v6_1 v6_2 v6_3 v6_4)
noncomputable def ic (v7:List Bool):Nat→Int→Option tN| 0,_=>none|n+1,v8=>cond (decide (v8<(5:Int))) ((am v7 v8).bind fun a=>cond (a) (ic v7 n (inc v8)) (some (.ret ([]) ([]) ([]) ([]) ([]) false))) (some (.x0))
theorem BB (v2_0 v2_1 v2_2 v2_3 v2_4 v6_0 v6_1 v6_2 v6_3 v6_4:List Int)(v7:List Bool)(n:Nat):∀(v8:Int),Ans (ic v7 n v8) (BC v2_0 v2_1 v2_2 v2_3 v2_4 v6_0 v6_1 v6_2 v6_3 v6_4 v7 v8):=by
 induction n with
 |zero=>intros;exact Ans.none
 |succ n e =>
  intro v8;unfold ic;apply OR<;>intro b
  ·refine OS (fun c a => ?_);apply OR<;>intro d
   ·have r:oR (ib v2_0 v2_1 v2_2 v2_3 v2_4 v6_0 v6_1 v6_2 v6_3 v6_4 v7 v8) .normal (ib v2_0 v2_1 v2_2 v2_3 v2_4 v6_0 v6_1 v6_2 v6_3 v6_4 v7 (inc v8)):=RP [.b true,.row ([tB true])] (AC b<|AC (p:=0≤v8∧v8<((v7.map etB).length:Int)) (gK a)<|AC (p:=(v7.map etB)[0+v8.toNat]?=some ([tB true])) ((dg a).trans (Pw some (show [tB c]=[tB true] by rw[d])))<|AN);exact(e (inc v8)).mono fun y f=>by cases y<;>exact OP r f
   ·exact OO (OQ (show oR (ib v2_0 v2_1 v2_2 v2_3 v2_4 v6_0 v6_1 v6_2 v6_3 v6_4 v7 v8) .ret (mj ([]) ([]) ([]) ([]) ([]) false)from RP [.b true,.row ([tB false])] (AC b<|AC (p:=0≤v8∧v8<((v7.map etB).length:Int)) (gK a)<|AC (p:=(v7.map etB)[0+v8.toNat]?=some ([tB false])) ((dg a).trans (Pw some (show [tB c]=[tB false] by rw[d])))<|AN)) (by intro h;cases h))
  ·exact OO (OQ (show oR (ib v2_0 v2_1 v2_2 v2_3 v2_4 v6_0 v6_1 v6_2 v6_3 v6_4 v7 v8) (.exit 0) (m8 v2_0 v2_1 v2_2 v2_3 v2_4 v6_0 v6_1 v6_2 v6_3 v6_4)from RP [.b false] (AC b<|AN)) (by intro h;cases h))
noncomputable def mN (x0:ByteArray):Option (GCron×Bool):=
  cond ((aM x0).2)
   (cond ((((aM x0).1).length:Int) != 5)
    (some ((GCron.mk ([]:List Int) ([]:List Int) ([]:List Int) ([]:List Int) ([]:List Int)),false))
    (if 0≤(5:Int)∧(5:Int)≤(5:Int)∧((1:Nat):Int)*(5:Int)≤281474976710656∧(5:Int)≤4611686018427387904 then(am ((aM x0).1) 0).bind fun f=>if f.size≤2000000 then if 0≤(0:Int)∧(0:Int)≤(59:Int)∧(59:Int)≤59 then(am (List.replicate (5:Int).toNat false) 0).bind fun g1=>(am ((aM x0).1) 1).bind fun g=>if g.size≤2000000 then if 0≤(0:Int)∧(0:Int)≤(23:Int)∧(23:Int)≤59 then(am ((List.replicate (5:Int).toNat false).set (0:Int).toNat ((ac f 0 59).2)) 1).bind fun g3=>(am ((aM x0).1) 2).bind fun g4=>if g4.size≤2000000 then if 0≤(1:Int)∧(1:Int)≤(31:Int)∧(31:Int)≤59 then(am (((List.replicate (5:Int).toNat false).set (0:Int).toNat ((ac f 0 59).2)).set (1:Int).toNat ((ac g 0 23).2)) 2).bind fun k=>(am ((aM x0).1) 3).bind fun i=>if i.size≤2000000 then if 0≤(1:Int)∧(1:Int)≤(12:Int)∧(12:Int)≤59 then(am ((((List.replicate (5:Int).toNat false).set (0:Int).toNat ((ac f 0 59).2)).set (1:Int).toNat ((ac g 0 23).2)).set (2:Int).toNat ((ac g4 1 31).2)) 3).bind fun l=>(am ((aM x0).1) 4).bind fun j=>if j.size≤2000000 then if 0≤(0:Int)∧(0:Int)≤(6:Int)∧(6:Int)≤59 then(am (((((List.replicate (5:Int).toNat false).set (0:Int).toNat ((ac f 0 59).2)).set (1:Int).toNat ((ac g 0 23).2)).set (2:Int).toNat ((ac g4 1 31).2)).set (3:Int).toNat ((ac i 1 12).2)) 4).bind fun m=>(ic ((((((List.replicate (5:Int).toNat false).set (0:Int).toNat ((ac f 0 59).2)).set (1:Int).toNat ((ac g 0 23).2)).set (2:Int).toNat ((ac g4 1 31).2)).set (3:Int).toNat ((ac i 1 12).2)).set (4:Int).toNat ((ac j 0 6).2)) 9223372036854775808 0).bind fun y=>match y with
     | .ret a b c d e h=>(some ((GCron.mk a b c d e),h))
     | .x0=>(some ((GCron.mk ((ac f 0 59).1) ((ac g 0 23).1) ((ac g4 1 31).1) ((ac i 1 12).1) ((ac j 0 6).1)),true))else none else none else none else none else none else none else none else none else none else none else none))
   (some ((GCron.mk ([]:List Int) ([]:List Int) ([]:List Int) ([]:List Int) ([]:List Int)),false))
theorem Dj (x0:ByteArray):Ans (mN x0) (fun r=>Does E 59 [O2 x0] [(true,GCron.t .own r.1),OY r.2]):=by
 unfold mN;apply OR<;>intro C
 ·apply OR<;>intro I
  ·exact OO (DP Tryz.f59 [.ret [(false,[.s .own () 1 (((aM x0).1).map etS)]),OY true],O3 (((aM x0).1).length:Int),.b true] (AD (mA x0 C)<|ALn ((aM x0).1) etS<|AC I<|AN))
  ·refine OT (fun J => ?_);refine OS (fun a K => ?_);refine OT (fun L => ?_);refine OT (fun M => ?_);refine OS (fun g1 N => ?_);refine OS (fun b O => ?_);refine OT (fun P => ?_);refine OT (fun Q => ?_);refine OS (fun g3 k => ?_);refine OS (fun g4 l => ?_);refine OT (fun m => ?_);refine OT (fun n => ?_);refine OS (fun D o => ?_);refine OS (fun c q => ?_);refine OT (fun s => ?_);refine OT (fun u => ?_);refine OS (fun F v => ?_);refine OS (fun d w => ?_);refine OT (fun x => ?_);refine OT (fun z => ?_);refine OS (fun G A => ?_);refine OS (fun y H => ?_);replace H:=BB ([]) ([]) ([]) ([]) ([]) ((ac a 0 59).1) ((ac b 0 23).1) ((ac g4 1 31).1) ((ac c 1 12).1) ((ac d 0 6).1) ((((((List.replicate (5:Int).toNat false).set (0:Int).toNat ((ac a 0 59).2)).set (1:Int).toNat ((ac b 0 23).2)).set (2:Int).toNat ((ac g4 1 31).2)).set (3:Int).toNat ((ac c 1 12).2)).set (4:Int).toNat ((ac d 0 6).2)) 9223372036854775808 0 y H;cases y with
   |ret e f g h i B =>have j:=H;exact OO (DP Tryz.f59 [.ret [(false,[.s .own () 1 (((aM x0).1).map etS)]),OY true],O3 (((aM x0).1).length:Int),.b false,.rows ((List.replicate (5:Int).toNat false).map etB),.row (etS a),.ret [(false,[.s .own () 1 (((ac a 0 59).1).map etI)]),OY ((ac a 0 59).2)],.row (etB g1),.rows (((List.replicate (5:Int).toNat false).set (0:Int).toNat ((ac a 0 59).2)).map etB),.row (etS b),.ret [(false,[.s .own () 1 (((ac b 0 23).1).map etI)]),OY ((ac b 0 23).2)],.row (etB g3),.rows ((((List.replicate (5:Int).toNat false).set (0:Int).toNat ((ac a 0 59).2)).set (1:Int).toNat ((ac b 0 23).2)).map etB),.row (etS g4),.ret [(false,[.s .own () 1 (((ac g4 1 31).1).map etI)]),OY ((ac g4 1 31).2)],.row (etB D),.rows (((((List.replicate (5:Int).toNat false).set (0:Int).toNat ((ac a 0 59).2)).set (1:Int).toNat ((ac b 0 23).2)).set (2:Int).toNat ((ac g4 1 31).2)).map etB),.row (etS c),.ret [(false,[.s .own () 1 (((ac c 1 12).1).map etI)]),OY ((ac c 1 12).2)],.row (etB F),.rows ((((((List.replicate (5:Int).toNat false).set (0:Int).toNat ((ac a 0 59).2)).set (1:Int).toNat ((ac b 0 23).2)).set (2:Int).toNat ((ac g4 1 31).2)).set (3:Int).toNat ((ac c 1 12).2)).map etB),.row (etS d),.ret [(false,[.s .own () 1 (((ac d 0 6).1).map etI)]),OY ((ac d 0 6).2)],.row (etB G),.rows (((((((List.replicate (5:Int).toNat false).set (0:Int).toNat ((ac a 0 59).2)).set (1:Int).toNat ((ac b 0 23).2)).set (2:Int).toNat ((ac g4 1 31).2)).set (3:Int).toNat ((ac c 1 12).2)).set (4:Int).toNat ((ac d 0 6).2)).map etB),.lp .ret (mj e f g h i B)] (AD (mA x0 C)<|ALn ((aM x0).1) etS<|AC I<|AC J<|AC (p:=List.replicate (5:Int).toNat [tB false]=(List.replicate (5:Int).toNat false).map etB) (py rfl)<|AG etS K<|AD (eo a 0 59 L M)<|AG etB N<|AC (p:=((List.replicate (5:Int).toNat false).map etB).set (0+(0:Int).toNat) (au (etB g1) 0 [tB ((ac a 0 59).2)])=((List.replicate (5:Int).toNat false).set (0:Int).toNat ((ac a 0 59).2)).map etB) (db (by rfl))<|AG etS O<|AD (eo b 0 23 P Q)<|AG etB k<|AC (p:=(((List.replicate (5:Int).toNat false).set (0:Int).toNat ((ac a 0 59).2)).map etB).set (0+(1:Int).toNat) (au (etB g3) 0 [tB ((ac b 0 23).2)])=(((List.replicate (5:Int).toNat false).set (0:Int).toNat ((ac a 0 59).2)).set (1:Int).toNat ((ac b 0 23).2)).map etB) (db (by rfl))<|AG etS l<|AD (eo g4 1 31 m n)<|AG etB o<|AC (p:=((((List.replicate (5:Int).toNat false).set (0:Int).toNat ((ac a 0 59).2)).set (1:Int).toNat ((ac b 0 23).2)).map etB).set (0+(2:Int).toNat) (au (etB D) 0 [tB ((ac g4 1 31).2)])=((((List.replicate (5:Int).toNat false).set (0:Int).toNat ((ac a 0 59).2)).set (1:Int).toNat ((ac b 0 23).2)).set (2:Int).toNat ((ac g4 1 31).2)).map etB) (db (by rfl))<|AG etS q<|AD (eo c 1 12 s u)<|AG etB v<|AC (p:=(((((List.replicate (5:Int).toNat false).set (0:Int).toNat ((ac a 0 59).2)).set (1:Int).toNat ((ac b 0 23).2)).set (2:Int).toNat ((ac g4 1 31).2)).map etB).set (0+(3:Int).toNat) (au (etB F) 0 [tB ((ac c 1 12).2)])=(((((List.replicate (5:Int).toNat false).set (0:Int).toNat ((ac a 0 59).2)).set (1:Int).toNat ((ac b 0 23).2)).set (2:Int).toNat ((ac g4 1 31).2)).set (3:Int).toNat ((ac c 1 12).2)).map etB) (db (by rfl))<|AG etS w<|AD (eo d 0 6 x z)<|AG etB A<|AC (p:=((((((List.replicate (5:Int).toNat false).set (0:Int).toNat ((ac a 0 59).2)).set (1:Int).toNat ((ac b 0 23).2)).set (2:Int).toNat ((ac g4 1 31).2)).set (3:Int).toNat ((ac c 1 12).2)).map etB).set (0+(4:Int).toNat) (au (etB G) 0 [tB ((ac d 0 6).2)])=((((((List.replicate (5:Int).toNat false).set (0:Int).toNat ((ac a 0 59).2)).set (1:Int).toNat ((ac b 0 23).2)).set (2:Int).toNat ((ac g4 1 31).2)).set (3:Int).toNat ((ac c 1 12).2)).set (4:Int).toNat ((ac d 0 6).2)).map etB) (db (by rfl))<|AL j<|AN))
   |x0 =>have j:=H;exact OO (DP Tryz.f59 [.ret [(false,[.s .own () 1 (((aM x0).1).map etS)]),OY true],O3 (((aM x0).1).length:Int),.b false,.rows ((List.replicate (5:Int).toNat false).map etB),.row (etS a),.ret [(false,[.s .own () 1 (((ac a 0 59).1).map etI)]),OY ((ac a 0 59).2)],.row (etB g1),.rows (((List.replicate (5:Int).toNat false).set (0:Int).toNat ((ac a 0 59).2)).map etB),.row (etS b),.ret [(false,[.s .own () 1 (((ac b 0 23).1).map etI)]),OY ((ac b 0 23).2)],.row (etB g3),.rows ((((List.replicate (5:Int).toNat false).set (0:Int).toNat ((ac a 0 59).2)).set (1:Int).toNat ((ac b 0 23).2)).map etB),.row (etS g4),.ret [(false,[.s .own () 1 (((ac g4 1 31).1).map etI)]),OY ((ac g4 1 31).2)],.row (etB D),.rows (((((List.replicate (5:Int).toNat false).set (0:Int).toNat ((ac a 0 59).2)).set (1:Int).toNat ((ac b 0 23).2)).set (2:Int).toNat ((ac g4 1 31).2)).map etB),.row (etS c),.ret [(false,[.s .own () 1 (((ac c 1 12).1).map etI)]),OY ((ac c 1 12).2)],.row (etB F),.rows ((((((List.replicate (5:Int).toNat false).set (0:Int).toNat ((ac a 0 59).2)).set (1:Int).toNat ((ac b 0 23).2)).set (2:Int).toNat ((ac g4 1 31).2)).set (3:Int).toNat ((ac c 1 12).2)).map etB),.row (etS d),.ret [(false,[.s .own () 1 (((ac d 0 6).1).map etI)]),OY ((ac d 0 6).2)],.row (etB G),.rows (((((((List.replicate (5:Int).toNat false).set (0:Int).toNat ((ac a 0 59).2)).set (1:Int).toNat ((ac b 0 23).2)).set (2:Int).toNat ((ac g4 1 31).2)).set (3:Int).toNat ((ac c 1 12).2)).set (4:Int).toNat ((ac d 0 6).2)).map etB),.lp (.exit 0) (m8 ([]) ([]) ([]) ([]) ([]) ((ac a 0 59).1) ((ac b 0 23).1) ((ac g4 1 31).1) ((ac c 1 12).1) ((ac d 0 6).1))] (AD (mA x0 C)<|ALn ((aM x0).1) etS<|AC I<|AC J<|AC (p:=List.replicate (5:Int).toNat [tB false]=(List.replicate (5:Int).toNat false).map etB) (py rfl)<|AG etS K<|AD (eo a 0 59 L M)<|AG etB N<|AC (p:=((List.replicate (5:Int).toNat false).map etB).set (0+(0:Int).toNat) (au (etB g1) 0 [tB ((ac a 0 59).2)])=((List.replicate (5:Int).toNat false).set (0:Int).toNat ((ac a 0 59).2)).map etB) (db (by rfl))<|AG etS O<|AD (eo b 0 23 P Q)<|AG etB k<|AC (p:=(((List.replicate (5:Int).toNat false).set (0:Int).toNat ((ac a 0 59).2)).map etB).set (0+(1:Int).toNat) (au (etB g3) 0 [tB ((ac b 0 23).2)])=(((List.replicate (5:Int).toNat false).set (0:Int).toNat ((ac a 0 59).2)).set (1:Int).toNat ((ac b 0 23).2)).map etB) (db (by rfl))<|AG etS l<|AD (eo g4 1 31 m n)<|AG etB o<|AC (p:=((((List.replicate (5:Int).toNat false).set (0:Int).toNat ((ac a 0 59).2)).set (1:Int).toNat ((ac b 0 23).2)).map etB).set (0+(2:Int).toNat) (au (etB D) 0 [tB ((ac g4 1 31).2)])=((((List.replicate (5:Int).toNat false).set (0:Int).toNat ((ac a 0 59).2)).set (1:Int).toNat ((ac b 0 23).2)).set (2:Int).toNat ((ac g4 1 31).2)).map etB) (db (by rfl))<|AG etS q<|AD (eo c 1 12 s u)<|AG etB v<|AC (p:=(((((List.replicate (5:Int).toNat false).set (0:Int).toNat ((ac a 0 59).2)).set (1:Int).toNat ((ac b 0 23).2)).set (2:Int).toNat ((ac g4 1 31).2)).map etB).set (0+(3:Int).toNat) (au (etB F) 0 [tB ((ac c 1 12).2)])=(((((List.replicate (5:Int).toNat false).set (0:Int).toNat ((ac a 0 59).2)).set (1:Int).toNat ((ac b 0 23).2)).set (2:Int).toNat ((ac g4 1 31).2)).set (3:Int).toNat ((ac c 1 12).2)).map etB) (db (by rfl))<|AG etS w<|AD (eo d 0 6 x z)<|AG etB A<|AC (p:=((((((List.replicate (5:Int).toNat false).set (0:Int).toNat ((ac a 0 59).2)).set (1:Int).toNat ((ac b 0 23).2)).set (2:Int).toNat ((ac g4 1 31).2)).set (3:Int).toNat ((ac c 1 12).2)).map etB).set (0+(4:Int).toNat) (au (etB G) 0 [tB ((ac d 0 6).2)])=((((((List.replicate (5:Int).toNat false).set (0:Int).toNat ((ac a 0 59).2)).set (1:Int).toNat ((ac b 0 23).2)).set (2:Int).toNat ((ac g4 1 31).2)).set (3:Int).toNat ((ac c 1 12).2)).set (4:Int).toNat ((ac d 0 6).2)).map etB) (db (by rfl))<|AL j<|AN))
 ·exact OO (DP Tryz.f59 [.ret [(false,[.s .own () 1 (((aM x0).1).map etS)]),OY false]] (AD (mA x0 C)<|AN))
inductive tr where|ret (v2_0 v2_1 v2_2 v2_3 v2_4:List Int) (v3:Bool)|x0 (v6_0 v6_1 v6_2 v6_3 v6_4:List Int)
def bu (v2_0 v2_1 v2_2 v2_3 v2_4:List Int)(v4:List ByteArray)(v6_0 v6_1 v6_2 v6_3 v6_4:List Int)(a:Int):US:=stL 46 [(2,.box () [.s .own () 1 (v2_0.map etI),.s .own () 1 (v2_1.map etI),.s .own () 1 (v2_2.map etI),.s .own () 1 (v2_3.map etI),.s .own () 1 (v2_4.map etI)]),(4,.one (.s .own () 1 (v4.map etS))),(6,.box () [.s .own () 1 (v6_0.map etI),.s .own () 1 (v6_1.map etI),.s .own () 1 (v6_2.map etI),.s .own () 1 (v6_3.map etI),.s .own () 1 (v6_4.map etI)]),(24,.clo (.arr [0,1,2,3,4]) [6,6,6,6,6]),(25,O0 a)]
def d6 (a b c d e:List Int)(f:Bool):US:=stL 46 [(2,.box () [.s .own () 1 (a.map etI),.s .own () 1 (b.map etI),.s .own () 1 (c.map etI),.s .own () 1 (d.map etI),.s .own () 1 (e.map etI)]),(3,O1 f)]
def mW (v2_0 v2_1 v2_2 v2_3 v2_4 a b c d e:List Int):US:=stL 46 [(2,.box () [.s .own () 1 (v2_0.map etI),.s .own () 1 (v2_1.map etI),.s .own () 1 (v2_2.map etI),.s .own () 1 (v2_3.map etI),.s .own () 1 (v2_4.map etI)]),(6,.box () [.s .own () 1 (a.map etI),.s .own () 1 (b.map etI),.s .own () 1 (c.map etI),.s .own () 1 (d.map etI),.s .own () 1 (e.map etI)])]
abbrev cM:US→Exit→US→Prop:=Round E 85 (av Tryz.f85 0)
def A6 (v2_0 v2_1 v2_2 v2_3 v2_4:List Int)(v4:List ByteArray)(v6_0 v6_1 v6_2 v6_3 v6_4:List Int)(k:Int):tr→Prop| .ret a b c d e l=>Loops E 85 (av Tryz.f85 0) (bu v2_0 v2_1 v2_2 v2_3 v2_4 v4 v6_0 v6_1 v6_2 v6_3 v6_4 k) .ret (d6 a b c d e l)| .x0 f g h i j=>Loops E 85 (av Tryz.f85 0) (bu v2_0 v2_1 v2_2 v2_3 v2_4 v4 v6_0 v6_1 v6_2 v6_3 v6_4 k) (.exit 0) (mW v2_0 v2_1 v2_2 v2_3 v2_4 f g h i j)
noncomputable def aO (v4:List ByteArray):Nat→(List Int)→(List Int)→(List Int)→(List Int)→(List Int)→Int→Option tr| 0,_,_,_,_,_,_=>none|n+1,v6_0,v6_1,v6_2,v6_3,v6_4,a=>cond (decide (a<(5:Int))) (cond (a==(0:Int)) ((am v4 a).bind fun b=>if b.size≤2000000 then cond ((aQ b a).2) (aO v4 n ((aQ b a).1) v6_1 v6_2 v6_3 v6_4 (inc a)) (some (.ret ([]) ([]) ([]) ([]) ([]) false))else none) (cond (a==(1:Int)) ((am v4 a).bind fun b=>if b.size≤2000000 then cond ((aQ b a).2) (aO v4 n v6_0 ((aQ b a).1) v6_2 v6_3 v6_4 (inc a)) (some (.ret ([]) ([]) ([]) ([]) ([]) false))else none) (cond (a==(2:Int)) ((am v4 a).bind fun b=>if b.size≤2000000 then cond ((aQ b a).2) (aO v4 n v6_0 v6_1 ((aQ b a).1) v6_3 v6_4 (inc a)) (some (.ret ([]) ([]) ([]) ([]) ([]) false))else none) (cond (a==(3:Int)) ((am v4 a).bind fun b=>if b.size≤2000000 then cond ((aQ b a).2) (aO v4 n v6_0 v6_1 v6_2 ((aQ b a).1) v6_4 (inc a)) (some (.ret ([]) ([]) ([]) ([]) ([]) false))else none) (if a=(4:Int)then(am v4 a).bind fun b=>if b.size≤2000000 then cond ((aQ b a).2) (aO v4 n v6_0 v6_1 v6_2 v6_3 ((aQ b a).1) (inc a)) (some (.ret ([]) ([]) ([]) ([]) ([]) false))else none else none))))) (some (.x0 v6_0 v6_1 v6_2 v6_3 v6_4))
theorem A5 (v2_0 v2_1 v2_2 v2_3 v2_4:List Int)(v4:List ByteArray)(n:Nat):∀(v6_0 v6_1 v6_2 v6_3 v6_4:List Int)(a:Int),Ans (aO v4 n v6_0 v6_1 v6_2 v6_3 v6_4 a) (A6 v2_0 v2_1 v2_2 v2_3 v2_4 v4 v6_0 v6_1 v6_2 v6_3 v6_4 a):=by
 induction n with
 |zero=>intros;exact Ans.none
 |succ n j =>
  intro v6_0 v6_1 v6_2 v6_3 v6_4 a;unfold aO;apply OR<;>intro c
  ·apply OR<;>intro m
   ·refine OS (fun b k => ?_);refine OT (fun g => ?_);apply OR<;>intro d
    ·have r:cM (bu v2_0 v2_1 v2_2 v2_3 v2_4 v4 v6_0 v6_1 v6_2 v6_3 v6_4 a) .normal (bu v2_0 v2_1 v2_2 v2_3 v2_4 v4 ((aQ b a).1) v6_1 v6_2 v6_3 v6_4 (inc a)):=RP [.b true,O3 0,.row (etS b),.ret [(false,[.s .own () 1 (((aQ b a).1).map etI)]),OY true]] (AC c<|AC (p:=a=(0:Int)) (eq_of_beq m)<|AG etS k<|AD (ct b a g d)<|AN);exact(j ((aQ b a).1) v6_1 v6_2 v6_3 v6_4 (inc a)).mono fun y f=>by cases y<;>exact OP r f
    ·exact OO (OQ (show cM (bu v2_0 v2_1 v2_2 v2_3 v2_4 v4 v6_0 v6_1 v6_2 v6_3 v6_4 a) .ret (d6 ([]) ([]) ([]) ([]) ([]) false)from RP [.b true,O3 0,.row (etS b),.ret [(false,[.s .own () 1 (((aQ b a).1).map etI)]),OY false]] (AC c<|AC (p:=a=(0:Int)) (eq_of_beq m)<|AG etS k<|AD (ct b a g d)<|AN)) (by intro h;cases h))
   ·apply OR<;>intro k
    ·refine OS (fun b g => ?_);refine OT (fun d => ?_);apply OR<;>intro e
     ·have r:cM (bu v2_0 v2_1 v2_2 v2_3 v2_4 v4 v6_0 v6_1 v6_2 v6_3 v6_4 a) .normal (bu v2_0 v2_1 v2_2 v2_3 v2_4 v4 v6_0 ((aQ b a).1) v6_2 v6_3 v6_4 (inc a)):=RP [.b true,O3 1,.row (etS b),.ret [(false,[.s .own () 1 (((aQ b a).1).map etI)]),OY true]] (AC c<|AC (p:=a=(1:Int)) (eq_of_beq k)<|AG etS g<|AD (ct b a d e)<|AN);exact(j v6_0 ((aQ b a).1) v6_2 v6_3 v6_4 (inc a)).mono fun y f=>by cases y<;>exact OP r f
     ·exact OO (OQ (show cM (bu v2_0 v2_1 v2_2 v2_3 v2_4 v4 v6_0 v6_1 v6_2 v6_3 v6_4 a) .ret (d6 ([]) ([]) ([]) ([]) ([]) false)from RP [.b true,O3 1,.row (etS b),.ret [(false,[.s .own () 1 (((aQ b a).1).map etI)]),OY false]] (AC c<|AC (p:=a=(1:Int)) (eq_of_beq k)<|AG etS g<|AD (ct b a d e)<|AN)) (by intro h;cases h))
    ·apply OR<;>intro g
     ·refine OS (fun b d => ?_);refine OT (fun e => ?_);apply OR<;>intro i
      ·have r:cM (bu v2_0 v2_1 v2_2 v2_3 v2_4 v4 v6_0 v6_1 v6_2 v6_3 v6_4 a) .normal (bu v2_0 v2_1 v2_2 v2_3 v2_4 v4 v6_0 v6_1 ((aQ b a).1) v6_3 v6_4 (inc a)):=RP [.b true,O3 2,.row (etS b),.ret [(false,[.s .own () 1 (((aQ b a).1).map etI)]),OY true]] (AC c<|AC (p:=a=(2:Int)) (eq_of_beq g)<|AG etS d<|AD (ct b a e i)<|AN);exact(j v6_0 v6_1 ((aQ b a).1) v6_3 v6_4 (inc a)).mono fun y f=>by cases y<;>exact OP r f
      ·exact OO (OQ (show cM (bu v2_0 v2_1 v2_2 v2_3 v2_4 v4 v6_0 v6_1 v6_2 v6_3 v6_4 a) .ret (d6 ([]) ([]) ([]) ([]) ([]) false)from RP [.b true,O3 2,.row (etS b),.ret [(false,[.s .own () 1 (((aQ b a).1).map etI)]),OY false]] (AC c<|AC (p:=a=(2:Int)) (eq_of_beq g)<|AG etS d<|AD (ct b a e i)<|AN)) (by intro h;cases h))
     ·apply OR<;>intro d
      ·refine OS (fun b e => ?_);refine OT (fun i => ?_);apply OR<;>intro l
       ·have r:cM (bu v2_0 v2_1 v2_2 v2_3 v2_4 v4 v6_0 v6_1 v6_2 v6_3 v6_4 a) .normal (bu v2_0 v2_1 v2_2 v2_3 v2_4 v4 v6_0 v6_1 v6_2 ((aQ b a).1) v6_4 (inc a)):=RP [.b true,O3 3,.row (etS b),.ret [(false,[.s .own () 1 (((aQ b a).1).map etI)]),OY true]] (AC c<|AC (p:=a=(3:Int)) (eq_of_beq d)<|AG etS e<|AD (ct b a i l)<|AN);exact(j v6_0 v6_1 v6_2 ((aQ b a).1) v6_4 (inc a)).mono fun y f=>by cases y<;>exact OP r f
       ·exact OO (OQ (show cM (bu v2_0 v2_1 v2_2 v2_3 v2_4 v4 v6_0 v6_1 v6_2 v6_3 v6_4 a) .ret (d6 ([]) ([]) ([]) ([]) ([]) false)from RP [.b true,O3 3,.row (etS b),.ret [(false,[.s .own () 1 (((aQ b a).1).map etI)]),OY false]] (AC c<|AC (p:=a=(3:Int)) (eq_of_beq d)<|AG etS e<|AD (ct b a i l)<|AN)) (by intro h;cases h))
      ·refine OT (fun e => ?_);refine OS (fun b i => ?_);refine OT (fun l => ?_);apply OR<;>intro o
       ·have r:cM (bu v2_0 v2_1 v2_2 v2_3 v2_4 v4 v6_0 v6_1 v6_2 v6_3 v6_4 a) .normal (bu v2_0 v2_1 v2_2 v2_3 v2_4 v4 v6_0 v6_1 v6_2 v6_3 ((aQ b a).1) (inc a)):=RP [.b true,O3 4,.row (etS b),.ret [(false,[.s .own () 1 (((aQ b a).1).map etI)]),OY true]] (AC c<|AC e<|AG etS i<|AD (ct b a l o)<|AN);exact(j v6_0 v6_1 v6_2 v6_3 ((aQ b a).1) (inc a)).mono fun y f=>by cases y<;>exact OP r f
       ·exact OO (OQ (show cM (bu v2_0 v2_1 v2_2 v2_3 v2_4 v4 v6_0 v6_1 v6_2 v6_3 v6_4 a) .ret (d6 ([]) ([]) ([]) ([]) ([]) false)from RP [.b true,O3 4,.row (etS b),.ret [(false,[.s .own () 1 (((aQ b a).1).map etI)]),OY false]] (AC c<|AC e<|AG etS i<|AD (ct b a l o)<|AN)) (by intro h;cases h))
  ·exact OO (OQ (show cM (bu v2_0 v2_1 v2_2 v2_3 v2_4 v4 v6_0 v6_1 v6_2 v6_3 v6_4 a) (.exit 0) (mW v2_0 v2_1 v2_2 v2_3 v2_4 v6_0 v6_1 v6_2 v6_3 v6_4)from RP [.b false] (AC c<|AN)) (by intro h;cases h))
noncomputable def mD (x0:ByteArray):Option (GCron×Bool):=
  cond ((aM x0).2)
   (cond ((((aM x0).1).length:Int) != 5)
    (some ((GCron.mk ([]:List Int) ([]:List Int) ([]:List Int) ([]:List Int) ([]:List Int)),false))
    ((aO ((aM x0).1) 9223372036854775808 ([]) ([]) ([]) ([]) ([]) 0).bind fun y=>match y with
     | .ret a b c d e k=>(some ((GCron.mk a b c d e),k))
     | .x0 f g h i j=>(some ((GCron.mk f g h i j),true))))
   (some ((GCron.mk ([]:List Int) ([]:List Int) ([]:List Int) ([]:List Int) ([]:List Int)),false))
theorem CZ (x0:ByteArray):Ans (mD x0) (fun r=>Does E 85 [O2 x0] [(true,GCron.t .own r.1),OY r.2]):=by
 unfold mD;apply OR<;>intro l
 ·apply OR<;>intro n
  ·exact OO (DP Tryz.f85 [.ret [(false,[.s .own () 1 (((aM x0).1).map etS)]),OY true],O3 (((aM x0).1).length:Int),.b true] (AD (mz x0 l)<|ALn ((aM x0).1) etS<|AC n<|AN))
  ·refine OS (fun y m => ?_);replace m:=A5 ([]) ([]) ([]) ([]) ([]) ((aM x0).1) 9223372036854775808 ([]) ([]) ([]) ([]) ([]) 0 y m;cases y with
   |ret a b c d e k =>have o:=m;exact OO (DP Tryz.f85 [.ret [(false,[.s .own () 1 (((aM x0).1).map etS)]),OY true],O3 (((aM x0).1).length:Int),.b false,.lp .ret (d6 a b c d e k)] (AD (mz x0 l)<|ALn ((aM x0).1) etS<|AC n<|AL o<|AN))
   |x0 f g h i j =>have o:=m;exact OO (DP Tryz.f85 [.ret [(false,[.s .own () 1 (((aM x0).1).map etS)]),OY true],O3 (((aM x0).1).length:Int),.b false,.lp (.exit 0) (mW ([]) ([]) ([]) ([]) ([]) f g h i j)] (AD (mz x0 l)<|ALn ((aM x0).1) etS<|AC n<|AL o<|AN))
 ·exact OO (DP Tryz.f85 [.ret [(false,[.s .own () 1 (((aM x0).1).map etS)]),OY false]] (AD (mz x0 l)<|AN))
def noCron:GCron:=⟨[],[],[],[],[]⟩
noncomputable def uf (a b c d e:ByteArray):GCron×Bool :=cond (ac a 0 59).2 (cond (ac b 0 23).2 (cond (ac c 1 31).2 (cond (ac d 1 12).2 (cond (ac e 0 6).2 (⟨(ac a 0 59).1,(ac b 0 23).1,(ac c 1 31).1,(ac d 1 12).1,(ac e 0 6).1⟩,true) (noCron,false)) (noCron,false)) (noCron,false)) (noCron,false)) (noCron,false)
noncomputable def En:List ByteArray→GCron×Bool|[a,b,c,d,e]=>uf a b c d e|_=>(noCron,false)
noncomputable def aw (s:ByteArray):GCron×Bool:=En (aM s).1
theorem Ae {s:ByteArray}(h:(aM s).2=false):(aM s).1=[]:=by
 unfold aM at h ⊢;split
 ·rfl
 ·rename_i a;rw[Pj a]at h;split
  ·rename_i b;rw[O6 b]at h;split
   ·rfl
   ·rename_i c;rw[Pj c]at h;cases h
  ·rfl
theorem L6 {α:Type}{l:List α}(h:l.length=5):∃a b c d e,l=[a,b,c,d,e]:=by
 match l,h with
 |[a,b,c,d,e],_=>exact⟨a,b,c,d,e,rfl⟩
theorem vO {l:List ByteArray}(h:l.length≠5):En l=(noCron,false):=by
 unfold En;split
 ·exact absurd rfl h
 ·rfl
theorem NA (a b c d e:Bool)(n:Nat):ic [a,b,c,d,e] (n+6) 0=some (cond a (cond b (cond c (cond d (cond e .x0 (.ret [] [] [] [] [] false)) (.ret [] [] [] [] [] false)) (.ret [] [] [] [] [] false)) (.ret [] [] [] [] [] false)) (.ret [] [] [] [] [] false)):=by cases a<;>cases b<;>cases c<;>cases d<;>cases e<;>rfl
theorem M3 (s:ByteArray):mN s=some (aw s):=by
 unfold mN aw;cases q:(aM s).2 with
 |false =>rw[Ae q];rfl
 |true =>
  rw[Pk];by_cases h:(aM s).1.length=5
  ·obtain⟨a,b,c,d,e,i⟩:=L6 h;have f:∀p∈[a,b,c,d,e],p.size≤2000000:=fun p j=>by rw[←i]at j;have:=sJ j;omega
   have k:(a.size≤2000000)=True:=Rb (f a (by simp));have hb:(b.size≤2000000)=True:=Rb (f b (by simp));have hc:(c.size≤2000000)=True:=Rb (f c (by simp));have hd:(d.size≤2000000)=True:=Rb (f d (by simp));have l:(e.size≤2000000)=True:=Rb (f e (by simp));have g:((([a,b,c,d,e]:List ByteArray).length:Int) != 5)=false:=rfl;rw[i,g,Pt,O6 (by decide)];have m:am [a,b,c,d,e] (0:Int)=some a:=rfl;have g1:am [a,b,c,d,e] (1:Int)=some b:=rfl;have n:am [a,b,c,d,e] (2:Int)=some c:=rfl;have g3:am [a,b,c,d,e] (3:Int)=some d:=rfl;have g4:am [a,b,c,d,e] (4:Int)=some e:=rfl;have o:((0:Int)≤0∧(0:Int)≤59∧(59:Int)≤59)=True:=Rb (by decide);have r:((0:Int)≤0∧(0:Int)≤23∧(23:Int)≤59)=True:=Rb (by decide);have t:((0:Int)≤1∧(1:Int)≤31∧(31:Int)≤59)=True:=Rb (by decide);have u:((0:Int)≤1∧(1:Int)≤12∧(12:Int)≤59)=True:=Rb (by decide);have v:((0:Int)≤0∧(0:Int)≤6∧(6:Int)≤59)=True:=Rb (by decide);simp only[m,g1,n,g3,g4,O5,k,hb,hc,hd,l,o,r,t,u,v,PK];show(ic [(ac a 0 59).2,(ac b 0 23).2,(ac c 1 31).2,(ac d 1 12).2,(ac e 0 6).2] (9223372036854775802+6) 0).bind _=some (uf a b c d e);rw[NA];unfold uf;cases(ac a 0 59).2<;>cases(ac b 0 23).2<;>cases(ac c 1 31).2<;>cases(ac d 1 12).2<;>cases(ac e 0 6).2<;>rfl
  ·have g:(((aM s).1.length:Int) != 5)=true:=by rw[Se];omega
   rw[g,Pk,vO h];rfl
theorem M2 (s:ByteArray):mD s=some (aw s):=by
 unfold mD aw;cases q:(aM s).2 with
 |false =>rw[Ae q];rfl
 |true =>
  rw[Pk];by_cases h:(aM s).1.length=5
  ·obtain⟨a,b,c,d,e,i⟩:=L6 h;have f:∀p∈[a,b,c,d,e],p.size≤2000000:=fun p j=>by rw[←i]at j;have:=sJ j;omega
   have g:((([a,b,c,d,e]:List ByteArray).length:Int) != 5)=false:=rfl;rw[i,g,Pt];have k:∀n v0 v1 v2 v3 v4,aO [a,b,c,d,e] (n+1) v0 v1 v2 v3 v4 0=cond (ac a 0 59).2 (aO [a,b,c,d,e] n (ac a 0 59).1 v1 v2 v3 v4 1) (some (.ret [] [] [] [] [] false)):=fun n v0 v1 v2 v3 v4=>by
    conv=>lhs;unfold aO
    show(if a.size≤2000000 then _ else none)=_;rw[O6 (f a (by simp))];rfl
   have l:∀n v0 v1 v2 v3 v4,aO [a,b,c,d,e] (n+1) v0 v1 v2 v3 v4 1=cond (ac b 0 23).2 (aO [a,b,c,d,e] n v0 (ac b 0 23).1 v2 v3 v4 2) (some (.ret [] [] [] [] [] false)):=fun n v0 v1 v2 v3 v4=>by
    conv=>lhs;unfold aO
    show(if b.size≤2000000 then _ else none)=_;rw[O6 (f b (by simp))];rfl
   have m:∀n v0 v1 v2 v3 v4,aO [a,b,c,d,e] (n+1) v0 v1 v2 v3 v4 2=cond (ac c 1 31).2 (aO [a,b,c,d,e] n v0 v1 (ac c 1 31).1 v3 v4 3) (some (.ret [] [] [] [] [] false)):=fun n v0 v1 v2 v3 v4=>by
    conv=>lhs;unfold aO
    show(if c.size≤2000000 then _ else none)=_;rw[O6 (f c (by simp))];rfl
   have o:∀n v0 v1 v2 v3 v4,aO [a,b,c,d,e] (n+1) v0 v1 v2 v3 v4 3=cond (ac d 1 12).2 (aO [a,b,c,d,e] n v0 v1 v2 (ac d 1 12).1 v4 4) (some (.ret [] [] [] [] [] false)):=fun n v0 v1 v2 v3 v4=>by
    conv=>lhs;unfold aO
    show(if d.size≤2000000 then _ else none)=_;rw[O6 (f d (by simp))];rfl
   have r:∀n v0 v1 v2 v3 v4,aO [a,b,c,d,e] (n+1) v0 v1 v2 v3 v4 4=cond (ac e 0 6).2 (aO [a,b,c,d,e] n v0 v1 v2 v3 (ac e 0 6).1 5) (some (.ret [] [] [] [] [] false)):=fun n v0 v1 v2 v3 v4=>by
    conv=>lhs;unfold aO
    show(if(4:Int)=4 then(if e.size≤2000000 then _ else none)else none)=_;rw[O6 rfl,O6 (f e (by simp))];rfl
   have t:∀n v0 v1 v2 v3 v4,aO [a,b,c,d,e] (n+1) v0 v1 v2 v3 v4 5=some (.x0 v0 v1 v2 v3 v4):=fun n v0 v1 v2 v3 v4=>rfl
   have st:aO [a,b,c,d,e] (9223372036854775802+6) [] [] [] [] [] 0=_:=k _ _ _ _ _ _;rw[l,m,o,r,t]at st;refine(Pw (Option.bind · _) st).trans ?_;show _=some (uf a b c d e);unfold uf;cases(ac a 0 59).2<;>cases(ac b 0 23).2<;>cases(ac c 1 31).2<;>cases(ac d 1 12).2<;>cases(ac e 0 6).2<;>rfl
  ·have g:(((aM s).1.length:Int) != 5)=true:=by rw[Se];omega
   rw[g,Pk,vO h];rfl
theorem tj {lo hi:Int}{s:ByteArray}(hs:s.size≤2000000)(hb:0≤lo∧lo≤hi∧hi≤59):ae.sm (ac s lo hi).1:=by
 rcases(yC s lo hi hs hb).2.1 with h|h
 ·rw[h.2];exact⟨by decide,fun y a=>by cases a⟩
 ·exact⟨by have:=h.2.2.2.2;omega,fun y a=>trivial⟩
theorem CC:ae.sm noCron:=⟨⟨by decide,fun y a=>by cases a⟩,⟨by decide,fun y a=>by cases a⟩,⟨by decide,fun y a=>by cases a⟩,⟨by decide,fun y a=>by cases a⟩,⟨by decide,fun y a=>by cases a⟩⟩
theorem Fv (s:ByteArray):ae.sm (aw s).1:=by
 unfold aw;by_cases h:(aM s).1.length=5
 ·obtain⟨a,b,c,d,e,g⟩:=L6 h;have f:∀p∈[a,b,c,d,e],p.size≤2000000:=fun p i=>by rw[←g]at i;have:=sJ i;omega
  rw[g];show ae.sm (uf a b c d e).1;unfold uf;have:=tj (lo:=0) (hi:=59) (f a (by simp)) (by decide);have:=tj (lo:=0) (hi:=23) (f b (by simp)) (by decide);have:=tj (lo:=1) (hi:=31) (f c (by simp)) (by decide);have:=tj (lo:=1) (hi:=12) (f d (by simp)) (by decide);have:=tj (lo:=0) (hi:=6) (f e (by simp)) (by decide);cases(ac a 0 59).2<;>cases(ac b 0 23).2<;>cases(ac c 1 31).2<;>cases(ac d 1 12).2<;>cases(ac e 0 6).2<;>first|exact CC|exact⟨by assumption,by assumption,by assumption,by assumption,by assumption⟩
 ·rw[vO h];exact CC
theorem pB (x0:ByteArray):Does E 59 [O2 x0] [(true,GCron.t .own ((aw x0).1)),OY ((aw x0).2)]:=by exact Dj x0 _ (M3 x0)
theorem fc (x0:ByteArray){b:Bool}(a:(aw x0).2=b):Does E 59 [O2 x0] [(true,GCron.t .own ((aw x0).1)),OY b]:=by rw[←a];exact pB x0
theorem CL (x0:ByteArray):Does E 85 [O2 x0] [(true,GCron.t .own ((aw x0).1)),OY ((aw x0).2)]:=by exact CZ x0 _ (M2 x0)
theorem rx (x0:ByteArray){b:Bool}(a:(aw x0).2=b):Does E 85 [O2 x0] [(true,GCron.t .own ((aw x0).1)),OY b]:=by rw[←a];exact CL x0
inductive Ap where|ret (v4:Bool)|x0
def lX (v0:List Int)(v1 v5:Int):US:=stL 18 [(0,.one (.s .far () 1 (v0.map etI))),(1,O0 v1),(5,O0 v5)]
def pU (a:Bool):US:=stL 18 [(4,O1 a)]
def rl  : US:=stL 18 []
abbrev uQ:US→Exit→US→Prop:=Round E 64 (av Tryz.f64 0)
def JK (v0:List Int)(v1 v5:Int):Ap→Prop| .ret a=>Loops E 64 (av Tryz.f64 0) (lX v0 v1 v5) .ret (pU a)| .x0=>Loops E 64 (av Tryz.f64 0) (lX v0 v1 v5) (.exit 0) (rl)
noncomputable def kg (v1:Int):List Int→Nat→Option Ap|[],i=>some (.x0)|hd::rest,i=>cond (hd==v1) (some (.ret true)) (kg v1 rest (i+1))
theorem JJ (v0:List Int)(v1:Int)(rest:List Int):∀(i:Nat) ,(v0).drop i=rest→v0.length≤9223372036854775807→Ans (kg v1 rest i) (JK v0 v1 (i:Int)):=by
 induction rest with
 |nil =>intro i a b;have hb:=aZ a;unfold kg;exact OO (OQ (show uQ (lX v0 v1 (i:Int)) (.exit 0) (rl)from RP [O3 (v0.length:Int),.b false] (ALn v0 etI<|AC hb<|AN)) (by intro h;cases h))
 |cons hd rest f =>
  intro i a b;have hb:=aT a;have g:=aU a b;have c:=aE a;have d:=aW a;unfold kg;apply OR<;>intro e
  ·exact OO (OQ (show uQ (lX v0 v1 (i:Int)) .ret (pU true)from RP [O3 (v0.length:Int),.b true,.row (etI hd),.b true] (ALn v0 etI<|AC hb<|AR etI d<|AC e<|AN)) (by intro h;cases h))
  ·exact(f (i+1) c b).mono fun y j=>by have r:uQ (lX v0 v1 (i:Int)) .normal (lX v0 v1 (inc (i:Int))):=RP [O3 (v0.length:Int),.b true,.row (etI hd),.b false] (ALn v0 etI<|AC hb<|AR etI d<|AC e<|AN);rw[g]at r;cases y<;>exact OP r j
noncomputable def xc (x0:List Int)(b:Int):Option (Bool):=
  if x0.length≤9223372036854775807 then(kg b x0 0).bind fun y=>match y with
   | .ret a=>(some (a))
   | .x0=>(some (false))else none
theorem Lk (x0:List Int)(c:Int):Ans (xc x0 c) (fun r=>Does E 64 [.one (.s .far () 1 (x0.map etI)),O0 c] [OY r]):=by
 unfold xc;refine OT (fun d => ?_);refine OS (fun y b => ?_);replace b:=JJ x0 c x0 0 rfl d y b;cases y with
 |ret a =>have e:=b;exact OO (DP Tryz.f64 [.lp .ret (pU a)] (AL e<|AN))
 |x0 =>have e:=b;exact OO (DP Tryz.f64 [.lp (.exit 0) (rl)] (AL e<|AN))
def cb (l:List Int)(x:Int):Bool:=l.any fun y=>y==x
theorem KN (x:Int):∀(rest:List Int)(i:Nat),kg x rest i=some (if cb rest x=true then .ret true else .x0)
 |[],i=>rfl
 |y::rest,i=>by unfold kg;rw[KN x rest (i+1)];unfold cb;rw[Rv];cases y==x<;>rfl
theorem rB (x0:List Int)(a:Int)(h:x0.length≤1050000):Does E 64 [.one (.s .far () 1 (x0.map etI)),O0 a] [OY (cb x0 a)]:=by exact Lk x0 a _ (by unfold xc;rw[O6 (by omega),KN];cases q:cb x0 a<;>rfl)
inductive ox where|ret (v4:Int)|x0
def en (v0:List Int)(v1 v7 v8:Int):US:=stL 19 [(0,.one (.s .far () 1 (v0.map etI))),(1,O0 v1),(7,O0 v7),(8,O0 v8)]
def jg (a:Int):US:=stL 19 [(4,O0 a)]
def jF  : US:=stL 19 []
abbrev kK:US→Exit→US→Prop:=Round E 76 (av Tryz.f76 0)
def vA (v0:List Int)(v1 v7 v8:Int):ox→Prop| .ret a=>Loops E 76 (av Tryz.f76 0) (en v0 v1 v7 v8) .ret (jg a)| .x0=>Loops E 76 (av Tryz.f76 0) (en v0 v1 v7 v8) (.exit 0) (jF)
noncomputable def cI (v1:Int):List Int→Nat→Option ox|[],i=>some (.x0)|hd::rest,i=>cond (v1==hd) (some (.ret (i:Int))) (cI v1 rest (i+1))
theorem vz (v0:List Int)(v1:Int)(rest:List Int):∀(i:Nat) ,(v0).drop i=rest→v0.length≤9223372036854775807→Ans (cI v1 rest i) (vA v0 v1 (v0.length:Int) (i:Int)):=by
 induction rest with
 |nil =>intro i a b;have hb:=aZ a;unfold cI;exact OO (OQ (show kK (en v0 v1 (v0.length:Int) (i:Int)) (.exit 0) (jF)from RP [.b false] (AC hb<|AN)) (by intro h;cases h))
 |cons hd rest f =>
  intro i a b;have hb:=aT a;have g:=aU a b;have c:=aE a;have d:=aW a;unfold cI;apply OR<;>intro e
  ·exact OO (OQ (show kK (en v0 v1 (v0.length:Int) (i:Int)) .ret (jg (i:Int))from RP [.b true,.row (etI hd),.b true] (AC hb<|AR etI d<|AC e<|AN)) (by intro h;cases h))
  ·exact(f (i+1) c b).mono fun y j=>by have r:kK (en v0 v1 (v0.length:Int) (i:Int)) .normal (en v0 v1 (v0.length:Int) (inc (i:Int))):=RP [.b true,.row (etI hd),.b false] (AC hb<|AR etI d<|AC e<|AN);rw[g]at r;cases y<;>exact OP r j
noncomputable def eZ (x0:List Int)(b:Int):Option (Int):=
  if x0.length≤9223372036854775807 then(cI b x0 0).bind fun y=>match y with
   | .ret a=>(some (a))
   | .x0=>(some ((-1:Int)))else none
theorem xh (x0:List Int)(c:Int):Ans (eZ x0 c) (fun r=>Does E 76 [.one (.s .far () 1 (x0.map etI)),O0 c] [OX r]):=by
 unfold eZ;refine OT (fun d => ?_);refine OS (fun y b => ?_);replace b:=vz x0 c x0 0 rfl d y b;cases y with
 |ret a =>have e:=b;exact OO (DP Tryz.f76 [O3 (x0.length:Int),.lp .ret (jg a)] (ALn x0 etI<|AL e<|AN))
 |x0 =>have e:=b;exact OO (DP Tryz.f76 [O3 (x0.length:Int),.lp (.exit 0) (jF)] (ALn x0 etI<|AL e<|AN))
noncomputable def yJ (l:List Int)(x:Int):Int:=(eZ l x).getD (-1)
theorem Mz (x:Int):∀(rest:List Int)(i:Nat),(∃k:Nat,cI x rest i=some (.ret (k:Int))∧cb rest x=true)∨cI x rest i=some .x0∧cb rest x=false
 |[],i => .inr ⟨rfl,rfl⟩
 |y::rest,i=>by
  have e:(x==y)=(y==x):=by cases q:y==x with|true=>rw[eq_of_beq q];simp|false=>exact P8.2 fun e=>by rw[e]at q;simp at q
  unfold cI cb;rw[Rv,e];cases y==x with
  |true=>exact .inl ⟨i,rfl,rfl⟩
  |false=>exact Mz x rest (i+1)
theorem KK (l:List Int)(x:Int)(h:l.length≤1050000):eZ l x=some (yJ l x)∧decide (yJ l x≥(0:Int))=cb l x:=by
 have e:∃r,eZ l x=some r∧decide (r≥(0:Int))=cb l x:=by
  unfold eZ;rw[O6 (by omega)];rcases Mz x l 0 with⟨k,a,b⟩|⟨a,b⟩
  ·exact⟨(k:Int),by rw[a];rfl,by rw[b];exact Ph (by omega)⟩
  ·exact⟨-1,by rw[a];rfl,by rw[b];rfl⟩
 obtain⟨r,a,b⟩:=e;have p:yJ l x=r:=by unfold yJ;rw[a];rfl
 rw[p];exact⟨a,b⟩
theorem vH (x0:List Int)(a:Int)(h:x0.length≤1050000):Does E 76 [.one (.s .far () 1 (x0.map etI)),O0 a] [OX (yJ x0 a)]:=by exact xh x0 a _ (KK x0 a h).1
noncomputable def jE (x0:List Int)(a:Int):Option (Bool):=if x0.length≤1050000 then some (decide ((yJ x0 a)≥(0:Int)))else none
theorem tQ (x0:List Int)(a:Int):Ans (jE x0 a) (fun r=>Does E 51 [.one (.s .far () 1 (x0.map etI)),O0 a] [OY r]):=by unfold jE;refine OT (fun b => ?_);exact OO (DP Tryz.f51 [.ret [OX (yJ x0 a)]] (AD (vH x0 a b)<|AN))
theorem dy (x0:List Int)(a:Int)(h:x0.length≤1050000):Does E 51 [.one (.s .far () 1 (x0.map etI)),O0 a] [OY (cb x0 a)]:=by
 exact tQ x0 a _ (by
  unfold jE;try rw[O6 h]
  rw[(KK x0 a h).2])
inductive xd where|ret (v6:Bool)|x0
def fq (v0:List Int)(v1 v2 v7:Int):US:=stL 41 [(0,.one (.s .far () 1 (v0.map etI))),(1,O0 v1),(2,O0 v2),(7,O0 v7)]
def kU (a:Bool):US:=stL 41 [(6,O1 a)]
def oS (v0:List Int):US:=stL 41 [(0,.one (.s .far () 1 (v0.map etI)))]
abbrev ll:US→Exit→US→Prop:=Round E 103 (av Tryz.f103 0)
def FZ (v0:List Int)(v1 v2 v7:Int):xd→Prop| .ret a=>Loops E 103 (av Tryz.f103 0) (fq v0 v1 v2 v7) .ret (kU a)| .x0=>Loops E 103 (av Tryz.f103 0) (fq v0 v1 v2 v7) (.exit 0) (oS v0)
noncomputable def gi (v0:List Int)(v1 v2:Int):List Int→Nat→Option xd|[],i=>some (.x0)|hd::rest,i=>cond (ah hd v1 v2) (cond (decide ((i:Int)>(0:Int))) ((am v0 (IntKind.wrap .i64 ((i:Int)-(1:Int)))).bind fun g1=>cond (decide (g1≥hd)) (some (.ret false)) (gi v0 v1 v2 rest (i+1))) (gi v0 v1 v2 rest (i+1))) (some (.ret false))
theorem FY (v0:List Int)(v1 v2:Int)(rest:List Int):∀(i:Nat) ,(v0).drop i=rest→v0.length≤9223372036854775807→Ans (gi v0 v1 v2 rest i) (FZ v0 v1 v2 (i:Int)):=by
 induction rest with
 |nil =>intro i a d;have hb:=aZ a;unfold gi;exact OO (OQ (show ll (fq v0 v1 v2 (i:Int)) (.exit 0) (oS v0)from RP [O3 (v0.length:Int),.b false] (ALn v0 etI<|AC hb<|AN)) (by intro h;cases h))
 |cons hd rest j =>
  intro i a d;have hb:=aT a;have k:=aU a d;have c:=aE a;have b:=aW a;unfold gi;apply OR<;>intro e
  ·apply OR<;>intro f
   ·refine OS (fun g1 l => ?_);apply OR<;>intro m
    ·exact OO (OQ (show ll (fq v0 v1 v2 (i:Int)) .ret (kU false)from RP [O3 (v0.length:Int),.b true,.row (etI hd),rT,.b true,.row (etI g1),.row (etI hd),.b true] (ALn v0 etI<|AC hb<|AR etI b<|AD (OW (ai hd v1 v2) e)<|AC f<|AR etI l<|AR etI b<|AC m<|AN)) (by intro h;cases h))
    ·exact(j (i+1) c d).mono fun y g=>by have r:ll (fq v0 v1 v2 (i:Int)) .normal (fq v0 v1 v2 (inc (i:Int))):=RP [O3 (v0.length:Int),.b true,.row (etI hd),rT,.b true,.row (etI g1),.row (etI hd),.b false] (ALn v0 etI<|AC hb<|AR etI b<|AD (OW (ai hd v1 v2) e)<|AC f<|AR etI l<|AR etI b<|AC m<|AN);rw[k]at r;cases y<;>exact OP r g
   ·exact(j (i+1) c d).mono fun y g=>by have r:ll (fq v0 v1 v2 (i:Int)) .normal (fq v0 v1 v2 (inc (i:Int))):=RP [O3 (v0.length:Int),.b true,.row (etI hd),rT,.b false] (ALn v0 etI<|AC hb<|AR etI b<|AD (OW (ai hd v1 v2) e)<|AC f<|AN);rw[k]at r;cases y<;>exact OP r g
  ·exact OO (OQ (show ll (fq v0 v1 v2 (i:Int)) .ret (kU false)from RP [O3 (v0.length:Int),.b true,.row (etI hd),rF] (ALn v0 etI<|AC hb<|AR etI b<|AD (OW (ai hd v1 v2) e)<|AN)) (by intro h;cases h))
noncomputable def sN (x0:List Int)(b x2:Int):Option (Bool):=
  if x0.length≤9223372036854775807 then(gi x0 b x2 x0 0).bind fun y=>match y with
   | .ret a=>(some (a))
   | .x0=>(some (decide ((x0.length:Int)>(0:Int))))else none
theorem Ht (x0:List Int)(c x2:Int):Ans (sN x0 c x2) (fun r=>Does E 103 [.one (.s .far () 1 (x0.map etI)),O0 c,O0 x2] [OY r]):=by
 unfold sN;refine OT (fun d => ?_);refine OS (fun y b => ?_);replace b:=FY x0 c x2 x0 0 rfl d y b;cases y with
 |ret a =>have e:=b;exact OO (DP Tryz.f103 [.lp .ret (kU a)] (AL e<|AN))
 |x0 =>have e:=b;exact OO (DP Tryz.f103 [.lp (.exit 0) (oS x0),O3 (x0.length:Int)] (AL e<|ALn x0 etI<|AN))
def ku (a b:Int):List Int→Option Int→Bool
 |[],_=>true
 |x::l,p=>ah x a b&&(match p with|some y=>decide (y<x)|none=>true)&&ku a b l (some x)
def bc (l:List Int)(a b:Int):Bool:=ku a b l none&&decide ((l.length:Int)>0)
theorem H4 {aC rest:List Int}{x:Int}{i:Nat}(h:aC.drop i=x::rest):i=0∨∃y,aC[i-1]?=some y:=by
 cases i with
 |zero=>exact .inl rfl
 |succ i =>
  right;have:i<aC.length:=by
   rcases Pf i aC.length with g|g
   ·exact g
   ·rw[PW (by omega)]at h;cases h
  exact⟨aC[i],by simp[this]⟩
def iW (aC:List Int)(i:Nat):Option Int:=if i=0 then none else aC[i-1]?
theorem Cw {aC rest:List Int}{x:Int}{i:Nat}(h:aC.drop i=x::rest):iW aC (i+1)=some x:=by unfold iW;rw[Pj (by omega)];show aC[i]?=some x;rw[←Rg,h];rfl
theorem KX (aC:List Int)(a b:Int)(k:aC.length≤1050000):∀(rest:List Int)(i:Nat),aC.drop i=rest→gi aC a b rest i=some (if ku a b rest (iW aC i)=true then .x0 else .ret false)
 |[],i,_=>rfl
 |x::rest,i,h=>by
  have f:=KX aC a b k rest (i+1) (aE h);rw[Cw h]at f;have hi:i<aC.length:=by
   rcases Pf i aC.length with g|g
   ·exact g
   ·rw[PW g]at h;cases h
  unfold gi ku;rw[f];cases ah x a b with
  |false=>rfl
  |true =>
   rw[Pk,PJ];rcases H4 h with rfl|⟨y,j⟩
   ·simp[iW]
   ·by_cases z:i=0
    ·subst z;simp[iW]
    ·have l:iW aC i=some y:=by unfold iW;rw[Pj z,j]
     have m:am aC (IntKind.wrap .i64 ((i:Int)-1))=some y:=by
      rw[dn _ (by omega) (by omega)];have e:((i:Int)-1)=((i-1:Nat):Int):=by omega
      rw[e,dZ,j]
     rw[l,m,Ph (by omega:(i:Int)>0),Pk,O5];simp only;by_cases c:y≥x
     ·have d:¬y<x:=by omega
      rw[Ph c,Pk];simp[d]
     ·have d:y<x:=by omega
      rw[Pg c,Pt];simp[d]
theorem cu (x0:List Int)(a:Int)(x2:Int)(h:x0.length≤1050000):Does E 103 [.one (.s .far () 1 (x0.map etI)),O0 a,O0 x2] [OY (bc x0 a x2)]:=by exact Ht x0 a x2 _ (by unfold sN;rw[O6 (by omega),KX x0 a x2 h x0 0 rfl];unfold bc iW;rw[O6 rfl];cases ku a x2 x0 none<;>rfl)
noncomputable def uO (x0:GCron):Option (Bool):=if x0.f0.length≤1050000 then cond (bc x0.f0 0 59) (if x0.f1.length≤1050000 then cond (bc x0.f1 0 23) (if x0.f2.length≤1050000 then cond (bc x0.f2 1 31) (if x0.f3.length≤1050000 then cond (bc x0.f3 1 12) (if x0.f4.length≤1050000 then some (bc x0.f4 0 6)else none) (some (false))else none) (some (false))else none) (some (false))else none) (some (false))else none
theorem JF (x0:GCron):Ans (uO x0) (fun r=>Does E 82 [.agg (GCron.t .far x0)] [OY r]):=by
 unfold uO;refine OT (fun a => ?_);apply OR<;>intro b
 ·refine OT (fun c => ?_);apply OR<;>intro d
  ·refine OT (fun e => ?_);apply OR<;>intro f
   ·refine OT (fun g => ?_);apply OR<;>intro h
    ·refine OT (fun i => ?_);exact OO (DP Tryz.f82 [rT,rT,rT,rT,.ret [OY (bc x0.f4 0 6)]] (AD (OW (cu x0.f0 0 59 a) b)<|AD (OW (cu x0.f1 0 23 c) d)<|AD (OW (cu x0.f2 1 31 e) f)<|AD (OW (cu x0.f3 1 12 g) h)<|AD (cu x0.f4 0 6 i)<|AN))
    ·exact OO (DP Tryz.f82 [rT,rT,rT,rF] (AD (OW (cu x0.f0 0 59 a) b)<|AD (OW (cu x0.f1 0 23 c) d)<|AD (OW (cu x0.f2 1 31 e) f)<|AD (OW (cu x0.f3 1 12 g) h)<|AN))
   ·exact OO (DP Tryz.f82 [rT,rT,rF] (AD (OW (cu x0.f0 0 59 a) b)<|AD (OW (cu x0.f1 0 23 c) d)<|AD (OW (cu x0.f2 1 31 e) f)<|AN))
  ·exact OO (DP Tryz.f82 [rT,rF] (AD (OW (cu x0.f0 0 59 a) b)<|AD (OW (cu x0.f1 0 23 c) d)<|AN))
 ·exact OO (DP Tryz.f82 [rF] (AD (OW (cu x0.f0 0 59 a) b)<|AN))
def iM (c:GCron):Bool:=bc c.f0 0 59&&(bc c.f1 0 23&&(bc c.f2 1 31&&(bc c.f3 1 12&&bc c.f4 0 6)))
theorem zd (x0:GCron)(h:ae.sm x0):Does E 82 [.agg (GCron.t .far x0)] [OY (iM x0)]:=by exact JF x0 _ (by have a:=h.1.1;have b:=h.2.1.1;have c:=h.2.2.1.1;have d:=h.2.2.2.1.1;have e:=h.2.2.2.2.1;unfold uO iM;simp only[a,b,c,d,e,PK];cases bc x0.f0 0 59<;>cases bc x0.f1 0 23<;>cases bc x0.f2 1 31<;>cases bc x0.f3 1 12<;>rfl)
inductive xU where|ret (v2:Bool)|x2
def fL (a b c d e:List Int)(v5 v6:Int)(v7:List Int)(v11:Int)(f:List Int)(v24 g:Int):US:=stL 53 [(1,.box () [.s .far () 1 (a.map etI),.s .far () 1 (b.map etI),.s .far () 1 (c.map etI),.s .far () 1 (d.map etI),.s .far () 1 (e.map etI)]),(5,O0 v5),(6,O0 v6),(7,.one (.s .far () 1 (v7.map etI))),(10,.clo (.arr [0,1,2,3,4]) [1,1,1,1,1]),(11,O0 v11),(23,.one (.s .far () 1 (f.map etI))),(24,O0 v24),(25,O0 g)]
def eQ (a:Bool):US:=stL 53 [(2,O1 a)]
def cK (a b c d e v7:List Int)(v11:Int):US:=stL 53 [(1,.box () [.s .far () 1 (a.map etI),.s .far () 1 (b.map etI),.s .far () 1 (c.map etI),.s .far () 1 (d.map etI),.s .far () 1 (e.map etI)]),(7,.one (.s .far () 1 (v7.map etI))),(10,.clo (.arr [0,1,2,3,4]) [1,1,1,1,1]),(11,O0 v11)]
abbrev mr:US→Exit→US→Prop:=Round E 108 (av Tryz.f108 1)
def GR (a b c d e:List Int)(v5 v6:Int)(v7:List Int)(v11:Int)(f:List Int)(v24 g:Int):xU→Prop| .ret h=>Loops E 108 (av Tryz.f108 1) (fL a b c d e v5 v6 v7 v11 f v24 g) .ret (eQ h)| .x2=>Loops E 108 (av Tryz.f108 1) (fL a b c d e v5 v6 v7 v11 f v24 g) (.exit 2) (cK a b c d e v7 v11)
noncomputable def dh (v5 v6:Int)(v7:List Int):List Int→Nat→Option xU|[],i=>some (.x2)|hd::rest,i=>cond (ah hd v5 v6) (cond (decide ((i:Int)>(0:Int))) ((am v7 (IntKind.wrap .i64 ((i:Int)-(1:Int)))).bind fun g1=>cond (decide (hd≤g1)) (some (.ret false)) (dh v5 v6 v7 rest (i+1))) (dh v5 v6 v7 rest (i+1))) (some (.ret false))
theorem ms (b c d e f:List Int)(v5 v6:Int)(v7:List Int)(v11:Int)(a:List Int)(rest:List Int):∀(i:Nat) ,(a).drop i=rest→a.length≤9223372036854775807→Ans (dh v5 v6 v7 rest i) (GR b c d e f v5 v6 v7 v11 a (a.length:Int) (i:Int)):=by
 induction rest with
 |nil =>intro i g k;have hb:=aZ g;unfold dh;exact OO (OQ (show mr (fL b c d e f v5 v6 v7 v11 a (a.length:Int) (i:Int)) (.exit 2) (cK b c d e f v7 v11)from RP [.b false] (AC hb<|AN)) (by intro h;cases h))
 |cons hd rest p =>
  intro i g k;have hb:=aT g;have q:=aU g k;have j:=aE g;have l:=aW g;unfold dh;apply OR<;>intro m
  ·apply OR<;>intro n
   ·refine OS (fun g1 s => ?_);apply OR<;>intro t
    ·exact OO (OQ (show mr (fL b c d e f v5 v6 v7 v11 a (a.length:Int) (i:Int)) .ret (eQ false)from RP [.b true,.row (etI hd),rT,.b true,.row (etI g1),.b true] (AC hb<|AR etI l<|AD (OW (aA hd v5 v6) m)<|AC n<|AR etI s<|AC t<|AN)) (by intro h;cases h))
    ·exact(p (i+1) j k).mono fun y o=>by have r:mr (fL b c d e f v5 v6 v7 v11 a (a.length:Int) (i:Int)) .normal (fL b c d e f v5 v6 v7 v11 a (a.length:Int) (inc (i:Int))):=RP [.b true,.row (etI hd),rT,.b true,.row (etI g1),.b false] (AC hb<|AR etI l<|AD (OW (aA hd v5 v6) m)<|AC n<|AR etI s<|AC t<|AN);rw[q]at r;cases y<;>exact OP r o
   ·exact(p (i+1) j k).mono fun y o=>by have r:mr (fL b c d e f v5 v6 v7 v11 a (a.length:Int) (i:Int)) .normal (fL b c d e f v5 v6 v7 v11 a (a.length:Int) (inc (i:Int))):=RP [.b true,.row (etI hd),rT,.b false] (AC hb<|AR etI l<|AD (OW (aA hd v5 v6) m)<|AC n<|AN);rw[q]at r;cases y<;>exact OP r o
  ·exact OO (OQ (show mr (fL b c d e f v5 v6 v7 v11 a (a.length:Int) (i:Int)) .ret (eQ false)from RP [.b true,.row (etI hd),rF] (AC hb<|AR etI l<|AD (OW (aA hd v5 v6) m)<|AN)) (by intro h;cases h))
inductive sq where|ret (v2:Bool)|x0
def bw (a b c d e:List Int)(v11:Int):US:=stL 53 [(1,.box () [.s .far () 1 (a.map etI),.s .far () 1 (b.map etI),.s .far () 1 (c.map etI),.s .far () 1 (d.map etI),.s .far () 1 (e.map etI)]),(10,.clo (.arr [0,1,2,3,4]) [1,1,1,1,1]),(11,O0 v11)]
def ck (a:Bool):US:=stL 53 [(2,O1 a)]
def pD  : US:=stL 53 []
abbrev ci:US→Exit→US→Prop:=Round E 108 (av Tryz.f108 0)
def GQ (a b c d e:List Int)(v11:Int):sq→Prop| .ret f=>Loops E 108 (av Tryz.f108 0) (bw a b c d e v11) .ret (ck f)| .x0=>Loops E 108 (av Tryz.f108 0) (bw a b c d e v11) (.exit 0) (pD)
noncomputable def bH (a b c d e:List Int):Nat→Int→Option sq
 | 0,_=>none
 |n+1,v11=>cond (decide (v11<(5:Int)))
  (cond (v11==(0:Int))
   (if a.length≤9223372036854775807 then(dh ((aG v11).1) ((aG v11).2) a a 0).bind fun y=>match y with
    | .ret f=>(some (.ret f))
    | .x2=>(cond ((a.length:Int)==(0:Int))
     (some (.ret false))
     (bH a b c d e n (inc v11)))else none)
   (cond (v11==(1:Int))
    (if b.length≤9223372036854775807 then(dh ((aG v11).1) ((aG v11).2) b b 0).bind fun y=>match y with
     | .ret f=>(some (.ret f))
     | .x2=>(cond ((b.length:Int)==(0:Int))
      (some (.ret false))
      (bH a b c d e n (inc v11)))else none)
    (cond (v11==(2:Int))
     (if c.length≤9223372036854775807 then(dh ((aG v11).1) ((aG v11).2) c c 0).bind fun y=>match y with
      | .ret f=>(some (.ret f))
      | .x2=>(cond ((c.length:Int)==(0:Int))
       (some (.ret false))
       (bH a b c d e n (inc v11)))else none)
     (cond (v11==(3:Int))
      (if d.length≤9223372036854775807 then(dh ((aG v11).1) ((aG v11).2) d d 0).bind fun y=>match y with
       | .ret f=>(some (.ret f))
       | .x2=>(cond ((d.length:Int)==(0:Int))
        (some (.ret false))
        (bH a b c d e n (inc v11)))else none)
      (if v11=(4:Int)then if e.length≤9223372036854775807 then(dh ((aG v11).1) ((aG v11).2) e e 0).bind fun y=>match y with
       | .ret f=>(some (.ret f))
       | .x2=>(cond ((e.length:Int)==(0:Int))
        (some (.ret false))
        (bH a b c d e n (inc v11)))else none else none)))))
  (some (.x0))
theorem GP (a b c d e:List Int)(n:Nat):∀(v11:Int),Ans (bH a b c d e n v11) (GQ a b c d e v11):=by
 induction n with
 |zero=>intros;exact Ans.none
 |succ n s =>
  intro v11;unfold bH;apply OR<;>intro i
  ·apply OR<;>intro t
   ·refine OT (fun u => ?_);refine OS (fun y g => ?_);replace g:=ms a b c d e ((aG v11).1) ((aG v11).2) a v11 a a 0 rfl u y g;cases y with
    |ret f =>have m:=g;exact OO (OQ (show ci (bw a b c d e v11) .ret (ck f)from RP [.b true,O3 0,.ret [OX ((aG v11).1),OX ((aG v11).2)],O3 (a.length:Int),.lp .ret (eQ f)] (AC i<|AC (p:=v11=(0:Int)) (eq_of_beq t)<|AD (cg v11)<|ALn a etI<|AL m<|AN)) (by intro h;cases h))
    |x2 =>
     have m:=g;apply OR<;>intro j
     ·exact OO (OQ (show ci (bw a b c d e v11) .ret (ck false)from RP [.b true,O3 0,.ret [OX ((aG v11).1),OX ((aG v11).2)],O3 (a.length:Int),.lp (.exit 2) (cK a b c d e a v11),O3 (a.length:Int),.b true] (AC i<|AC (p:=v11=(0:Int)) (eq_of_beq t)<|AD (cg v11)<|ALn a etI<|AL m<|ALn a etI<|AC j<|AN)) (by intro h;cases h))
     ·have r:ci (bw a b c d e v11) .normal (bw a b c d e (inc v11)):=RP [.b true,O3 0,.ret [OX ((aG v11).1),OX ((aG v11).2)],O3 (a.length:Int),.lp (.exit 2) (cK a b c d e a v11),O3 (a.length:Int),.b false] (AC i<|AC (p:=v11=(0:Int)) (eq_of_beq t)<|AD (cg v11)<|ALn a etI<|AL m<|ALn a etI<|AC j<|AN);exact(s (inc v11)).mono fun y g=>by cases y<;>exact OP r g
   ·apply OR<;>intro m
    ·refine OT (fun v => ?_);refine OS (fun y g => ?_);replace g:=ms a b c d e ((aG v11).1) ((aG v11).2) b v11 b b 0 rfl v y g;cases y with
     |ret f =>have j:=g;exact OO (OQ (show ci (bw a b c d e v11) .ret (ck f)from RP [.b true,O3 1,.ret [OX ((aG v11).1),OX ((aG v11).2)],O3 (b.length:Int),.lp .ret (eQ f)] (AC i<|AC (p:=v11=(1:Int)) (eq_of_beq m)<|AD (cg v11)<|ALn b etI<|AL j<|AN)) (by intro h;cases h))
     |x2 =>
      have j:=g;apply OR<;>intro k
      ·exact OO (OQ (show ci (bw a b c d e v11) .ret (ck false)from RP [.b true,O3 1,.ret [OX ((aG v11).1),OX ((aG v11).2)],O3 (b.length:Int),.lp (.exit 2) (cK a b c d e b v11),O3 (b.length:Int),.b true] (AC i<|AC (p:=v11=(1:Int)) (eq_of_beq m)<|AD (cg v11)<|ALn b etI<|AL j<|ALn b etI<|AC k<|AN)) (by intro h;cases h))
      ·have r:ci (bw a b c d e v11) .normal (bw a b c d e (inc v11)):=RP [.b true,O3 1,.ret [OX ((aG v11).1),OX ((aG v11).2)],O3 (b.length:Int),.lp (.exit 2) (cK a b c d e b v11),O3 (b.length:Int),.b false] (AC i<|AC (p:=v11=(1:Int)) (eq_of_beq m)<|AD (cg v11)<|ALn b etI<|AL j<|ALn b etI<|AC k<|AN);exact(s (inc v11)).mono fun y g=>by cases y<;>exact OP r g
    ·apply OR<;>intro j
     ·refine OT (fun w => ?_);refine OS (fun y g => ?_);replace g:=ms a b c d e ((aG v11).1) ((aG v11).2) c v11 c c 0 rfl w y g;cases y with
      |ret f =>have k:=g;exact OO (OQ (show ci (bw a b c d e v11) .ret (ck f)from RP [.b true,O3 2,.ret [OX ((aG v11).1),OX ((aG v11).2)],O3 (c.length:Int),.lp .ret (eQ f)] (AC i<|AC (p:=v11=(2:Int)) (eq_of_beq j)<|AD (cg v11)<|ALn c etI<|AL k<|AN)) (by intro h;cases h))
      |x2 =>
       have k:=g;apply OR<;>intro l
       ·exact OO (OQ (show ci (bw a b c d e v11) .ret (ck false)from RP [.b true,O3 2,.ret [OX ((aG v11).1),OX ((aG v11).2)],O3 (c.length:Int),.lp (.exit 2) (cK a b c d e c v11),O3 (c.length:Int),.b true] (AC i<|AC (p:=v11=(2:Int)) (eq_of_beq j)<|AD (cg v11)<|ALn c etI<|AL k<|ALn c etI<|AC l<|AN)) (by intro h;cases h))
       ·have r:ci (bw a b c d e v11) .normal (bw a b c d e (inc v11)):=RP [.b true,O3 2,.ret [OX ((aG v11).1),OX ((aG v11).2)],O3 (c.length:Int),.lp (.exit 2) (cK a b c d e c v11),O3 (c.length:Int),.b false] (AC i<|AC (p:=v11=(2:Int)) (eq_of_beq j)<|AD (cg v11)<|ALn c etI<|AL k<|ALn c etI<|AC l<|AN);exact(s (inc v11)).mono fun y g=>by cases y<;>exact OP r g
     ·apply OR<;>intro k
      ·refine OT (fun o => ?_);refine OS (fun y g => ?_);replace g:=ms a b c d e ((aG v11).1) ((aG v11).2) d v11 d d 0 rfl o y g;cases y with
       |ret f =>have l:=g;exact OO (OQ (show ci (bw a b c d e v11) .ret (ck f)from RP [.b true,O3 3,.ret [OX ((aG v11).1),OX ((aG v11).2)],O3 (d.length:Int),.lp .ret (eQ f)] (AC i<|AC (p:=v11=(3:Int)) (eq_of_beq k)<|AD (cg v11)<|ALn d etI<|AL l<|AN)) (by intro h;cases h))
       |x2 =>
        have l:=g;apply OR<;>intro q
        ·exact OO (OQ (show ci (bw a b c d e v11) .ret (ck false)from RP [.b true,O3 3,.ret [OX ((aG v11).1),OX ((aG v11).2)],O3 (d.length:Int),.lp (.exit 2) (cK a b c d e d v11),O3 (d.length:Int),.b true] (AC i<|AC (p:=v11=(3:Int)) (eq_of_beq k)<|AD (cg v11)<|ALn d etI<|AL l<|ALn d etI<|AC q<|AN)) (by intro h;cases h))
        ·have r:ci (bw a b c d e v11) .normal (bw a b c d e (inc v11)):=RP [.b true,O3 3,.ret [OX ((aG v11).1),OX ((aG v11).2)],O3 (d.length:Int),.lp (.exit 2) (cK a b c d e d v11),O3 (d.length:Int),.b false] (AC i<|AC (p:=v11=(3:Int)) (eq_of_beq k)<|AD (cg v11)<|ALn d etI<|AL l<|ALn d etI<|AC q<|AN);exact(s (inc v11)).mono fun y g=>by cases y<;>exact OP r g
      ·refine OT (fun l => ?_);refine OT (fun o => ?_);refine OS (fun y g => ?_);replace g:=ms a b c d e ((aG v11).1) ((aG v11).2) e v11 e e 0 rfl o y g;cases y with
       |ret f =>have q:=g;exact OO (OQ (show ci (bw a b c d e v11) .ret (ck f)from RP [.b true,O3 4,.ret [OX ((aG v11).1),OX ((aG v11).2)],O3 (e.length:Int),.lp .ret (eQ f)] (AC i<|AC l<|AD (cg v11)<|ALn e etI<|AL q<|AN)) (by intro h;cases h))
       |x2 =>
        have q:=g;apply OR<;>intro x
        ·exact OO (OQ (show ci (bw a b c d e v11) .ret (ck false)from RP [.b true,O3 4,.ret [OX ((aG v11).1),OX ((aG v11).2)],O3 (e.length:Int),.lp (.exit 2) (cK a b c d e e v11),O3 (e.length:Int),.b true] (AC i<|AC l<|AD (cg v11)<|ALn e etI<|AL q<|ALn e etI<|AC x<|AN)) (by intro h;cases h))
        ·have r:ci (bw a b c d e v11) .normal (bw a b c d e (inc v11)):=RP [.b true,O3 4,.ret [OX ((aG v11).1),OX ((aG v11).2)],O3 (e.length:Int),.lp (.exit 2) (cK a b c d e e v11),O3 (e.length:Int),.b false] (AC i<|AC l<|AD (cg v11)<|ALn e etI<|AL q<|ALn e etI<|AC x<|AN);exact(s (inc v11)).mono fun y g=>by cases y<;>exact OP r g
  ·exact OO (OQ (show ci (bw a b c d e v11) (.exit 0) (pD)from RP [.b false] (AC i<|AN)) (by intro h;cases h))
noncomputable def qd (x0:GCron):Option (Bool):=
  (bH x0.f0 x0.f1 x0.f2 x0.f3 x0.f4 9223372036854775808 0).bind fun y=>match y with
   | .ret a=>(some (a))
   | .x0=>(some (true))
theorem I4 (x0:GCron):Ans (qd x0) (fun r=>Does E 108 [.agg (GCron.t .far x0)] [OY r]):=by
 unfold qd;refine OS (fun y b => ?_);replace b:=GP x0.f0 x0.f1 x0.f2 x0.f3 x0.f4 9223372036854775808 0 y b;cases y with
 |ret a =>have c:=b;exact OO (DP Tryz.f108 [.lp .ret (ck a)] (AL c<|AN))
 |x0 =>have c:=b;exact OO (DP Tryz.f108 [.lp (.exit 0) (pD)] (AL c<|AN))
theorem Ka (aC:List Int)(a b:Int)(k:aC.length≤1050000):∀(rest:List Int)(i:Nat),aC.drop i=rest→dh a b aC rest i=some (if ku a b rest (iW aC i)=true then .x2 else .ret false)
 |[],i,_=>rfl
 |x::rest,i,h=>by
  have f:=Ka aC a b k rest (i+1) (aE h);rw[Cw h]at f;have hi:i<aC.length:=by
   rcases Pf i aC.length with g|g
   ·exact g
   ·rw[PW g]at h;cases h
  unfold dh ku;rw[f];cases ah x a b with
  |false=>rfl
  |true =>
   rw[Pk,PJ];rcases H4 h with rfl|⟨y,j⟩
   ·simp[iW]
   ·by_cases z:i=0
    ·subst z;simp[iW]
    ·have l:iW aC i=some y:=by unfold iW;rw[Pj z,j]
     have m:am aC (IntKind.wrap .i64 ((i:Int)-1))=some y:=by
      rw[dn _ (by omega) (by omega)];have e:((i:Int)-1)=((i-1:Nat):Int):=by omega
      rw[e,dZ,j]
     rw[l,m,Ph (by omega:(i:Int)>0),Pk,O5];simp only;by_cases c:y≥x
     ·have d:¬y<x:=by omega
      rw[Ph (show x≤y from c),Pk];simp[d]
     ·have d:y<x:=by omega
      rw[Pg (show ¬x≤y from c),Pt];simp[d]
theorem nH (l:List Int)(a b:Int)(c:l.length≤1050000)(K:Option sq):
  ((dh a b l l 0).bind fun y=>match y with
    | .ret w=>some (.ret w)
    | .x2=>cond ((l.length:Int)==(0:Int)) (some (.ret false)) K)=(cond (bc l a b) K (some (.ret false))):=by
 rw[Ka l a b c l 0 rfl];unfold bc iW;rw[O6 rfl];cases ku a b l none with
 |false=>rfl
 |true =>
  simp only[PK,O5,PJ];cases l with
  |nil=>rfl
  |cons x l =>rw[show(((x::l).length:Int)==(0:Int))=false from P8.2 (by simp<;>omega),Ph (by simp<;>omega)];rfl
theorem LM (c:GCron)(h:ae.sm c):qd c=some (iM c):=by
 have a:=h.1.1;have b:=h.2.1.1;have d:=h.2.2.1.1;have e:=h.2.2.2.1.1;have f:=h.2.2.2.2.1;unfold qd;have g:∀n,bH c.f0 c.f1 c.f2 c.f3 c.f4 (n+6) 0=some (if iM c=true then .x0 else .ret false):=by
  intro n;have i:bH c.f0 c.f1 c.f2 c.f3 c.f4 (n+1) (inc (inc (inc (inc (inc 0)))))=some .x0:=rfl;have j:bH c.f0 c.f1 c.f2 c.f3 c.f4 (n+2) (inc (inc (inc (inc 0))))=cond (bc c.f4 0 6) (some .x0) (some (.ret false)):=by
   rw[←nH c.f4 0 6 f, ←i]
   conv=>lhs;unfold bH
   show(if inc (inc (inc (inc 0)))=4 then(if c.f4.length≤9223372036854775807 then _ else none)else none)=_;rw[O6 (by rfl),O6 (by omega)];rfl
  have k:bH c.f0 c.f1 c.f2 c.f3 c.f4 (n+3) (inc (inc (inc 0)))=cond (bc c.f3 1 12) (cond (bc c.f4 0 6) (some .x0) (some (.ret false))) (some (.ret false)):=by
   rw[←nH c.f3 1 12 e, ←j]
   conv=>lhs;unfold bH
   show(if c.f3.length≤9223372036854775807 then _ else none)=_;rw[O6 (by omega)];rfl
  have l:bH c.f0 c.f1 c.f2 c.f3 c.f4 (n+4) (inc (inc 0))=cond (bc c.f2 1 31) (cond (bc c.f3 1 12) (cond (bc c.f4 0 6) (some .x0) (some (.ret false))) (some (.ret false))) (some (.ret false)):=by
   rw[←nH c.f2 1 31 d, ←k]
   conv=>lhs;unfold bH
   show(if c.f2.length≤9223372036854775807 then _ else none)=_;rw[O6 (by omega)];rfl
  have m:bH c.f0 c.f1 c.f2 c.f3 c.f4 (n+5) (inc 0)=cond (bc c.f1 0 23) (cond (bc c.f2 1 31) (cond (bc c.f3 1 12) (cond (bc c.f4 0 6) (some .x0) (some (.ret false))) (some (.ret false))) (some (.ret false))) (some (.ret false)):=by
   rw[←nH c.f1 0 23 b, ←l]
   conv=>lhs;unfold bH
   show(if c.f1.length≤9223372036854775807 then _ else none)=_;rw[O6 (by omega)];rfl
  have o:bH c.f0 c.f1 c.f2 c.f3 c.f4 (n+6) 0=cond (bc c.f0 0 59) (cond (bc c.f1 0 23) (cond (bc c.f2 1 31) (cond (bc c.f3 1 12) (cond (bc c.f4 0 6) (some .x0) (some (.ret false))) (some (.ret false))) (some (.ret false))) (some (.ret false))) (some (.ret false)):=by
   rw[←nH c.f0 0 59 a, ←m]
   conv=>lhs;unfold bH
   show(if c.f0.length≤9223372036854775807 then _ else none)=_;rw[O6 (by omega)];rfl
  rw[o];unfold iM;cases bc c.f0 0 59<;>cases bc c.f1 0 23<;>cases bc c.f2 1 31<;>cases bc c.f3 1 12<;>cases bc c.f4 0 6<;>rfl
 rw[g 9223372036854775802];cases iM c<;>rfl
theorem y8 (x0:GCron)(h:ae.sm x0):Does E 108 [.agg (GCron.t .far x0)] [OY (iM x0)]:=by exact I4 x0 _ (LM x0 h)
noncomputable def wu (x0:List Int)(a:Int):Option (Bool):=some ((x0.length:Int)==(inc (IntKind.wrap .i64 (((aG a).2)-((aG a).1)))))
theorem KH (x0:List Int)(a:Int):Ans (wu x0 a) (fun r=>Does E 109 [.one (.s .far () 1 (x0.map etI)),O0 a] [OY r]):=by unfold wu;exact OO (DP Tryz.f109 [.ret [OX ((aG a).1),OX ((aG a).2)],O3 (x0.length:Int)] (AD (cg a)<|ALn x0 etI<|AN))
noncomputable def nR (l:List Int)(i:Int):Bool:=(wu l i).getD false
theorem gM (x0:List Int)(a:Int):Does E 109 [.one (.s .far () 1 (x0.map etI)),O0 a] [OY (nR x0 a)]:=by exact KH x0 a _ rfl
inductive xe where|x0 (v5:ByteArray)
def jB (v0:List Int)(v5:ByteArray)(v6:Int):US:=stL 29 [(0,.one (.s .far () 1 (v0.map etI))),(5,O2 v5),(6,O0 v6)]
def oT (a:ByteArray):US:=stL 29 [(5,O2 a)]
abbrev rm:US→Exit→US→Prop:=Round E 83 (av Tryz.f83 0)
def F2 (v0:List Int)(v5:ByteArray)(v6:Int):xe→Prop| .x0 a=>Loops E 83 (av Tryz.f83 0) (jB v0 v5 v6) (.exit 0) (oT a)
noncomputable def eA  : List Int→Nat→ByteArray→Option xe|[],i,v5=>some (.x0 v5)|hd::rest,i,v5=>cond (decide ((i:Int)>(0:Int))) (if v5.size+(⟨#[44]⟩:ByteArray).size≤maxStr then if -9223372036854775808≤hd∧hd≤9223372036854775807 then if(v5++(⟨#[44]⟩:ByteArray)).size+(br hd).size≤maxStr then eA rest (i+1) ((v5++(⟨#[44]⟩:ByteArray))++(br hd))else none else none else none) (if -9223372036854775808≤hd∧hd≤9223372036854775807 then if v5.size+(br hd).size≤maxStr then eA rest (i+1) (v5++(br hd))else none else none)
theorem F1 (v0:List Int)(rest:List Int):∀(i:Nat)(v5:ByteArray),(v0).drop i=rest→v0.length≤9223372036854775807→Ans (eA rest i v5) (F2 v0 v5 (i:Int)):=by
 induction rest with
 |nil =>intro i v5 a c;have hb:=aZ a;unfold eA;exact OO (OQ (show rm (jB v0 v5 (i:Int)) (.exit 0) (oT v5)from RP [O3 (v0.length:Int),.b false] (ALn v0 etI<|AC hb<|AN)) (by intro h;cases h))
 |cons hd rest f =>
  intro i v5 a c;have hb:=aT a;have g:=aU a c;have b:=aE a;have j:=aW a;unfold eA;apply OR<;>intro k
  ·refine OT (fun l => ?_);refine OT (fun d => ?_);refine OT (fun m => ?_);exact(f (i+1) ((v5++(⟨#[44]⟩:ByteArray))++(br hd)) b c).mono fun y e=>by have r:rm (jB v0 v5 (i:Int)) .normal (jB v0 ((v5++(⟨#[44]⟩:ByteArray))++(br hd)) (inc (i:Int))):=RP [O3 (v0.length:Int),.b true,.b true,.val (.string (v5++(⟨#[44]⟩:ByteArray))),.row (etI hd),.ret [OZ (br hd)],.val (.string ((v5++(⟨#[44]⟩:ByteArray))++(br hd)))] (ALn v0 etI<|AC hb<|AC k<|AC (gH (tab:=E.tab) (t:=9) l)<|AR etI j<|AD (oY hd d)<|AC (gH (tab:=E.tab) (t:=9) m)<|AN);rw[g]at r;cases y<;>exact OP r e
  ·refine OT (fun n => ?_);refine OT (fun d => ?_);exact(f (i+1) (v5++(br hd)) b c).mono fun y e=>by have r:rm (jB v0 v5 (i:Int)) .normal (jB v0 (v5++(br hd)) (inc (i:Int))):=RP [O3 (v0.length:Int),.b true,.b false,.row (etI hd),.ret [OZ (br hd)],.val (.string (v5++(br hd)))] (ALn v0 etI<|AC hb<|AC k<|AR etI j<|AD (oY hd n)<|AC (gH (tab:=E.tab) (t:=9) d)<|AN);rw[g]at r;cases y<;>exact OP r e
noncomputable def pg (x0:List Int)(b:Int):Option (ByteArray):=
  cond ((x0.length:Int)==b)
   (some ((⟨#[42]⟩:ByteArray)))
   (if x0.length≤9223372036854775807 then(eA x0 0 ByteArray.empty).bind fun y=>match y with
    | .x0 a=>(some (a))else none)
theorem Hu (x0:List Int)(d:Int):Ans (pg x0 d) (fun r=>Does E 83 [.one (.s .far () 1 (x0.map etI)),O0 d] [OZ r]):=by
 unfold pg;apply OR<;>intro e
 ·exact OO (DP Tryz.f83 [O3 (x0.length:Int),.b true] (ALn x0 etI<|AC e<|AN))
 ·refine OT (fun b => ?_);refine OS (fun y c => ?_);replace c:=F1 x0 x0 0 ByteArray.empty rfl b y c;cases y with
  |x0 a =>have f:=c;exact OO (DP Tryz.f83 [O3 (x0.length:Int),.b false,.lp (.exit 0) (oT a)] (ALn x0 etI<|AC e<|AL f<|AN))
def gZ (c:UInt8):List (List UInt8)→List UInt8|[]=>[]|x::xs=>x++(xs.map fun y=>c::y).flatten
theorem wF (c:UInt8):∀xs:List (List UInt8),Lib.join xs [c]=gZ c xs
 |[]=>rfl
 |[x]=>by simp[Lib.join,List.intercalate,gZ]
 |x::y::xs=>by have a:=wF c (y::xs);unfold Lib.join List.intercalate at a ⊢;rw[List.intersperse_cons_cons,List.flatten_cons,List.flatten_cons,a];simp[gZ]
theorem vc (xs:List (List UInt8))(c:UInt8):ba (xs.map ofTx) ⟨#[c]⟩=ofTx (gZ c xs):=by
 unfold ba;have:(xs.map ofTx).map (fun s:ByteArray=>s.data.toList)=xs:=by
  rw[PU]
  conv=>rhs;rw[←Ri xs]
  rfl
 rw[this];show ofTx (Lib.join xs [c])=_;rw[wF]
theorem xI (c:UInt8)(k:Nat):∀xs:List (List UInt8),(∀x∈xs,x.length≤k)→(gZ c xs).length≤xs.length*(k+1)
 |[],_=>by simp[gZ]
 |x::xs,h=>by
  have d:=h x (by simp);have:∀ys:List (List UInt8),(∀y∈ys,y.length≤k)→((ys.map fun y=>c::y).flatten).length≤ys.length*(k+1):=by
   intro ys;induction ys with
   |nil=>intro _;simp
   |cons y ys a =>
    intro h;have:=a fun z hz=>h z (by simp[hz])
    have:=h y (by simp);simp[QA]at *;omega
  have:=this xs fun y b=>h y (by simp[b])
  simp only[gZ,RS,PH,QA];omega
theorem yK {x:Int}(h:0≤x∧x≤59):(tx (br x)).length≤2:=by show(Lib.itoa x).length≤2;unfold Lib.itoa;rw[Pj (by omega)];exact uh 1 _ (by omega)
noncomputable def aF (l:List Int)(size:Int):ByteArray:=cond ((l.length:Int)==size) ⟨#[42]⟩ (ofTx (gZ 44 (l.map fun x=>tx (br x))))
theorem gl {l:List Int}(c:l.length≤60)(h:∀z∈l,0≤z∧z≤59)(n:Int):(aF l n).size≤200:=by
 unfold aF;cases(l.length:Int)==n with
 |true=>exact(by decide:(⟨#[42]⟩:ByteArray).size≤200)
 |false =>
  rw[Pt,px];have:=xI 44 2 (l.map fun x=>tx (br x)) (fun y a=>by obtain⟨x,b,rfl⟩:=Pu.1 a;exact yK (h x b));rw[PI]at this;omega
theorem Lm:∀(l:List Int)(i:Nat)(v:List UInt8),(∀z∈l,0≤z∧z≤59)→0<i→v.length+l.length*3≤1000→eA l i (ofTx v)=some (.x0 (ofTx (v++((l.map fun x=>44::tx (br x)).flatten))))
 |[],i,v,_,_,_=>by unfold eA;simp
 |x::l,i,v,h,hi,b=>by have c:=h x (by simp);have hz:=yK c;have a:(⟨#[44]⟩:ByteArray)=ofTx [44]:=rfl;simp only[PH]at b;unfold eA;rw[Ph (by omega),Pk,a,oK, ←tF (br x),oK];simp only[px,tW];rw[O6 (by simp[maxStr];omega),O6 (by omega),O6 (by simp[maxStr];omega),Lm l (i+1) _ (fun z hz=>h z (by simp[hz])) (by omega) (by simp;omega)];simp
theorem M7 (l:List Int)(n:Int)(a:l.length≤60)(h:∀z∈l,0≤z∧z≤59):pg l n=some (aF l n):=by
 unfold pg aF;cases(l.length:Int)==n with
 |true=>rfl
 |false =>
  rw[Pt,Pt,O6 (by omega)];cases l with
  |nil=>rfl
  |cons x l =>
   have b:=h x (by simp);have hz:=yK b;simp only[PH]at a;unfold eA;have e:ByteArray.empty++br x=ofTx (tx (br x)):=by show ofTx []++ofTx (tx (br x))=_;rw[oK];rfl
   have c:(br x).size≤2:=by rw[dm];exact hz
   have d:ByteArray.empty.size=0:=rfl;rw[Pg (by omega),Pt,O6 (by omega),O6 (by rw[d];unfold maxStr;omega),e,Lm l _ _ (fun z hz=>h z (by simp[hz])) (by omega) (by omega),O5];simp only[Pv,gZ,PU];rfl
theorem mm (x0:List Int)(a:Int)(b:x0.length≤60)(c:∀z∈x0,0≤z∧z≤59):Does E 83 [.one (.s .far () 1 (x0.map etI)),O0 a] [OZ (aF x0 a)]:=by exact Hu x0 a _ (M7 x0 a b c)
noncomputable def og (x0:GCron):Option (ByteArray×Bool):=if ae.sm x0 then cond (iM x0) (if x0.f0.length≤60 then if ∀z∈x0.f0,0≤z∧z≤59 then if(aF x0.f0 60).size+(⟨#[32]⟩:ByteArray).size≤maxStr then if x0.f1.length≤60 then if ∀z∈x0.f1,0≤z∧z≤59 then if((aF x0.f0 (60:Int))++(⟨#[32]⟩:ByteArray)).size+(aF x0.f1 24).size≤maxStr then if(((aF x0.f0 (60:Int))++(⟨#[32]⟩:ByteArray))++(aF x0.f1 24)).size+(⟨#[32]⟩:ByteArray).size≤maxStr then if x0.f2.length≤60 then if ∀z∈x0.f2,0≤z∧z≤59 then if((((aF x0.f0 (60:Int))++(⟨#[32]⟩:ByteArray))++(aF x0.f1 24))++(⟨#[32]⟩:ByteArray)).size+(aF x0.f2 31).size≤maxStr then if(((((aF x0.f0 (60:Int))++(⟨#[32]⟩:ByteArray))++(aF x0.f1 24))++(⟨#[32]⟩:ByteArray))++(aF x0.f2 31)).size+(⟨#[32]⟩:ByteArray).size≤maxStr then if x0.f3.length≤60 then if ∀z∈x0.f3,0≤z∧z≤59 then if((((((aF x0.f0 (60:Int))++(⟨#[32]⟩:ByteArray))++(aF x0.f1 24))++(⟨#[32]⟩:ByteArray))++(aF x0.f2 31))++(⟨#[32]⟩:ByteArray)).size+(aF x0.f3 12).size≤maxStr then if(((((((aF x0.f0 (60:Int))++(⟨#[32]⟩:ByteArray))++(aF x0.f1 24))++(⟨#[32]⟩:ByteArray))++(aF x0.f2 31))++(⟨#[32]⟩:ByteArray))++(aF x0.f3 12)).size+(⟨#[32]⟩:ByteArray).size≤maxStr then if x0.f4.length≤60 then if ∀z∈x0.f4,0≤z∧z≤59 then if((((((((aF x0.f0 (60:Int))++(⟨#[32]⟩:ByteArray))++(aF x0.f1 24))++(⟨#[32]⟩:ByteArray))++(aF x0.f2 31))++(⟨#[32]⟩:ByteArray))++(aF x0.f3 12))++(⟨#[32]⟩:ByteArray)).size+(aF x0.f4 7).size≤maxStr then some (((((((((aF x0.f0 (60:Int))++(⟨#[32]⟩:ByteArray))++(aF x0.f1 24))++(⟨#[32]⟩:ByteArray))++(aF x0.f2 31))++(⟨#[32]⟩:ByteArray))++(aF x0.f3 12))++(⟨#[32]⟩:ByteArray))++(aF x0.f4 7),true)else none else none else none else none else none else none else none else none else none else none else none else none else none else none else none else none else none else none) (some (ByteArray.empty,false))else none
theorem FM (x0:GCron):Ans (og x0) (fun r=>Does E 60 [.agg (GCron.t .far x0)] [OZ r.1,OY r.2]):=by
 unfold og;refine OT (fun k => ?_);apply OR<;>intro l
 ·refine OT (fun m => ?_);refine OT (fun n => ?_);refine OT (fun o => ?_);refine OT (fun p => ?_);refine OT (fun q => ?_);refine OT (fun s => ?_);refine OT (fun u => ?_);refine OT (fun v => ?_);refine OT (fun a => ?_);refine OT (fun b => ?_);refine OT (fun c => ?_);refine OT (fun d => ?_);refine OT (fun e => ?_);refine OT (fun f => ?_);refine OT (fun g => ?_);refine OT (fun h => ?_);refine OT (fun i => ?_);refine OT (fun j => ?_);exact OO (DP Tryz.f60 [rT,.ret [OZ (aF x0.f0 60)],.val (.string ((aF x0.f0 (60:Int))++(⟨#[32]⟩:ByteArray))),.ret [OZ (aF x0.f1 24)],.val (.string (((aF x0.f0 (60:Int))++(⟨#[32]⟩:ByteArray))++(aF x0.f1 24))),.val (.string ((((aF x0.f0 (60:Int))++(⟨#[32]⟩:ByteArray))++(aF x0.f1 24))++(⟨#[32]⟩:ByteArray))),.ret [OZ (aF x0.f2 31)],.val (.string (((((aF x0.f0 (60:Int))++(⟨#[32]⟩:ByteArray))++(aF x0.f1 24))++(⟨#[32]⟩:ByteArray))++(aF x0.f2 31))),.val (.string ((((((aF x0.f0 (60:Int))++(⟨#[32]⟩:ByteArray))++(aF x0.f1 24))++(⟨#[32]⟩:ByteArray))++(aF x0.f2 31))++(⟨#[32]⟩:ByteArray))),.ret [OZ (aF x0.f3 12)],.val (.string (((((((aF x0.f0 (60:Int))++(⟨#[32]⟩:ByteArray))++(aF x0.f1 24))++(⟨#[32]⟩:ByteArray))++(aF x0.f2 31))++(⟨#[32]⟩:ByteArray))++(aF x0.f3 12))),.val (.string ((((((((aF x0.f0 (60:Int))++(⟨#[32]⟩:ByteArray))++(aF x0.f1 24))++(⟨#[32]⟩:ByteArray))++(aF x0.f2 31))++(⟨#[32]⟩:ByteArray))++(aF x0.f3 12))++(⟨#[32]⟩:ByteArray))),.ret [OZ (aF x0.f4 7)],.val (.string (((((((((aF x0.f0 (60:Int))++(⟨#[32]⟩:ByteArray))++(aF x0.f1 24))++(⟨#[32]⟩:ByteArray))++(aF x0.f2 31))++(⟨#[32]⟩:ByteArray))++(aF x0.f3 12))++(⟨#[32]⟩:ByteArray))++(aF x0.f4 7)))] (AD (OW (zd x0 k) l)<|AD (mm x0.f0 60 m n)<|AC (gH (tab:=E.tab) (t:=9) o)<|AD (mm x0.f1 24 p q)<|AC (gH (tab:=E.tab) (t:=9) s)<|AC (gH (tab:=E.tab) (t:=9) u)<|AD (mm x0.f2 31 v a)<|AC (gH (tab:=E.tab) (t:=9) b)<|AC (gH (tab:=E.tab) (t:=9) c)<|AD (mm x0.f3 12 d e)<|AC (gH (tab:=E.tab) (t:=9) f)<|AC (gH (tab:=E.tab) (t:=9) g)<|AD (mm x0.f4 7 h i)<|AC (gH (tab:=E.tab) (t:=9) j)<|AN))
 ·exact OO (DP Tryz.f60 [rF] (AD (OW (zd x0 k) l)<|AN))
inductive u9 where|x2 (v7:List ByteArray)
def mC (a b c d e:List Int)(v4 v7:List ByteArray)(f:Int)(v28:List Int)(g h:Int):US:=stL 48 [(1,.box () [.s .far () 1 (a.map etI),.s .far () 1 (b.map etI),.s .far () 1 (c.map etI),.s .far () 1 (d.map etI),.s .far () 1 (e.map etI)]),(4,.one (.s .own () 1 (v4.map etS))),(7,.one (.s .own () 1 (v7.map etS))),(13,.clo (.arr [0,1,2,3,4]) [1,1,1,1,1]),(14,O0 f),(28,.one (.s .far () 1 (v28.map etI))),(29,O0 g),(30,O0 h)]
def fe (a b c d e:List Int)(v4:List ByteArray)(f:Int)(g:List ByteArray):US:=stL 48 [(1,.box () [.s .far () 1 (a.map etI),.s .far () 1 (b.map etI),.s .far () 1 (c.map etI),.s .far () 1 (d.map etI),.s .far () 1 (e.map etI)]),(4,.one (.s .own () 1 (v4.map etS))),(7,.one (.s .own () 1 (g.map etS))),(13,.clo (.arr [0,1,2,3,4]) [1,1,1,1,1]),(14,O0 f)]
abbrev u7:US→Exit→US→Prop:=Round E 86 (av Tryz.f86 1)
def CY (a b c d e:List Int)(v4 v7:List ByteArray)(f:Int)(v28:List Int)(g h:Int):u9→Prop| .x2 i=>Loops E 86 (av Tryz.f86 1) (mC a b c d e v4 v7 f v28 g h) (.exit 2) (fe a b c d e v4 f i)
noncomputable def cl  : List Int→Nat→(List ByteArray)→Option u9|[],i,v7=>some (.x2 v7)|hd::rest,i,v7=>if -9223372036854775808≤hd∧hd≤9223372036854775807 then if(v7.length+([br hd]).length)*16≤140737488355328∧v7.length+([br hd]).length≤4611686018427387904 then cl rest (i+1) (v7++([br hd]))else none else none
theorem kq (a b c d e:List Int)(v4:List ByteArray)(f:Int)(v28:List Int)(rest:List Int):∀(i:Nat)(v7:List ByteArray),(v28).drop i=rest→v28.length≤9223372036854775807→Ans (cl rest i v7) (CY a b c d e v4 v7 f v28 (v28.length:Int) (i:Int)):=by
 induction rest with
 |nil =>intro i v7 g j;have hb:=aZ g;unfold cl;exact OO (OQ (show u7 (mC a b c d e v4 v7 f v28 (v28.length:Int) (i:Int)) (.exit 2) (fe a b c d e v4 f v7)from RP [.b false] (AC hb<|AN)) (by intro h;cases h))
 |cons hd rest l =>intro i v7 g j;have hb:=aT g;have m:=aU g j;have k:=aE g;have n:=aW g;unfold cl;refine OT (fun o => ?_);refine OT (fun p => ?_);exact(l (i+1) (v7++([br hd])) k j).mono fun y q=>by have r:u7 (mC a b c d e v4 v7 f v28 (v28.length:Int) (i:Int)) .normal (mC a b c d e v4 (v7++([br hd])) f v28 (v28.length:Int) (inc (i:Int))):=RP [.b true,.row (etI hd),.ret [OZ (br hd)],.rows ((v7++([br hd])).map etS)] (AC hb<|AR etI n<|AD (sa hd o)<|AAp etS (fun _=>rfl) p<|AN);rw[m]at r;cases y<;>exact OP r q
inductive pE where|x0 (v4:List ByteArray)
def be (a b c d e:List Int)(v4:List ByteArray)(f:Int):US:=stL 48 [(1,.box () [.s .far () 1 (a.map etI),.s .far () 1 (b.map etI),.s .far () 1 (c.map etI),.s .far () 1 (d.map etI),.s .far () 1 (e.map etI)]),(4,.one (.s .own () 1 (v4.map etS))),(13,.clo (.arr [0,1,2,3,4]) [1,1,1,1,1]),(14,O0 f)]
def nJ (a:List ByteArray):US:=stL 48 [(4,.one (.s .own () 1 (a.map etS)))]
abbrev cY:US→Exit→US→Prop:=Round E 86 (av Tryz.f86 0)
def CX (a b c d e:List Int)(v4:List ByteArray)(f:Int):pE→Prop| .x0 g=>Loops E 86 (av Tryz.f86 0) (be a b c d e v4 f) (.exit 0) (nJ g)
noncomputable def aL (c d e f g:List Int):Nat→(List ByteArray)→Int→Option pE
 | 0,_,_=>none
 |n+1,v4,b=>cond (decide (b<(5:Int)))
  (cond (b==(0:Int))
   (cond (nR c b)
    (if(v4.length+([(⟨#[42]⟩:ByteArray)]).length)*16≤140737488355328∧v4.length+([(⟨#[42]⟩:ByteArray)]).length≤4611686018427387904 then aL c d e f g n (v4++([(⟨#[42]⟩:ByteArray)])) (inc b)else none)
    (if c.length≤9223372036854775807 then(cl c 0 ([])).bind fun y=>match y with
     | .x2 a=>(if a.length≤140737488355328∧(ba a (⟨#[44]⟩:ByteArray)).size≤140737488355328 then if(v4.length+([ba a (⟨#[44]⟩:ByteArray)]).length)*16≤140737488355328∧v4.length+([ba a (⟨#[44]⟩:ByteArray)]).length≤4611686018427387904 then aL c d e f g n (v4++([ba a (⟨#[44]⟩:ByteArray)])) (inc b)else none else none)else none))
   (cond (b==(1:Int))
    (cond (nR d b)
     (if(v4.length+([(⟨#[42]⟩:ByteArray)]).length)*16≤140737488355328∧v4.length+([(⟨#[42]⟩:ByteArray)]).length≤4611686018427387904 then aL c d e f g n (v4++([(⟨#[42]⟩:ByteArray)])) (inc b)else none)
     (if d.length≤9223372036854775807 then(cl d 0 ([])).bind fun y=>match y with
      | .x2 a=>(if a.length≤140737488355328∧(ba a (⟨#[44]⟩:ByteArray)).size≤140737488355328 then if(v4.length+([ba a (⟨#[44]⟩:ByteArray)]).length)*16≤140737488355328∧v4.length+([ba a (⟨#[44]⟩:ByteArray)]).length≤4611686018427387904 then aL c d e f g n (v4++([ba a (⟨#[44]⟩:ByteArray)])) (inc b)else none else none)else none))
    (cond (b==(2:Int))
     (cond (nR e b)
      (if(v4.length+([(⟨#[42]⟩:ByteArray)]).length)*16≤140737488355328∧v4.length+([(⟨#[42]⟩:ByteArray)]).length≤4611686018427387904 then aL c d e f g n (v4++([(⟨#[42]⟩:ByteArray)])) (inc b)else none)
      (if e.length≤9223372036854775807 then(cl e 0 ([])).bind fun y=>match y with
       | .x2 a=>(if a.length≤140737488355328∧(ba a (⟨#[44]⟩:ByteArray)).size≤140737488355328 then if(v4.length+([ba a (⟨#[44]⟩:ByteArray)]).length)*16≤140737488355328∧v4.length+([ba a (⟨#[44]⟩:ByteArray)]).length≤4611686018427387904 then aL c d e f g n (v4++([ba a (⟨#[44]⟩:ByteArray)])) (inc b)else none else none)else none))
     (cond (b==(3:Int))
      (cond (nR f b)
       (if(v4.length+([(⟨#[42]⟩:ByteArray)]).length)*16≤140737488355328∧v4.length+([(⟨#[42]⟩:ByteArray)]).length≤4611686018427387904 then aL c d e f g n (v4++([(⟨#[42]⟩:ByteArray)])) (inc b)else none)
       (if f.length≤9223372036854775807 then(cl f 0 ([])).bind fun y=>match y with
        | .x2 a=>(if a.length≤140737488355328∧(ba a (⟨#[44]⟩:ByteArray)).size≤140737488355328 then if(v4.length+([ba a (⟨#[44]⟩:ByteArray)]).length)*16≤140737488355328∧v4.length+([ba a (⟨#[44]⟩:ByteArray)]).length≤4611686018427387904 then aL c d e f g n (v4++([ba a (⟨#[44]⟩:ByteArray)])) (inc b)else none else none)else none))
      (if b=(4:Int)then cond (nR g b)
       (if(v4.length+([(⟨#[42]⟩:ByteArray)]).length)*16≤140737488355328∧v4.length+([(⟨#[42]⟩:ByteArray)]).length≤4611686018427387904 then aL c d e f g n (v4++([(⟨#[42]⟩:ByteArray)])) (inc b)else none)
       (if g.length≤9223372036854775807 then(cl g 0 ([])).bind fun y=>match y with
        | .x2 a=>(if a.length≤140737488355328∧(ba a (⟨#[44]⟩:ByteArray)).size≤140737488355328 then if(v4.length+([ba a (⟨#[44]⟩:ByteArray)]).length)*16≤140737488355328∧v4.length+([ba a (⟨#[44]⟩:ByteArray)]).length≤4611686018427387904 then aL c d e f g n (v4++([ba a (⟨#[44]⟩:ByteArray)])) (inc b)else none else none)else none)else none)))))
  (some (.x0 v4))
theorem CW (c d e f g:List Int)(n:Nat):∀(v4:List ByteArray)(b:Int),Ans (aL c d e f g n v4 b) (CX c d e f g v4 b):=by
 induction n with
 |zero=>intros;exact Ans.none
 |succ n o =>
  intro v4 b;unfold aL;apply OR<;>intro l
  ·apply OR<;>intro B
   ·apply OR<;>intro v
    ·refine OT (fun s => ?_);have r:cY (be c d e f g v4 b) .normal (be c d e f g (v4++([(⟨#[42]⟩:ByteArray)])) (inc b)):=RP [.b true,O3 0,rT,.rows ((v4++([(⟨#[42]⟩:ByteArray)])).map etS)] (AC l<|AC (p:=b=(0:Int)) (eq_of_beq B)<|AD (OW (gM c b) v)<|AAp etS (fun _=>rfl) s<|AN);exact(o (v4++([(⟨#[42]⟩:ByteArray)])) (inc b)).mono fun y i=>by cases y<;>exact OP r i
    ·refine OT (fun w => ?_);refine OS (fun y i => ?_);replace i:=kq c d e f g v4 b c c 0 ([]) rfl w y i;cases y with
     |x2 a =>have s:=i;refine OT (fun m => ?_);refine OT (fun j => ?_);have r:cY (be c d e f g v4 b) .normal (be c d e f g (v4++([ba a (⟨#[44]⟩:ByteArray)])) (inc b)):=RP [.b true,O3 0,rF,O3 (c.length:Int),.lp (.exit 2) (fe c d e f g v4 b a),.ret [OZ (ba a (⟨#[44]⟩:ByteArray))],.rows ((v4++([ba a (⟨#[44]⟩:ByteArray)])).map etS)] (AC l<|AC (p:=b=(0:Int)) (eq_of_beq B)<|AD (OW (gM c b) v)<|ALn c etI<|AL s<|AV (ψ:=fun k=>E.C k 111 [.one (.s .far () 1 (((a.map etS).drop 0).take (a.map etS).length)),O2 (⟨#[44]⟩:ByteArray)]=some [OZ (ba a (⟨#[44]⟩:ByteArray))]) (OV (by simp only[PV,PQ]) (gY a (⟨#[44]⟩:ByteArray) m))<|AAp etS (fun _=>rfl) j<|AN);exact(o (v4++([ba a (⟨#[44]⟩:ByteArray)])) (inc b)).mono fun y i=>by cases y<;>exact OP r i
   ·apply OR<;>intro v
    ·apply OR<;>intro s
     ·refine OT (fun m => ?_);have r:cY (be c d e f g v4 b) .normal (be c d e f g (v4++([(⟨#[42]⟩:ByteArray)])) (inc b)):=RP [.b true,O3 1,rT,.rows ((v4++([(⟨#[42]⟩:ByteArray)])).map etS)] (AC l<|AC (p:=b=(1:Int)) (eq_of_beq v)<|AD (OW (gM d b) s)<|AAp etS (fun _=>rfl) m<|AN);exact(o (v4++([(⟨#[42]⟩:ByteArray)])) (inc b)).mono fun y i=>by cases y<;>exact OP r i
     ·refine OT (fun x => ?_);refine OS (fun y i => ?_);replace i:=kq c d e f g v4 b d d 0 ([]) rfl x y i;cases y with
      |x2 a =>have m:=i;refine OT (fun j => ?_);refine OT (fun q => ?_);have r:cY (be c d e f g v4 b) .normal (be c d e f g (v4++([ba a (⟨#[44]⟩:ByteArray)])) (inc b)):=RP [.b true,O3 1,rF,O3 (d.length:Int),.lp (.exit 2) (fe c d e f g v4 b a),.ret [OZ (ba a (⟨#[44]⟩:ByteArray))],.rows ((v4++([ba a (⟨#[44]⟩:ByteArray)])).map etS)] (AC l<|AC (p:=b=(1:Int)) (eq_of_beq v)<|AD (OW (gM d b) s)<|ALn d etI<|AL m<|AV (ψ:=fun k=>E.C k 111 [.one (.s .far () 1 (((a.map etS).drop 0).take (a.map etS).length)),O2 (⟨#[44]⟩:ByteArray)]=some [OZ (ba a (⟨#[44]⟩:ByteArray))]) (OV (by simp only[PV,PQ]) (gY a (⟨#[44]⟩:ByteArray) j))<|AAp etS (fun _=>rfl) q<|AN);exact(o (v4++([ba a (⟨#[44]⟩:ByteArray)])) (inc b)).mono fun y i=>by cases y<;>exact OP r i
    ·apply OR<;>intro s
     ·apply OR<;>intro m
      ·refine OT (fun j => ?_);have r:cY (be c d e f g v4 b) .normal (be c d e f g (v4++([(⟨#[42]⟩:ByteArray)])) (inc b)):=RP [.b true,O3 2,rT,.rows ((v4++([(⟨#[42]⟩:ByteArray)])).map etS)] (AC l<|AC (p:=b=(2:Int)) (eq_of_beq s)<|AD (OW (gM e b) m)<|AAp etS (fun _=>rfl) j<|AN);exact(o (v4++([(⟨#[42]⟩:ByteArray)])) (inc b)).mono fun y i=>by cases y<;>exact OP r i
      ·refine OT (fun z => ?_);refine OS (fun y i => ?_);replace i:=kq c d e f g v4 b e e 0 ([]) rfl z y i;cases y with
       |x2 a =>have j:=i;refine OT (fun q => ?_);refine OT (fun t => ?_);have r:cY (be c d e f g v4 b) .normal (be c d e f g (v4++([ba a (⟨#[44]⟩:ByteArray)])) (inc b)):=RP [.b true,O3 2,rF,O3 (e.length:Int),.lp (.exit 2) (fe c d e f g v4 b a),.ret [OZ (ba a (⟨#[44]⟩:ByteArray))],.rows ((v4++([ba a (⟨#[44]⟩:ByteArray)])).map etS)] (AC l<|AC (p:=b=(2:Int)) (eq_of_beq s)<|AD (OW (gM e b) m)<|ALn e etI<|AL j<|AV (ψ:=fun k=>E.C k 111 [.one (.s .far () 1 (((a.map etS).drop 0).take (a.map etS).length)),O2 (⟨#[44]⟩:ByteArray)]=some [OZ (ba a (⟨#[44]⟩:ByteArray))]) (OV (by simp only[PV,PQ]) (gY a (⟨#[44]⟩:ByteArray) q))<|AAp etS (fun _=>rfl) t<|AN);exact(o (v4++([ba a (⟨#[44]⟩:ByteArray)])) (inc b)).mono fun y i=>by cases y<;>exact OP r i
     ·apply OR<;>intro m
      ·apply OR<;>intro j
       ·refine OT (fun q => ?_);have r:cY (be c d e f g v4 b) .normal (be c d e f g (v4++([(⟨#[42]⟩:ByteArray)])) (inc b)):=RP [.b true,O3 3,rT,.rows ((v4++([(⟨#[42]⟩:ByteArray)])).map etS)] (AC l<|AC (p:=b=(3:Int)) (eq_of_beq m)<|AD (OW (gM f b) j)<|AAp etS (fun _=>rfl) q<|AN);exact(o (v4++([(⟨#[42]⟩:ByteArray)])) (inc b)).mono fun y i=>by cases y<;>exact OP r i
       ·refine OT (fun u => ?_);refine OS (fun y i => ?_);replace i:=kq c d e f g v4 b f f 0 ([]) rfl u y i;cases y with
        |x2 a =>have q:=i;refine OT (fun t => ?_);refine OT (fun A => ?_);have r:cY (be c d e f g v4 b) .normal (be c d e f g (v4++([ba a (⟨#[44]⟩:ByteArray)])) (inc b)):=RP [.b true,O3 3,rF,O3 (f.length:Int),.lp (.exit 2) (fe c d e f g v4 b a),.ret [OZ (ba a (⟨#[44]⟩:ByteArray))],.rows ((v4++([ba a (⟨#[44]⟩:ByteArray)])).map etS)] (AC l<|AC (p:=b=(3:Int)) (eq_of_beq m)<|AD (OW (gM f b) j)<|ALn f etI<|AL q<|AV (ψ:=fun k=>E.C k 111 [.one (.s .far () 1 (((a.map etS).drop 0).take (a.map etS).length)),O2 (⟨#[44]⟩:ByteArray)]=some [OZ (ba a (⟨#[44]⟩:ByteArray))]) (OV (by simp only[PV,PQ]) (gY a (⟨#[44]⟩:ByteArray) t))<|AAp etS (fun _=>rfl) A<|AN);exact(o (v4++([ba a (⟨#[44]⟩:ByteArray)])) (inc b)).mono fun y i=>by cases y<;>exact OP r i
      ·refine OT (fun j => ?_);apply OR<;>intro q
       ·refine OT (fun t => ?_);have r:cY (be c d e f g v4 b) .normal (be c d e f g (v4++([(⟨#[42]⟩:ByteArray)])) (inc b)):=RP [.b true,O3 4,rT,.rows ((v4++([(⟨#[42]⟩:ByteArray)])).map etS)] (AC l<|AC j<|AD (OW (gM g b) q)<|AAp etS (fun _=>rfl) t<|AN);exact(o (v4++([(⟨#[42]⟩:ByteArray)])) (inc b)).mono fun y i=>by cases y<;>exact OP r i
       ·refine OT (fun u => ?_);refine OS (fun y i => ?_);replace i:=kq c d e f g v4 b g g 0 ([]) rfl u y i;cases y with
        |x2 a =>have t:=i;refine OT (fun A => ?_);refine OT (fun D => ?_);have r:cY (be c d e f g v4 b) .normal (be c d e f g (v4++([ba a (⟨#[44]⟩:ByteArray)])) (inc b)):=RP [.b true,O3 4,rF,O3 (g.length:Int),.lp (.exit 2) (fe c d e f g v4 b a),.ret [OZ (ba a (⟨#[44]⟩:ByteArray))],.rows ((v4++([ba a (⟨#[44]⟩:ByteArray)])).map etS)] (AC l<|AC j<|AD (OW (gM g b) q)<|ALn g etI<|AL t<|AV (ψ:=fun k=>E.C k 111 [.one (.s .far () 1 (((a.map etS).drop 0).take (a.map etS).length)),O2 (⟨#[44]⟩:ByteArray)]=some [OZ (ba a (⟨#[44]⟩:ByteArray))]) (OV (by simp only[PV,PQ]) (gY a (⟨#[44]⟩:ByteArray) A))<|AAp etS (fun _=>rfl) D<|AN);exact(o (v4++([ba a (⟨#[44]⟩:ByteArray)])) (inc b)).mono fun y i=>by cases y<;>exact OP r i
  ·exact OO (OQ (show cY (be c d e f g v4 b) (.exit 0) (nJ v4)from RP [.b false] (AC l<|AN)) (by intro h;cases h))
noncomputable def nK (x0:GCron):Option (ByteArray×Bool):=
  if ae.sm x0 then cond (iM x0)
   ((aL x0.f0 x0.f1 x0.f2 x0.f3 x0.f4 9223372036854775808 ([]) 0).bind fun y=>match y with
    | .x0 a=>(if a.length≤140737488355328∧(ba a (⟨#[32]⟩:ByteArray)).size≤140737488355328 then some (ba a (⟨#[32]⟩:ByteArray),true)else none))
   (some (ByteArray.empty,false))else none
theorem ER (x0:GCron):Ans (nK x0) (fun r=>Does E 86 [.agg (GCron.t .far x0)] [OZ r.1,OY r.2]):=by
 unfold nK;refine OT (fun c => ?_);apply OR<;>intro d
 ·refine OS (fun y b => ?_);replace b:=CW x0.f0 x0.f1 x0.f2 x0.f3 x0.f4 9223372036854775808 ([]) 0 y b;cases y with
  |x0 a =>have e:=b;refine OT (fun f => ?_);exact OO (DP Tryz.f86 [rT,.lp (.exit 0) (nJ a),.ret [OZ (ba a (⟨#[32]⟩:ByteArray))]] (AD (OW (y8 x0 c) d)<|AL e<|AV (ψ:=fun k=>E.C k 111 [.one (.s .far () 1 (((a.map etS).drop 0).take (a.map etS).length)),O2 (⟨#[32]⟩:ByteArray)]=some [OZ (ba a (⟨#[32]⟩:ByteArray))]) (OV (by simp only[PV,PQ]) (gY a (⟨#[32]⟩:ByteArray) f))<|AN))
 ·exact OO (DP Tryz.f86 [rF] (AD (OW (y8 x0 c) d)<|AN))
theorem Cz {a b:Int}:∀{l:List Int}{p:Option Int},ku a b l p=true→l.Pairwise (· < ·)∧∀y,p=some y→∀x∈l,y<x
 |[],p,_=>⟨by simp,fun y _ x hx=>by cases hx⟩
 |z::l,p,h=>by
  unfold ku at h;simp only[PA]at h;obtain⟨d,f⟩:=Cz h.2;have c:=f z rfl;refine⟨RT.2 ⟨c,d⟩,fun y e x hx => ?_⟩;subst e;have g:y<z:=by simpa using h.1.2
  rcases PD.1 hx with rfl|hx
  ·exact g
  ·have:=c x hx;omega
theorem FG {a b:Int}:∀{l:List Int}{p:Option Int},ku a b l p=true→∀x∈l,a≤x∧x≤b
 |[],_,_,x,hx=>by cases hx
 |y::l,p,h,x,hx=>by
  unfold ku at h;simp only[PA]at h;rcases PD.1 hx with rfl|hx
  ·have:=h.1.1;unfold ah at this;simpa using this
  ·exact FG h.2 x hx
theorem Cp {l:List Int}{a b:Int}(h:bc l a b=true):∀x∈l,a≤x∧x≤b:=by unfold bc at h;rw[PA]at h;have h:=h.1;exact FG h
theorem Jw {l:List Int}{a b:Int}(h:bc l a b=true)(c:a≤b+1):(l.length:Int)≤b+1-a:=by have hi:=Cp h;unfold bc at h;rw[PA]at h;exact uK a b l a (Cz h.1).1 hi c
theorem zl {c:GCron}(h:iM c=true):bc c.f0 0 59=true∧bc c.f1 0 23=true∧bc c.f2 1 31=true∧bc c.f3 1 12=true∧bc c.f4 0 6=true:=by unfold iM at h;simp only[PA]at h;exact h
theorem gT {l:List Int}{a b:Int}(h:bc l a b=true)(c:0≤a)(d:a≤b)(e:b≤59):l.length≤60∧∀z∈l,0≤z∧z≤59:=by have:=Jw h (by omega);exact⟨by omega,fun z hz=>by have:=Cp h z hz;omega⟩
noncomputable def ug (c:GCron):ByteArray:=ofTx (gZ 32 [tx (aF c.f0 60),tx (aF c.f1 24),tx (aF c.f2 31),tx (aF c.f3 12),tx (aF c.f4 7)])
noncomputable def bi (c:GCron):ByteArray×Bool:=cond (iM c) (ug c,true) (ByteArray.empty,false)
theorem NP (a b c d e:ByteArray):((((((((a++⟨#[32]⟩)++b)++⟨#[32]⟩)++c)++⟨#[32]⟩)++d)++⟨#[32]⟩)++e:ByteArray)=ofTx (gZ 32 [tx a,tx b,tx c,tx d,tx e]):=by apply Ay;have f:tx (⟨#[32]⟩:ByteArray)=[32]:=rfl;simp[Lu,f,tW,gZ]
theorem ND (c:GCron)(h:ae.sm c):og c=some (bi c):=by
 unfold og bi;rw[O6 h];cases q:iM c with
 |false=>rfl
 |true =>
  obtain⟨d,e,f,g,i⟩:=zl q;have a0:=gT d (by decide) (by decide) (by decide);have a:=gT e (by decide) (by decide) (by decide);have a2:=gT f (by decide) (by decide) (by decide);have a3:=gT g (by decide) (by decide) (by decide);have a4:=gT i (by decide) (by decide) (by decide);have z0:=gl a0.1 a0.2 60;have j:=gl a.1 a.2 24;have z2:=gl a2.1 a2.2 31;have z3:=gl a3.1 a3.2 12;have z4:=gl a4.1 a4.2 7;have b:(⟨#[32]⟩:ByteArray).size=1:=rfl;rw[Pk,Pk];simp only[O6 a0.1,O6 a0.2,O6 a.1,O6 a.2,O6 a2.1,O6 a2.2,O6 a3.1,O6 a3.2,O6 a4.1,O6 a4.2,RD,b,maxStr];repeat rw[O6 (by omega)]
  rw[NP];rfl
theorem MD:∀(l:List Int)(i:Nat)(v:List ByteArray),(∀z∈l,0≤z∧z≤59)→v.length+l.length≤1000→cl l i v=some (.x2 (v++l.map br))
 |[],i,v,_,_=>by unfold cl;simp
 |x::l,i,v,h,a=>by have b:=h x (by simp);simp only[PH]at a;unfold cl;rw[O6 (by omega),O6 (by simp;omega),MD l (i+1) _ (fun z hz=>h z (by simp[hz])) (by simp;omega)];simp
theorem pA (l:List Int)(d:l.length≤60)(c:∀z∈l,0≤z∧z≤59)(v:List ByteArray)(hv:v.length≤10)(b:Bool)(n:Int)(hb:b=((l.length:Int)==n))(K:List ByteArray→Option pE):
  cond b
    (if(v.length+([(⟨#[42]⟩:ByteArray)]).length)*16≤140737488355328∧v.length+([(⟨#[42]⟩:ByteArray)]).length≤4611686018427387904 then K (v++([(⟨#[42]⟩:ByteArray)]))else none)
    (if l.length≤9223372036854775807 then(cl l 0 ([])).bind fun y=>match y with
     | .x2 a=>(if a.length≤140737488355328∧(ba a (⟨#[44]⟩:ByteArray)).size≤140737488355328 then if(v.length+([ba a (⟨#[44]⟩:ByteArray)]).length)*16≤140737488355328∧v.length+([ba a (⟨#[44]⟩:ByteArray)]).length≤4611686018427387904 then K (v++([ba a (⟨#[44]⟩:ByteArray)]))else none else none)else none)=K (v++[aF l n]):=by
 subst hb;have f:ba (l.map br) ⟨#[44]⟩=ofTx (gZ 44 (l.map fun x=>tx (br x))):=by
  have e:l.map br=(l.map fun x=>tx (br x)).map ofTx:=by rw[PU];rfl
  rw[e,vc]
 unfold aF;have hz:=gl d c n;unfold aF at hz;cases q:(l.length:Int)==n with
 |true=>rw[Pk,O6 (by simp;omega),Pk]
 |false =>rw[q,Pt]at hz;rw[Pt,Pt,O6 (by omega),MD l 0 [] c (by simp;omega),O5];simp only[PG];rw[f,O6 (by rw[PI];omega),O6 (by simp;omega)]
theorem NC (c:GCron)(h:ae.sm c):nK c=some (bi c):=by
 unfold nK bi;rw[O6 h];cases q:iM c with
 |false=>rfl
 |true =>
  obtain⟨d,e,f,g,i⟩:=zl q;have a0:=gT d (by decide) (by decide) (by decide);have a:=gT e (by decide) (by decide) (by decide);have a2:=gT f (by decide) (by decide) (by decide);have a3:=gT g (by decide) (by decide) (by decide);have a4:=gT i (by decide) (by decide) (by decide);have z0:=gl a0.1 a0.2 60;have s:=gl a.1 a.2 24;have z2:=gl a2.1 a2.2 31;have z3:=gl a3.1 a3.2 12;have z4:=gl a4.1 a4.2 7;have j:∀n,aL c.f0 c.f1 c.f2 c.f3 c.f4 (n+1) [] 0=aL c.f0 c.f1 c.f2 c.f3 c.f4 n ([]++[aF c.f0 60]) 1:=fun n =>pA c.f0 a0.1 a0.2 [] (by simp) (nR c.f0 0) 60 rfl fun w=>aL c.f0 c.f1 c.f2 c.f3 c.f4 n w 1
  have k:∀n v,v.length≤10→aL c.f0 c.f1 c.f2 c.f3 c.f4 (n+1) v 1=aL c.f0 c.f1 c.f2 c.f3 c.f4 n (v++[aF c.f1 24]) 2:=fun n v hv =>pA c.f1 a.1 a.2 v hv (nR c.f1 1) 24 rfl fun w=>aL c.f0 c.f1 c.f2 c.f3 c.f4 n w 2
  have l:∀n v,v.length≤10→aL c.f0 c.f1 c.f2 c.f3 c.f4 (n+1) v 2=aL c.f0 c.f1 c.f2 c.f3 c.f4 n (v++[aF c.f2 31]) 3:=fun n v hv =>pA c.f2 a2.1 a2.2 v hv (nR c.f2 2) 31 rfl fun w=>aL c.f0 c.f1 c.f2 c.f3 c.f4 n w 3
  have m:∀n v,v.length≤10→aL c.f0 c.f1 c.f2 c.f3 c.f4 (n+1) v 3=aL c.f0 c.f1 c.f2 c.f3 c.f4 n (v++[aF c.f3 12]) 4:=fun n v hv =>pA c.f3 a3.1 a3.2 v hv (nR c.f3 3) 12 rfl fun w=>aL c.f0 c.f1 c.f2 c.f3 c.f4 n w 4
  have o:∀n v,v.length≤10→aL c.f0 c.f1 c.f2 c.f3 c.f4 (n+1) v 4=aL c.f0 c.f1 c.f2 c.f3 c.f4 n (v++[aF c.f4 7]) 5:=fun n v hv =>pA c.f4 a4.1 a4.2 v hv (nR c.f4 4) 7 rfl fun w=>aL c.f0 c.f1 c.f2 c.f3 c.f4 n w 5
  have p:∀n v,aL c.f0 c.f1 c.f2 c.f3 c.f4 (n+1) v 5=some (.x0 v):=fun n v=>rfl
  have st:aL c.f0 c.f1 c.f2 c.f3 c.f4 (9223372036854775802+6) [] 0=_:=j _;rw[k _ _ (by simp),l _ _ (by simp),m _ _ (by simp),o _ _ (by simp),p]at st;simp only[PG,Rx]at st;rw[Pk,Pk];refine(Pw (Option.bind · _) st).trans ?_;rw[O5];have r:ba [aF c.f0 60,aF c.f1 24,aF c.f2 31,aF c.f3 12,aF c.f4 7] ⟨#[32]⟩=ug c:=vc [tx (aF c.f0 60),tx (aF c.f1 24),tx (aF c.f2 31),tx (aF c.f3 12),tx (aF c.f4 7)] 32;have t:(ug c).size≤2000:=by
   unfold ug;rw[px];have:=xI 32 200 [tx (aF c.f0 60),tx (aF c.f1 24),tx (aF c.f2 31),tx (aF c.f3 12),tx (aF c.f4 7)] (fun x b=>by simp only[PD,QS,Rz]at b;rcases b with rfl|rfl|rfl|rfl|rfl<;>rw[←dm]<;>assumption);simp only[PH,Sa]at this;omega
  show(if _ then _ else none)=_;rw[r,O6 ⟨by simp,by omega⟩]
theorem fd (x0:GCron)(h:ae.sm x0):Does E 60 [.agg (GCron.t .far x0)] [OZ ((bi x0).1),OY ((bi x0).2)]:=by exact FM x0 _ (ND x0 h)
theorem vD (x0:GCron)(h:ae.sm x0):Does E 86 [.agg (GCron.t .far x0)] [OZ ((bi x0).1),OY ((bi x0).2)]:=by exact ER x0 _ (NC x0 h)
end
end Go.Proofs.YtjlkcjlcmaoccaaGreatDoor.Am
