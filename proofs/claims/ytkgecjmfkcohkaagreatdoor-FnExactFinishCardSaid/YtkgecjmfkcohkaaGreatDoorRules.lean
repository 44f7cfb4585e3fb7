/- Rules. -/
import Derived.Test.YtkgecjmfkcohkaaGreatDoorWords
namespace Go.Proofs.YtkgecjmfkcohkaaGreatDoor.Am
open Go
set_option linter.unusedVariables false
set_option linter.unusedSimpArgs false
section
open Go.Proofs Classical
set_option maxRecDepth 100000
inductive sT where|ret (v2_0 v2_1 v2_2 v2_3 v2_4:List Int) (v3:Bool)|x0
def gW (v2_0 v2_1 v2_2 v2_3 v2_4 v6_0 v6_1 v6_2 v6_3 v6_4:List Int)(v7:List Bool)(v8:Int):US:=stL 85 [(2,.box () [.s .own () 1 (v2_0.map etI),.s .own () 1 (v2_1.map etI),.s .own () 1 (v2_2.map etI),.s .own () 1 (v2_3.map etI),.s .own () 1 (v2_4.map etI)]),(6,.box () [.s .own () 1 (v6_0.map etI),.s .own () 1 (v6_1.map etI),.s .own () 1 (v6_2.map etI),.s .own () 1 (v6_3.map etI),.s .own () 1 (v6_4.map etI)]),(7,.one (.s .own () 1 (v7.map etB))),(8,NZ v8)]
def lK (a b c d e:List Int)(f:Bool):US:=stL 85 [(2,.box () [.s .own () 1 (a.map etI),.s .own () 1 (b.map etI),.s .own () 1 (c.map etI),.s .own () 1 (d.map etI),.s .own () 1 (e.map etI)]),(3,N0 f)]
def mw (v2_0 v2_1 v2_2 v2_3 v2_4 v6_0 v6_1 v6_2 v6_3 v6_4:List Int):US:=stL 85 [(2,.box () [.s .own () 1 (v2_0.map etI),.s .own () 1 (v2_1.map etI),.s .own () 1 (v2_2.map etI),.s .own () 1 (v2_3.map etI),.s .own () 1 (v2_4.map etI)]),(6,.box () [.s .own () 1 (v6_0.map etI),.s .own () 1 (v6_1.map etI),.s .own () 1 (v6_2.map etI),.s .own () 1 (v6_3.map etI),.s .own () 1 (v6_4.map etI)])]
abbrev oe:US→Exit→US→Prop:=Round E 54 (aw Tryz.f54 0)
def AB (v2_0 v2_1 v2_2 v2_3 v2_4 v6_0 v6_1 v6_2 v6_3 v6_4:List Int)(v7:List Bool)(v8:Int):sT→Prop| .ret a b c d e f=>Loops E 54 (aw Tryz.f54 0) (gW v2_0 v2_1 v2_2 v2_3 v2_4 v6_0 v6_1 v6_2 v6_3 v6_4 v7 v8) .ret (lK a b c d e f)| .x0=>Loops E 54 (aw Tryz.f54 0) (gW v2_0 v2_1 v2_2 v2_3 v2_4 v6_0 v6_1 v6_2 v6_3 v6_4 v7 v8) (.exit 0) (mw v2_0 v2_1 v2_2 v2_3 v2_4 v6_0 v6_1 v6_2 v6_3 v6_4)
noncomputable def gX (v7:List Bool):Nat→Int→Option sT| 0,_=>none|n+1,v8=>cond (decide (v8<(5:Int))) ((ap v7 v8).bind fun a=>cond (a) (gX v7 n (inc v8)) (some (.ret ([]) ([]) ([]) ([]) ([]) false))) (some (.x0))
theorem AA (v2_0 v2_1 v2_2 v2_3 v2_4 v6_0 v6_1 v6_2 v6_3 v6_4:List Int)(v7:List Bool)(n:Nat):∀(v8:Int),Ans (gX v7 n v8) (AB v2_0 v2_1 v2_2 v2_3 v2_4 v6_0 v6_1 v6_2 v6_3 v6_4 v7 v8):=by
 induction n with
 |zero=>intros;exact Ans.none
 |succ n e =>
  intro v8;unfold gX;apply NQ<;>intro b
  ·refine NR (fun c a => ?_);apply NQ<;>intro d
   ·have r:oe (gW v2_0 v2_1 v2_2 v2_3 v2_4 v6_0 v6_1 v6_2 v6_3 v6_4 v7 v8) .normal (gW v2_0 v2_1 v2_2 v2_3 v2_4 v6_0 v6_1 v6_2 v6_3 v6_4 v7 (inc v8)):=RP [.b true,.row ([tB true])] (AC b<|AC (p:=0≤v8∧v8<((v7.map etB).length:Int)) (km a)<|AC (p:=(v7.map etB)[0+v8.toNat]?=some ([tB true])) ((bR a).trans (Ov some (show [tB c]=[tB true] by rw[d])))<|AN);exact(e (inc v8)).mono fun y f=>by cases y<;>exact NO r f
   ·exact NN (NP (show oe (gW v2_0 v2_1 v2_2 v2_3 v2_4 v6_0 v6_1 v6_2 v6_3 v6_4 v7 v8) .ret (lK ([]) ([]) ([]) ([]) ([]) false)from RP [.b true,.row ([tB false])] (AC b<|AC (p:=0≤v8∧v8<((v7.map etB).length:Int)) (km a)<|AC (p:=(v7.map etB)[0+v8.toNat]?=some ([tB false])) ((bR a).trans (Ov some (show [tB c]=[tB false] by rw[d])))<|AN)) (by intro h;cases h))
  ·exact NN (NP (show oe (gW v2_0 v2_1 v2_2 v2_3 v2_4 v6_0 v6_1 v6_2 v6_3 v6_4 v7 v8) (.exit 0) (mw v2_0 v2_1 v2_2 v2_3 v2_4 v6_0 v6_1 v6_2 v6_3 v6_4)from RP [.b false] (AC b<|AN)) (by intro h;cases h))
noncomputable def md (x0:ByteArray):Option (GCron×Bool):=
  cond ((aM x0).2)
   (cond ((((aM x0).1).length:Int) != 5)
    (some ((GCron.mk ([]:List Int) ([]:List Int) ([]:List Int) ([]:List Int) ([]:List Int)),false))
    (if 0≤(5:Int)∧(5:Int)≤(5:Int)∧((1:Nat):Int)*(5:Int)≤281474976710656∧(5:Int)≤4611686018427387904 then(ap ((aM x0).1) 0).bind fun f=>if f.size≤2000000 then if 0≤(0:Int)∧(0:Int)≤(59:Int)∧(59:Int)≤59 then(ap (List.replicate (5:Int).toNat false) 0).bind fun g1=>(ap ((aM x0).1) 1).bind fun g=>if g.size≤2000000 then if 0≤(0:Int)∧(0:Int)≤(23:Int)∧(23:Int)≤59 then(ap ((List.replicate (5:Int).toNat false).set (0:Int).toNat ((ac f 0 59).2)) 1).bind fun g3=>(ap ((aM x0).1) 2).bind fun g4=>if g4.size≤2000000 then if 0≤(1:Int)∧(1:Int)≤(31:Int)∧(31:Int)≤59 then(ap (((List.replicate (5:Int).toNat false).set (0:Int).toNat ((ac f 0 59).2)).set (1:Int).toNat ((ac g 0 23).2)) 2).bind fun k=>(ap ((aM x0).1) 3).bind fun i=>if i.size≤2000000 then if 0≤(1:Int)∧(1:Int)≤(12:Int)∧(12:Int)≤59 then(ap ((((List.replicate (5:Int).toNat false).set (0:Int).toNat ((ac f 0 59).2)).set (1:Int).toNat ((ac g 0 23).2)).set (2:Int).toNat ((ac g4 1 31).2)) 3).bind fun l=>(ap ((aM x0).1) 4).bind fun j=>if j.size≤2000000 then if 0≤(0:Int)∧(0:Int)≤(6:Int)∧(6:Int)≤59 then(ap (((((List.replicate (5:Int).toNat false).set (0:Int).toNat ((ac f 0 59).2)).set (1:Int).toNat ((ac g 0 23).2)).set (2:Int).toNat ((ac g4 1 31).2)).set (3:Int).toNat ((ac i 1 12).2)) 4).bind fun m=>(gX ((((((List.replicate (5:Int).toNat false).set (0:Int).toNat ((ac f 0 59).2)).set (1:Int).toNat ((ac g 0 23).2)).set (2:Int).toNat ((ac g4 1 31).2)).set (3:Int).toNat ((ac i 1 12).2)).set (4:Int).toNat ((ac j 0 6).2)) 9223372036854775808 0).bind fun y=>match y with
     | .ret a b c d e h=>(some ((GCron.mk a b c d e),h))
     | .x0=>(some ((GCron.mk ((ac f 0 59).1) ((ac g 0 23).1) ((ac g4 1 31).1) ((ac i 1 12).1) ((ac j 0 6).1)),true))else none else none else none else none else none else none else none else none else none else none else none))
   (some ((GCron.mk ([]:List Int) ([]:List Int) ([]:List Int) ([]:List Int) ([]:List Int)),false))
theorem Ck (x0:ByteArray):Ans (md x0) (fun r=>Does E 54 [N1 x0] [(true,GCron.t .own r.1),NX r.2]):=by
 unfold md;apply NQ<;>intro C
 ·apply NQ<;>intro I
  ·exact NN (DP Tryz.f54 [.ret [(false,[.s .own () 1 (((aM x0).1).map etS)]),NX true],N2 (((aM x0).1).length:Int),.b true] (AD (lY x0 C)<|ALn ((aM x0).1) etS<|AC I<|AN))
  ·refine NS (fun J => ?_);refine NR (fun a K => ?_);refine NS (fun L => ?_);refine NS (fun M => ?_);refine NR (fun g1 N => ?_);refine NR (fun b O => ?_);refine NS (fun P => ?_);refine NS (fun Q => ?_);refine NR (fun g3 k => ?_);refine NR (fun g4 l => ?_);refine NS (fun m => ?_);refine NS (fun n => ?_);refine NR (fun D o => ?_);refine NR (fun c q => ?_);refine NS (fun s => ?_);refine NS (fun u => ?_);refine NR (fun F v => ?_);refine NR (fun d w => ?_);refine NS (fun x => ?_);refine NS (fun z => ?_);refine NR (fun G A => ?_);refine NR (fun y H => ?_);replace H:=AA ([]) ([]) ([]) ([]) ([]) ((ac a 0 59).1) ((ac b 0 23).1) ((ac g4 1 31).1) ((ac c 1 12).1) ((ac d 0 6).1) ((((((List.replicate (5:Int).toNat false).set (0:Int).toNat ((ac a 0 59).2)).set (1:Int).toNat ((ac b 0 23).2)).set (2:Int).toNat ((ac g4 1 31).2)).set (3:Int).toNat ((ac c 1 12).2)).set (4:Int).toNat ((ac d 0 6).2)) 9223372036854775808 0 y H;cases y with
   |ret e f g h i B =>have j:=H;exact NN (DP Tryz.f54 [.ret [(false,[.s .own () 1 (((aM x0).1).map etS)]),NX true],N2 (((aM x0).1).length:Int),.b false,.rows ((List.replicate (5:Int).toNat false).map etB),.row (etS a),.ret [(false,[.s .own () 1 (((ac a 0 59).1).map etI)]),NX ((ac a 0 59).2)],.row (etB g1),.rows (((List.replicate (5:Int).toNat false).set (0:Int).toNat ((ac a 0 59).2)).map etB),.row (etS b),.ret [(false,[.s .own () 1 (((ac b 0 23).1).map etI)]),NX ((ac b 0 23).2)],.row (etB g3),.rows ((((List.replicate (5:Int).toNat false).set (0:Int).toNat ((ac a 0 59).2)).set (1:Int).toNat ((ac b 0 23).2)).map etB),.row (etS g4),.ret [(false,[.s .own () 1 (((ac g4 1 31).1).map etI)]),NX ((ac g4 1 31).2)],.row (etB D),.rows (((((List.replicate (5:Int).toNat false).set (0:Int).toNat ((ac a 0 59).2)).set (1:Int).toNat ((ac b 0 23).2)).set (2:Int).toNat ((ac g4 1 31).2)).map etB),.row (etS c),.ret [(false,[.s .own () 1 (((ac c 1 12).1).map etI)]),NX ((ac c 1 12).2)],.row (etB F),.rows ((((((List.replicate (5:Int).toNat false).set (0:Int).toNat ((ac a 0 59).2)).set (1:Int).toNat ((ac b 0 23).2)).set (2:Int).toNat ((ac g4 1 31).2)).set (3:Int).toNat ((ac c 1 12).2)).map etB),.row (etS d),.ret [(false,[.s .own () 1 (((ac d 0 6).1).map etI)]),NX ((ac d 0 6).2)],.row (etB G),.rows (((((((List.replicate (5:Int).toNat false).set (0:Int).toNat ((ac a 0 59).2)).set (1:Int).toNat ((ac b 0 23).2)).set (2:Int).toNat ((ac g4 1 31).2)).set (3:Int).toNat ((ac c 1 12).2)).set (4:Int).toNat ((ac d 0 6).2)).map etB),.lp .ret (lK e f g h i B)] (AD (lY x0 C)<|ALn ((aM x0).1) etS<|AC I<|AC J<|AC (p:=List.replicate (5:Int).toNat [tB false]=(List.replicate (5:Int).toNat false).map etB) (qv rfl)<|AG etS K<|AD (ea a 0 59 L M)<|AG etB N<|AC (p:=((List.replicate (5:Int).toNat false).map etB).set (0+(0:Int).toNat) (an (etB g1) 0 [tB ((ac a 0 59).2)])=((List.replicate (5:Int).toNat false).set (0:Int).toNat ((ac a 0 59).2)).map etB) (cB (by rfl))<|AG etS O<|AD (ea b 0 23 P Q)<|AG etB k<|AC (p:=(((List.replicate (5:Int).toNat false).set (0:Int).toNat ((ac a 0 59).2)).map etB).set (0+(1:Int).toNat) (an (etB g3) 0 [tB ((ac b 0 23).2)])=(((List.replicate (5:Int).toNat false).set (0:Int).toNat ((ac a 0 59).2)).set (1:Int).toNat ((ac b 0 23).2)).map etB) (cB (by rfl))<|AG etS l<|AD (ea g4 1 31 m n)<|AG etB o<|AC (p:=((((List.replicate (5:Int).toNat false).set (0:Int).toNat ((ac a 0 59).2)).set (1:Int).toNat ((ac b 0 23).2)).map etB).set (0+(2:Int).toNat) (an (etB D) 0 [tB ((ac g4 1 31).2)])=((((List.replicate (5:Int).toNat false).set (0:Int).toNat ((ac a 0 59).2)).set (1:Int).toNat ((ac b 0 23).2)).set (2:Int).toNat ((ac g4 1 31).2)).map etB) (cB (by rfl))<|AG etS q<|AD (ea c 1 12 s u)<|AG etB v<|AC (p:=(((((List.replicate (5:Int).toNat false).set (0:Int).toNat ((ac a 0 59).2)).set (1:Int).toNat ((ac b 0 23).2)).set (2:Int).toNat ((ac g4 1 31).2)).map etB).set (0+(3:Int).toNat) (an (etB F) 0 [tB ((ac c 1 12).2)])=(((((List.replicate (5:Int).toNat false).set (0:Int).toNat ((ac a 0 59).2)).set (1:Int).toNat ((ac b 0 23).2)).set (2:Int).toNat ((ac g4 1 31).2)).set (3:Int).toNat ((ac c 1 12).2)).map etB) (cB (by rfl))<|AG etS w<|AD (ea d 0 6 x z)<|AG etB A<|AC (p:=((((((List.replicate (5:Int).toNat false).set (0:Int).toNat ((ac a 0 59).2)).set (1:Int).toNat ((ac b 0 23).2)).set (2:Int).toNat ((ac g4 1 31).2)).set (3:Int).toNat ((ac c 1 12).2)).map etB).set (0+(4:Int).toNat) (an (etB G) 0 [tB ((ac d 0 6).2)])=((((((List.replicate (5:Int).toNat false).set (0:Int).toNat ((ac a 0 59).2)).set (1:Int).toNat ((ac b 0 23).2)).set (2:Int).toNat ((ac g4 1 31).2)).set (3:Int).toNat ((ac c 1 12).2)).set (4:Int).toNat ((ac d 0 6).2)).map etB) (cB (by rfl))<|AL j<|AN))
   |x0 =>have j:=H;exact NN (DP Tryz.f54 [.ret [(false,[.s .own () 1 (((aM x0).1).map etS)]),NX true],N2 (((aM x0).1).length:Int),.b false,.rows ((List.replicate (5:Int).toNat false).map etB),.row (etS a),.ret [(false,[.s .own () 1 (((ac a 0 59).1).map etI)]),NX ((ac a 0 59).2)],.row (etB g1),.rows (((List.replicate (5:Int).toNat false).set (0:Int).toNat ((ac a 0 59).2)).map etB),.row (etS b),.ret [(false,[.s .own () 1 (((ac b 0 23).1).map etI)]),NX ((ac b 0 23).2)],.row (etB g3),.rows ((((List.replicate (5:Int).toNat false).set (0:Int).toNat ((ac a 0 59).2)).set (1:Int).toNat ((ac b 0 23).2)).map etB),.row (etS g4),.ret [(false,[.s .own () 1 (((ac g4 1 31).1).map etI)]),NX ((ac g4 1 31).2)],.row (etB D),.rows (((((List.replicate (5:Int).toNat false).set (0:Int).toNat ((ac a 0 59).2)).set (1:Int).toNat ((ac b 0 23).2)).set (2:Int).toNat ((ac g4 1 31).2)).map etB),.row (etS c),.ret [(false,[.s .own () 1 (((ac c 1 12).1).map etI)]),NX ((ac c 1 12).2)],.row (etB F),.rows ((((((List.replicate (5:Int).toNat false).set (0:Int).toNat ((ac a 0 59).2)).set (1:Int).toNat ((ac b 0 23).2)).set (2:Int).toNat ((ac g4 1 31).2)).set (3:Int).toNat ((ac c 1 12).2)).map etB),.row (etS d),.ret [(false,[.s .own () 1 (((ac d 0 6).1).map etI)]),NX ((ac d 0 6).2)],.row (etB G),.rows (((((((List.replicate (5:Int).toNat false).set (0:Int).toNat ((ac a 0 59).2)).set (1:Int).toNat ((ac b 0 23).2)).set (2:Int).toNat ((ac g4 1 31).2)).set (3:Int).toNat ((ac c 1 12).2)).set (4:Int).toNat ((ac d 0 6).2)).map etB),.lp (.exit 0) (mw ([]) ([]) ([]) ([]) ([]) ((ac a 0 59).1) ((ac b 0 23).1) ((ac g4 1 31).1) ((ac c 1 12).1) ((ac d 0 6).1))] (AD (lY x0 C)<|ALn ((aM x0).1) etS<|AC I<|AC J<|AC (p:=List.replicate (5:Int).toNat [tB false]=(List.replicate (5:Int).toNat false).map etB) (qv rfl)<|AG etS K<|AD (ea a 0 59 L M)<|AG etB N<|AC (p:=((List.replicate (5:Int).toNat false).map etB).set (0+(0:Int).toNat) (an (etB g1) 0 [tB ((ac a 0 59).2)])=((List.replicate (5:Int).toNat false).set (0:Int).toNat ((ac a 0 59).2)).map etB) (cB (by rfl))<|AG etS O<|AD (ea b 0 23 P Q)<|AG etB k<|AC (p:=(((List.replicate (5:Int).toNat false).set (0:Int).toNat ((ac a 0 59).2)).map etB).set (0+(1:Int).toNat) (an (etB g3) 0 [tB ((ac b 0 23).2)])=(((List.replicate (5:Int).toNat false).set (0:Int).toNat ((ac a 0 59).2)).set (1:Int).toNat ((ac b 0 23).2)).map etB) (cB (by rfl))<|AG etS l<|AD (ea g4 1 31 m n)<|AG etB o<|AC (p:=((((List.replicate (5:Int).toNat false).set (0:Int).toNat ((ac a 0 59).2)).set (1:Int).toNat ((ac b 0 23).2)).map etB).set (0+(2:Int).toNat) (an (etB D) 0 [tB ((ac g4 1 31).2)])=((((List.replicate (5:Int).toNat false).set (0:Int).toNat ((ac a 0 59).2)).set (1:Int).toNat ((ac b 0 23).2)).set (2:Int).toNat ((ac g4 1 31).2)).map etB) (cB (by rfl))<|AG etS q<|AD (ea c 1 12 s u)<|AG etB v<|AC (p:=(((((List.replicate (5:Int).toNat false).set (0:Int).toNat ((ac a 0 59).2)).set (1:Int).toNat ((ac b 0 23).2)).set (2:Int).toNat ((ac g4 1 31).2)).map etB).set (0+(3:Int).toNat) (an (etB F) 0 [tB ((ac c 1 12).2)])=(((((List.replicate (5:Int).toNat false).set (0:Int).toNat ((ac a 0 59).2)).set (1:Int).toNat ((ac b 0 23).2)).set (2:Int).toNat ((ac g4 1 31).2)).set (3:Int).toNat ((ac c 1 12).2)).map etB) (cB (by rfl))<|AG etS w<|AD (ea d 0 6 x z)<|AG etB A<|AC (p:=((((((List.replicate (5:Int).toNat false).set (0:Int).toNat ((ac a 0 59).2)).set (1:Int).toNat ((ac b 0 23).2)).set (2:Int).toNat ((ac g4 1 31).2)).set (3:Int).toNat ((ac c 1 12).2)).map etB).set (0+(4:Int).toNat) (an (etB G) 0 [tB ((ac d 0 6).2)])=((((((List.replicate (5:Int).toNat false).set (0:Int).toNat ((ac a 0 59).2)).set (1:Int).toNat ((ac b 0 23).2)).set (2:Int).toNat ((ac g4 1 31).2)).set (3:Int).toNat ((ac c 1 12).2)).set (4:Int).toNat ((ac d 0 6).2)).map etB) (cB (by rfl))<|AL j<|AN))
 ·exact NN (DP Tryz.f54 [.ret [(false,[.s .own () 1 (((aM x0).1).map etS)]),NX false]] (AD (lY x0 C)<|AN))
inductive sC where|ret (v2_0 v2_1 v2_2 v2_3 v2_4:List Int) (v3:Bool)|x0 (v6_0 v6_1 v6_2 v6_3 v6_4:List Int)
def br (v2_0 v2_1 v2_2 v2_3 v2_4:List Int)(v4:List ByteArray)(v6_0 v6_1 v6_2 v6_3 v6_4:List Int)(a:Int):US:=stL 46 [(2,.box () [.s .own () 1 (v2_0.map etI),.s .own () 1 (v2_1.map etI),.s .own () 1 (v2_2.map etI),.s .own () 1 (v2_3.map etI),.s .own () 1 (v2_4.map etI)]),(4,.one (.s .own () 1 (v4.map etS))),(6,.box () [.s .own () 1 (v6_0.map etI),.s .own () 1 (v6_1.map etI),.s .own () 1 (v6_2.map etI),.s .own () 1 (v6_3.map etI),.s .own () 1 (v6_4.map etI)]),(24,.clo (.arr [0,1,2,3,4]) [6,6,6,6,6]),(25,NZ a)]
def dS (a b c d e:List Int)(f:Bool):US:=stL 46 [(2,.box () [.s .own () 1 (a.map etI),.s .own () 1 (b.map etI),.s .own () 1 (c.map etI),.s .own () 1 (d.map etI),.s .own () 1 (e.map etI)]),(3,N0 f)]
def mn (v2_0 v2_1 v2_2 v2_3 v2_4 a b c d e:List Int):US:=stL 46 [(2,.box () [.s .own () 1 (v2_0.map etI),.s .own () 1 (v2_1.map etI),.s .own () 1 (v2_2.map etI),.s .own () 1 (v2_3.map etI),.s .own () 1 (v2_4.map etI)]),(6,.box () [.s .own () 1 (a.map etI),.s .own () 1 (b.map etI),.s .own () 1 (c.map etI),.s .own () 1 (d.map etI),.s .own () 1 (e.map etI)])]
abbrev cG:US→Exit→US→Prop:=Round E 78 (aw Tryz.f78 0)
def Ad (v2_0 v2_1 v2_2 v2_3 v2_4:List Int)(v4:List ByteArray)(v6_0 v6_1 v6_2 v6_3 v6_4:List Int)(k:Int):sC→Prop| .ret a b c d e l=>Loops E 78 (aw Tryz.f78 0) (br v2_0 v2_1 v2_2 v2_3 v2_4 v4 v6_0 v6_1 v6_2 v6_3 v6_4 k) .ret (dS a b c d e l)| .x0 f g h i j=>Loops E 78 (aw Tryz.f78 0) (br v2_0 v2_1 v2_2 v2_3 v2_4 v4 v6_0 v6_1 v6_2 v6_3 v6_4 k) (.exit 0) (mn v2_0 v2_1 v2_2 v2_3 v2_4 f g h i j)
noncomputable def aN (v4:List ByteArray):Nat→(List Int)→(List Int)→(List Int)→(List Int)→(List Int)→Int→Option sC| 0,_,_,_,_,_,_=>none|n+1,v6_0,v6_1,v6_2,v6_3,v6_4,a=>cond (decide (a<(5:Int))) (cond (a==(0:Int)) ((ap v4 a).bind fun b=>if b.size≤2000000 then cond ((aP b a).2) (aN v4 n ((aP b a).1) v6_1 v6_2 v6_3 v6_4 (inc a)) (some (.ret ([]) ([]) ([]) ([]) ([]) false))else none) (cond (a==(1:Int)) ((ap v4 a).bind fun b=>if b.size≤2000000 then cond ((aP b a).2) (aN v4 n v6_0 ((aP b a).1) v6_2 v6_3 v6_4 (inc a)) (some (.ret ([]) ([]) ([]) ([]) ([]) false))else none) (cond (a==(2:Int)) ((ap v4 a).bind fun b=>if b.size≤2000000 then cond ((aP b a).2) (aN v4 n v6_0 v6_1 ((aP b a).1) v6_3 v6_4 (inc a)) (some (.ret ([]) ([]) ([]) ([]) ([]) false))else none) (cond (a==(3:Int)) ((ap v4 a).bind fun b=>if b.size≤2000000 then cond ((aP b a).2) (aN v4 n v6_0 v6_1 v6_2 ((aP b a).1) v6_4 (inc a)) (some (.ret ([]) ([]) ([]) ([]) ([]) false))else none) (if a=(4:Int)then(ap v4 a).bind fun b=>if b.size≤2000000 then cond ((aP b a).2) (aN v4 n v6_0 v6_1 v6_2 v6_3 ((aP b a).1) (inc a)) (some (.ret ([]) ([]) ([]) ([]) ([]) false))else none else none))))) (some (.x0 v6_0 v6_1 v6_2 v6_3 v6_4))
theorem Ac (v2_0 v2_1 v2_2 v2_3 v2_4:List Int)(v4:List ByteArray)(n:Nat):∀(v6_0 v6_1 v6_2 v6_3 v6_4:List Int)(a:Int),Ans (aN v4 n v6_0 v6_1 v6_2 v6_3 v6_4 a) (Ad v2_0 v2_1 v2_2 v2_3 v2_4 v4 v6_0 v6_1 v6_2 v6_3 v6_4 a):=by
 induction n with
 |zero=>intros;exact Ans.none
 |succ n j =>
  intro v6_0 v6_1 v6_2 v6_3 v6_4 a;unfold aN;apply NQ<;>intro c
  ·apply NQ<;>intro m
   ·refine NR (fun b k => ?_);refine NS (fun g => ?_);apply NQ<;>intro d
    ·have r:cG (br v2_0 v2_1 v2_2 v2_3 v2_4 v4 v6_0 v6_1 v6_2 v6_3 v6_4 a) .normal (br v2_0 v2_1 v2_2 v2_3 v2_4 v4 ((aP b a).1) v6_1 v6_2 v6_3 v6_4 (inc a)):=RP [.b true,N2 0,.row (etS b),.ret [(false,[.s .own () 1 (((aP b a).1).map etI)]),NX true]] (AC c<|AC (p:=a=(0:Int)) (eq_of_beq m)<|AG etS k<|AD (co b a g d)<|AN);exact(j ((aP b a).1) v6_1 v6_2 v6_3 v6_4 (inc a)).mono fun y f=>by cases y<;>exact NO r f
    ·exact NN (NP (show cG (br v2_0 v2_1 v2_2 v2_3 v2_4 v4 v6_0 v6_1 v6_2 v6_3 v6_4 a) .ret (dS ([]) ([]) ([]) ([]) ([]) false)from RP [.b true,N2 0,.row (etS b),.ret [(false,[.s .own () 1 (((aP b a).1).map etI)]),NX false]] (AC c<|AC (p:=a=(0:Int)) (eq_of_beq m)<|AG etS k<|AD (co b a g d)<|AN)) (by intro h;cases h))
   ·apply NQ<;>intro k
    ·refine NR (fun b g => ?_);refine NS (fun d => ?_);apply NQ<;>intro e
     ·have r:cG (br v2_0 v2_1 v2_2 v2_3 v2_4 v4 v6_0 v6_1 v6_2 v6_3 v6_4 a) .normal (br v2_0 v2_1 v2_2 v2_3 v2_4 v4 v6_0 ((aP b a).1) v6_2 v6_3 v6_4 (inc a)):=RP [.b true,N2 1,.row (etS b),.ret [(false,[.s .own () 1 (((aP b a).1).map etI)]),NX true]] (AC c<|AC (p:=a=(1:Int)) (eq_of_beq k)<|AG etS g<|AD (co b a d e)<|AN);exact(j v6_0 ((aP b a).1) v6_2 v6_3 v6_4 (inc a)).mono fun y f=>by cases y<;>exact NO r f
     ·exact NN (NP (show cG (br v2_0 v2_1 v2_2 v2_3 v2_4 v4 v6_0 v6_1 v6_2 v6_3 v6_4 a) .ret (dS ([]) ([]) ([]) ([]) ([]) false)from RP [.b true,N2 1,.row (etS b),.ret [(false,[.s .own () 1 (((aP b a).1).map etI)]),NX false]] (AC c<|AC (p:=a=(1:Int)) (eq_of_beq k)<|AG etS g<|AD (co b a d e)<|AN)) (by intro h;cases h))
    ·apply NQ<;>intro g
     ·refine NR (fun b d => ?_);refine NS (fun e => ?_);apply NQ<;>intro i
      ·have r:cG (br v2_0 v2_1 v2_2 v2_3 v2_4 v4 v6_0 v6_1 v6_2 v6_3 v6_4 a) .normal (br v2_0 v2_1 v2_2 v2_3 v2_4 v4 v6_0 v6_1 ((aP b a).1) v6_3 v6_4 (inc a)):=RP [.b true,N2 2,.row (etS b),.ret [(false,[.s .own () 1 (((aP b a).1).map etI)]),NX true]] (AC c<|AC (p:=a=(2:Int)) (eq_of_beq g)<|AG etS d<|AD (co b a e i)<|AN);exact(j v6_0 v6_1 ((aP b a).1) v6_3 v6_4 (inc a)).mono fun y f=>by cases y<;>exact NO r f
      ·exact NN (NP (show cG (br v2_0 v2_1 v2_2 v2_3 v2_4 v4 v6_0 v6_1 v6_2 v6_3 v6_4 a) .ret (dS ([]) ([]) ([]) ([]) ([]) false)from RP [.b true,N2 2,.row (etS b),.ret [(false,[.s .own () 1 (((aP b a).1).map etI)]),NX false]] (AC c<|AC (p:=a=(2:Int)) (eq_of_beq g)<|AG etS d<|AD (co b a e i)<|AN)) (by intro h;cases h))
     ·apply NQ<;>intro d
      ·refine NR (fun b e => ?_);refine NS (fun i => ?_);apply NQ<;>intro l
       ·have r:cG (br v2_0 v2_1 v2_2 v2_3 v2_4 v4 v6_0 v6_1 v6_2 v6_3 v6_4 a) .normal (br v2_0 v2_1 v2_2 v2_3 v2_4 v4 v6_0 v6_1 v6_2 ((aP b a).1) v6_4 (inc a)):=RP [.b true,N2 3,.row (etS b),.ret [(false,[.s .own () 1 (((aP b a).1).map etI)]),NX true]] (AC c<|AC (p:=a=(3:Int)) (eq_of_beq d)<|AG etS e<|AD (co b a i l)<|AN);exact(j v6_0 v6_1 v6_2 ((aP b a).1) v6_4 (inc a)).mono fun y f=>by cases y<;>exact NO r f
       ·exact NN (NP (show cG (br v2_0 v2_1 v2_2 v2_3 v2_4 v4 v6_0 v6_1 v6_2 v6_3 v6_4 a) .ret (dS ([]) ([]) ([]) ([]) ([]) false)from RP [.b true,N2 3,.row (etS b),.ret [(false,[.s .own () 1 (((aP b a).1).map etI)]),NX false]] (AC c<|AC (p:=a=(3:Int)) (eq_of_beq d)<|AG etS e<|AD (co b a i l)<|AN)) (by intro h;cases h))
      ·refine NS (fun e => ?_);refine NR (fun b i => ?_);refine NS (fun l => ?_);apply NQ<;>intro o
       ·have r:cG (br v2_0 v2_1 v2_2 v2_3 v2_4 v4 v6_0 v6_1 v6_2 v6_3 v6_4 a) .normal (br v2_0 v2_1 v2_2 v2_3 v2_4 v4 v6_0 v6_1 v6_2 v6_3 ((aP b a).1) (inc a)):=RP [.b true,N2 4,.row (etS b),.ret [(false,[.s .own () 1 (((aP b a).1).map etI)]),NX true]] (AC c<|AC e<|AG etS i<|AD (co b a l o)<|AN);exact(j v6_0 v6_1 v6_2 v6_3 ((aP b a).1) (inc a)).mono fun y f=>by cases y<;>exact NO r f
       ·exact NN (NP (show cG (br v2_0 v2_1 v2_2 v2_3 v2_4 v4 v6_0 v6_1 v6_2 v6_3 v6_4 a) .ret (dS ([]) ([]) ([]) ([]) ([]) false)from RP [.b true,N2 4,.row (etS b),.ret [(false,[.s .own () 1 (((aP b a).1).map etI)]),NX false]] (AC c<|AC e<|AG etS i<|AD (co b a l o)<|AN)) (by intro h;cases h))
  ·exact NN (NP (show cG (br v2_0 v2_1 v2_2 v2_3 v2_4 v4 v6_0 v6_1 v6_2 v6_3 v6_4 a) (.exit 0) (mn v2_0 v2_1 v2_2 v2_3 v2_4 v6_0 v6_1 v6_2 v6_3 v6_4)from RP [.b false] (AC c<|AN)) (by intro h;cases h))
noncomputable def l3 (x0:ByteArray):Option (GCron×Bool):=
  cond ((aM x0).2)
   (cond ((((aM x0).1).length:Int) != 5)
    (some ((GCron.mk ([]:List Int) ([]:List Int) ([]:List Int) ([]:List Int) ([]:List Int)),false))
    ((aN ((aM x0).1) 9223372036854775808 ([]) ([]) ([]) ([]) ([]) 0).bind fun y=>match y with
     | .ret a b c d e k=>(some ((GCron.mk a b c d e),k))
     | .x0 f g h i j=>(some ((GCron.mk f g h i j),true))))
   (some ((GCron.mk ([]:List Int) ([]:List Int) ([]:List Int) ([]:List Int) ([]:List Int)),false))
theorem B2 (x0:ByteArray):Ans (l3 x0) (fun r=>Does E 78 [N1 x0] [(true,GCron.t .own r.1),NX r.2]):=by
 unfold l3;apply NQ<;>intro l
 ·apply NQ<;>intro n
  ·exact NN (DP Tryz.f78 [.ret [(false,[.s .own () 1 (((aM x0).1).map etS)]),NX true],N2 (((aM x0).1).length:Int),.b true] (AD (lX x0 l)<|ALn ((aM x0).1) etS<|AC n<|AN))
  ·refine NR (fun y m => ?_);replace m:=Ac ([]) ([]) ([]) ([]) ([]) ((aM x0).1) 9223372036854775808 ([]) ([]) ([]) ([]) ([]) 0 y m;cases y with
   |ret a b c d e k =>have o:=m;exact NN (DP Tryz.f78 [.ret [(false,[.s .own () 1 (((aM x0).1).map etS)]),NX true],N2 (((aM x0).1).length:Int),.b false,.lp .ret (dS a b c d e k)] (AD (lX x0 l)<|ALn ((aM x0).1) etS<|AC n<|AL o<|AN))
   |x0 f g h i j =>have o:=m;exact NN (DP Tryz.f78 [.ret [(false,[.s .own () 1 (((aM x0).1).map etS)]),NX true],N2 (((aM x0).1).length:Int),.b false,.lp (.exit 0) (mn ([]) ([]) ([]) ([]) ([]) f g h i j)] (AD (lX x0 l)<|ALn ((aM x0).1) etS<|AC n<|AL o<|AN))
 ·exact NN (DP Tryz.f78 [.ret [(false,[.s .own () 1 (((aM x0).1).map etS)]),NX false]] (AD (lX x0 l)<|AN))
def noCron:GCron:=⟨[],[],[],[],[]⟩
noncomputable def tp (a b c d e:ByteArray):GCron×Bool :=cond (ac a 0 59).2 (cond (ac b 0 23).2 (cond (ac c 1 31).2 (cond (ac d 1 12).2 (cond (ac e 0 6).2 (⟨(ac a 0 59).1,(ac b 0 23).1,(ac c 1 31).1,(ac d 1 12).1,(ac e 0 6).1⟩,true) (noCron,false)) (noCron,false)) (noCron,false)) (noCron,false)) (noCron,false)
noncomputable def Dk:List ByteArray→GCron×Bool|[a,b,c,d,e]=>tp a b c d e|_=>(noCron,false)
noncomputable def au (s:ByteArray):GCron×Bool:=Dk (aM s).1
theorem zk {s:ByteArray}(h:(aM s).2=false):(aM s).1=[]:=by
 unfold aM at h ⊢;split
 ·rfl
 ·rename_i a;rw[Oh a]at h;split
  ·rename_i b;rw[N5 b]at h;split
   ·rfl
   ·rename_i c;rw[Oh c]at h;cases h
  ·rfl
theorem K7 {α:Type}{l:List α}(h:l.length=5):∃a b c d e,l=[a,b,c,d,e]:=by
 match l,h with
 |[a,b,c,d,e],_=>exact⟨a,b,c,d,e,rfl⟩
theorem ve {l:List ByteArray}(h:l.length≠5):Dk l=(noCron,false):=by
 unfold Dk;split
 ·exact absurd rfl h
 ·rfl
theorem MC (a b c d e:Bool)(n:Nat):gX [a,b,c,d,e] (n+6) 0=some (cond a (cond b (cond c (cond d (cond e .x0 (.ret [] [] [] [] [] false)) (.ret [] [] [] [] [] false)) (.ret [] [] [] [] [] false)) (.ret [] [] [] [] [] false)) (.ret [] [] [] [] [] false)):=by cases a<;>cases b<;>cases c<;>cases d<;>cases e<;>rfl
theorem L5 (s:ByteArray):md s=some (au s):=by
 unfold md au;cases q:(aM s).2 with
 |false =>rw[zk q];rfl
 |true =>
  rw[Om];by_cases h:(aM s).1.length=5
  ·obtain⟨a,b,c,d,e,i⟩:=K7 h;have f:∀p∈[a,b,c,d,e],p.size≤2000000:=fun p j=>by rw[←i]at j;have:=rN j;omega
   have k:(a.size≤2000000)=True:=Qa (f a (by simp));have hb:(b.size≤2000000)=True:=Qa (f b (by simp));have hc:(c.size≤2000000)=True:=Qa (f c (by simp));have hd:(d.size≤2000000)=True:=Qa (f d (by simp));have l:(e.size≤2000000)=True:=Qa (f e (by simp));have g:((([a,b,c,d,e]:List ByteArray).length:Int) != 5)=false:=rfl;rw[i,g,Ou,N5 (by decide)];have m:ap [a,b,c,d,e] (0:Int)=some a:=rfl;have g1:ap [a,b,c,d,e] (1:Int)=some b:=rfl;have n:ap [a,b,c,d,e] (2:Int)=some c:=rfl;have g3:ap [a,b,c,d,e] (3:Int)=some d:=rfl;have g4:ap [a,b,c,d,e] (4:Int)=some e:=rfl;have o:((0:Int)≤0∧(0:Int)≤59∧(59:Int)≤59)=True:=Qa (by decide);have r:((0:Int)≤0∧(0:Int)≤23∧(23:Int)≤59)=True:=Qa (by decide);have t:((0:Int)≤1∧(1:Int)≤31∧(31:Int)≤59)=True:=Qa (by decide);have u:((0:Int)≤1∧(1:Int)≤12∧(12:Int)≤59)=True:=Qa (by decide);have v:((0:Int)≤0∧(0:Int)≤6∧(6:Int)≤59)=True:=Qa (by decide);simp only[m,g1,n,g3,g4,N4,k,hb,hc,hd,l,o,r,t,u,v,OH];show(gX [(ac a 0 59).2,(ac b 0 23).2,(ac c 1 31).2,(ac d 1 12).2,(ac e 0 6).2] (9223372036854775802+6) 0).bind _=some (tp a b c d e);rw[MC];unfold tp;cases(ac a 0 59).2<;>cases(ac b 0 23).2<;>cases(ac c 1 31).2<;>cases(ac d 1 12).2<;>cases(ac e 0 6).2<;>rfl
  ·have g:(((aM s).1.length:Int) != 5)=true:=by rw[Q5];omega
   rw[g,Om,ve h];rfl
theorem L4 (s:ByteArray):l3 s=some (au s):=by
 unfold l3 au;cases q:(aM s).2 with
 |false =>rw[zk q];rfl
 |true =>
  rw[Om];by_cases h:(aM s).1.length=5
  ·obtain⟨a,b,c,d,e,i⟩:=K7 h;have f:∀p∈[a,b,c,d,e],p.size≤2000000:=fun p j=>by rw[←i]at j;have:=rN j;omega
   have g:((([a,b,c,d,e]:List ByteArray).length:Int) != 5)=false:=rfl;rw[i,g,Ou];have k:∀n v0 v1 v2 v3 v4,aN [a,b,c,d,e] (n+1) v0 v1 v2 v3 v4 0=cond (ac a 0 59).2 (aN [a,b,c,d,e] n (ac a 0 59).1 v1 v2 v3 v4 1) (some (.ret [] [] [] [] [] false)):=fun n v0 v1 v2 v3 v4=>by
    conv=>lhs;unfold aN
    show(if a.size≤2000000 then _ else none)=_;rw[N5 (f a (by simp))];rfl
   have l:∀n v0 v1 v2 v3 v4,aN [a,b,c,d,e] (n+1) v0 v1 v2 v3 v4 1=cond (ac b 0 23).2 (aN [a,b,c,d,e] n v0 (ac b 0 23).1 v2 v3 v4 2) (some (.ret [] [] [] [] [] false)):=fun n v0 v1 v2 v3 v4=>by
    conv=>lhs;unfold aN
    show(if b.size≤2000000 then _ else none)=_;rw[N5 (f b (by simp))];rfl
   have m:∀n v0 v1 v2 v3 v4,aN [a,b,c,d,e] (n+1) v0 v1 v2 v3 v4 2=cond (ac c 1 31).2 (aN [a,b,c,d,e] n v0 v1 (ac c 1 31).1 v3 v4 3) (some (.ret [] [] [] [] [] false)):=fun n v0 v1 v2 v3 v4=>by
    conv=>lhs;unfold aN
    show(if c.size≤2000000 then _ else none)=_;rw[N5 (f c (by simp))];rfl
   have o:∀n v0 v1 v2 v3 v4,aN [a,b,c,d,e] (n+1) v0 v1 v2 v3 v4 3=cond (ac d 1 12).2 (aN [a,b,c,d,e] n v0 v1 v2 (ac d 1 12).1 v4 4) (some (.ret [] [] [] [] [] false)):=fun n v0 v1 v2 v3 v4=>by
    conv=>lhs;unfold aN
    show(if d.size≤2000000 then _ else none)=_;rw[N5 (f d (by simp))];rfl
   have r:∀n v0 v1 v2 v3 v4,aN [a,b,c,d,e] (n+1) v0 v1 v2 v3 v4 4=cond (ac e 0 6).2 (aN [a,b,c,d,e] n v0 v1 v2 v3 (ac e 0 6).1 5) (some (.ret [] [] [] [] [] false)):=fun n v0 v1 v2 v3 v4=>by
    conv=>lhs;unfold aN
    show(if(4:Int)=4 then(if e.size≤2000000 then _ else none)else none)=_;rw[N5 rfl,N5 (f e (by simp))];rfl
   have t:∀n v0 v1 v2 v3 v4,aN [a,b,c,d,e] (n+1) v0 v1 v2 v3 v4 5=some (.x0 v0 v1 v2 v3 v4):=fun n v0 v1 v2 v3 v4=>rfl
   have st:aN [a,b,c,d,e] (9223372036854775802+6) [] [] [] [] [] 0=_:=k _ _ _ _ _ _;rw[l,m,o,r,t]at st;refine(Ov (Option.bind · _) st).trans ?_;show _=some (tp a b c d e);unfold tp;cases(ac a 0 59).2<;>cases(ac b 0 23).2<;>cases(ac c 1 31).2<;>cases(ac d 1 12).2<;>cases(ac e 0 6).2<;>rfl
  ·have g:(((aM s).1.length:Int) != 5)=true:=by rw[Q5];omega
   rw[g,Om,ve h];rfl
theorem sv {lo hi:Int}{s:ByteArray}(hs:s.size≤2000000)(hb:0≤lo∧lo≤hi∧hi≤59):ae.sm (ac s lo hi).1:=by
 rcases(xQ s lo hi hs hb).2.1 with h|h
 ·rw[h.2];exact⟨by decide,fun y a=>by cases a⟩
 ·exact⟨by have:=h.2.2.2.2;omega,fun y a=>trivial⟩
theorem BI:ae.sm noCron:=⟨⟨by decide,fun y a=>by cases a⟩,⟨by decide,fun y a=>by cases a⟩,⟨by decide,fun y a=>by cases a⟩,⟨by decide,fun y a=>by cases a⟩,⟨by decide,fun y a=>by cases a⟩⟩
theorem Ex (s:ByteArray):ae.sm (au s).1:=by
 unfold au;by_cases h:(aM s).1.length=5
 ·obtain⟨a,b,c,d,e,g⟩:=K7 h;have f:∀p∈[a,b,c,d,e],p.size≤2000000:=fun p i=>by rw[←g]at i;have:=rN i;omega
  rw[g];show ae.sm (tp a b c d e).1;unfold tp;have:=sv (lo:=0) (hi:=59) (f a (by simp)) (by decide);have:=sv (lo:=0) (hi:=23) (f b (by simp)) (by decide);have:=sv (lo:=1) (hi:=31) (f c (by simp)) (by decide);have:=sv (lo:=1) (hi:=12) (f d (by simp)) (by decide);have:=sv (lo:=0) (hi:=6) (f e (by simp)) (by decide);cases(ac a 0 59).2<;>cases(ac b 0 23).2<;>cases(ac c 1 31).2<;>cases(ac d 1 12).2<;>cases(ac e 0 6).2<;>first|exact BI|exact⟨by assumption,by assumption,by assumption,by assumption,by assumption⟩
 ·rw[ve h];exact BI
theorem oS (x0:ByteArray):Does E 54 [N1 x0] [(true,GCron.t .own ((au x0).1)),NX ((au x0).2)]:=by exact Ck x0 _ (L5 x0)
theorem eW (x0:ByteArray){b:Bool}(a:(au x0).2=b):Does E 54 [N1 x0] [(true,GCron.t .own ((au x0).1)),NX b]:=by rw[←a];exact oS x0
theorem BQ (x0:ByteArray):Does E 78 [N1 x0] [(true,GCron.t .own ((au x0).1)),NX ((au x0).2)]:=by exact B2 x0 _ (L4 x0)
theorem qM (x0:ByteArray){b:Bool}(a:(au x0).2=b):Does E 78 [N1 x0] [(true,GCron.t .own ((au x0).1)),NX b]:=by rw[←a];exact BQ x0
inductive zw where|ret (v4:Bool)|x0
def lq (v0:List Int)(v1 v5:Int):US:=stL 18 [(0,.one (.s .far () 1 (v0.map etI))),(1,NZ v1),(5,NZ v5)]
def pj (a:Bool):US:=stL 18 [(4,N0 a)]
def qC  : US:=stL 18 []
abbrev uc:US→Exit→US→Prop:=Round E 59 (aw Tryz.f59 0)
def IE (v0:List Int)(v1 v5:Int):zw→Prop| .ret a=>Loops E 59 (aw Tryz.f59 0) (lq v0 v1 v5) .ret (pj a)| .x0=>Loops E 59 (aw Tryz.f59 0) (lq v0 v1 v5) (.exit 0) (qC)
noncomputable def jK (v1:Int):List Int→Nat→Option zw|[],i=>some (.x0)|hd::rest,i=>cond (hd==v1) (some (.ret true)) (jK v1 rest (i+1))
theorem ID (v0:List Int)(v1:Int)(rest:List Int):∀(i:Nat) ,(v0).drop i=rest→v0.length≤9223372036854775807→Ans (jK v1 rest i) (IE v0 v1 (i:Int)):=by
 induction rest with
 |nil =>intro i a b;have hb:=bw a;unfold jK;exact NN (NP (show uc (lq v0 v1 (i:Int)) (.exit 0) (qC)from RP [N2 (v0.length:Int),.b false] (ALn v0 etI<|AC hb<|AN)) (by intro h;cases h))
 |cons hd rest f =>
  intro i a b;have hb:=a8 a;have g:=ba a b;have c:=aG a;have d:=bc a;unfold jK;apply NQ<;>intro e
  ·exact NN (NP (show uc (lq v0 v1 (i:Int)) .ret (pj true)from RP [N2 (v0.length:Int),.b true,.row (etI hd),.b true] (ALn v0 etI<|AC hb<|AR etI d<|AC e<|AN)) (by intro h;cases h))
  ·exact(f (i+1) c b).mono fun y j=>by have r:uc (lq v0 v1 (i:Int)) .normal (lq v0 v1 (inc (i:Int))):=RP [N2 (v0.length:Int),.b true,.row (etI hd),.b false] (ALn v0 etI<|AC hb<|AR etI d<|AC e<|AN);rw[g]at r;cases y<;>exact NO r j
noncomputable def wo (x0:List Int)(b:Int):Option (Bool):=
  if x0.length≤9223372036854775807 then(jK b x0 0).bind fun y=>match y with
   | .ret a=>(some (a))
   | .x0=>(some (false))else none
theorem Kl (x0:List Int)(c:Int):Ans (wo x0 c) (fun r=>Does E 59 [.one (.s .far () 1 (x0.map etI)),NZ c] [NX r]):=by
 unfold wo;refine NS (fun d => ?_);refine NR (fun y b => ?_);replace b:=ID x0 c x0 0 rfl d y b;cases y with
 |ret a =>have e:=b;exact NN (DP Tryz.f59 [.lp .ret (pj a)] (AL e<|AN))
 |x0 =>have e:=b;exact NN (DP Tryz.f59 [.lp (.exit 0) (qC)] (AL e<|AN))
def cH (l:List Int)(x:Int):Bool:=l.any fun y=>y==x
theorem JM (x:Int):∀(rest:List Int)(i:Nat),jK x rest i=some (if cH rest x=true then .ret true else .x0)
 |[],i=>rfl
 |y::rest,i=>by unfold jK;rw[JM x rest (i+1)];unfold cH;rw[Q6];cases y==x<;>rfl
theorem qP (x0:List Int)(a:Int)(h:x0.length≤1050000):Does E 59 [.one (.s .far () 1 (x0.map etI)),NZ a] [NX (cH x0 a)]:=by exact Kl x0 a _ (by unfold wo;rw[N5 (by omega),JM];cases q:cH x0 a<;>rfl)
inductive nK where|ret (v4:Int)|x0
def d9 (v0:List Int)(v1 v7 v8:Int):US:=stL 19 [(0,.one (.s .far () 1 (v0.map etI))),(1,NZ v1),(7,NZ v7),(8,NZ v8)]
def iW (a:Int):US:=stL 19 [(4,NZ a)]
def jm  : US:=stL 19 []
abbrev kj:US→Exit→US→Prop:=Round E 99 (aw Tryz.f99 0)
def uS (v0:List Int)(v1 v7 v8:Int):nK→Prop| .ret a=>Loops E 99 (aw Tryz.f99 0) (d9 v0 v1 v7 v8) .ret (iW a)| .x0=>Loops E 99 (aw Tryz.f99 0) (d9 v0 v1 v7 v8) (.exit 0) (jm)
noncomputable def cE (v1:Int):List Int→Nat→Option nK|[],i=>some (.x0)|hd::rest,i=>cond (v1==hd) (some (.ret (i:Int))) (cE v1 rest (i+1))
theorem uR (v0:List Int)(v1:Int)(rest:List Int):∀(i:Nat) ,(v0).drop i=rest→v0.length≤9223372036854775807→Ans (cE v1 rest i) (uS v0 v1 (v0.length:Int) (i:Int)):=by
 induction rest with
 |nil =>intro i a b;have hb:=bw a;unfold cE;exact NN (NP (show kj (d9 v0 v1 (v0.length:Int) (i:Int)) (.exit 0) (jm)from RP [.b false] (AC hb<|AN)) (by intro h;cases h))
 |cons hd rest f =>
  intro i a b;have hb:=a8 a;have g:=ba a b;have c:=aG a;have d:=bc a;unfold cE;apply NQ<;>intro e
  ·exact NN (NP (show kj (d9 v0 v1 (v0.length:Int) (i:Int)) .ret (iW (i:Int))from RP [.b true,.row (etI hd),.b true] (AC hb<|AR etI d<|AC e<|AN)) (by intro h;cases h))
  ·exact(f (i+1) c b).mono fun y j=>by have r:kj (d9 v0 v1 (v0.length:Int) (i:Int)) .normal (d9 v0 v1 (v0.length:Int) (inc (i:Int))):=RP [.b true,.row (etI hd),.b false] (AC hb<|AR etI d<|AC e<|AN);rw[g]at r;cases y<;>exact NO r j
noncomputable def eQ (x0:List Int)(b:Int):Option (Int):=
  if x0.length≤9223372036854775807 then(cE b x0 0).bind fun y=>match y with
   | .ret a=>(some (a))
   | .x0=>(some ((-1:Int)))else none
theorem wx (x0:List Int)(c:Int):Ans (eQ x0 c) (fun r=>Does E 99 [.one (.s .far () 1 (x0.map etI)),NZ c] [NW r]):=by
 unfold eQ;refine NS (fun d => ?_);refine NR (fun y b => ?_);replace b:=uR x0 c x0 0 rfl d y b;cases y with
 |ret a =>have e:=b;exact NN (DP Tryz.f99 [N2 (x0.length:Int),.lp .ret (iW a)] (ALn x0 etI<|AL e<|AN))
 |x0 =>have e:=b;exact NN (DP Tryz.f99 [N2 (x0.length:Int),.lp (.exit 0) (jm)] (ALn x0 etI<|AL e<|AN))
noncomputable def xX (l:List Int)(x:Int):Int:=(eQ l x).getD (-1)
theorem Lz (x:Int):∀(rest:List Int)(i:Nat),(∃k:Nat,cE x rest i=some (.ret (k:Int))∧cH rest x=true)∨cE x rest i=some .x0∧cH rest x=false
 |[],i => .inr ⟨rfl,rfl⟩
 |y::rest,i=>by
  have e:(x==y)=(y==x):=by cases q:y==x with|true=>rw[eq_of_beq q];simp|false=>exact O3.2 fun e=>by rw[e]at q;simp at q
  unfold cE cH;rw[Q6,e];cases y==x with
  |true=>exact .inl ⟨i,rfl,rfl⟩
  |false=>exact Lz x rest (i+1)
theorem JJ (l:List Int)(x:Int)(h:l.length≤1050000):eQ l x=some (xX l x)∧decide (xX l x≥(0:Int))=cH l x:=by
 have e:∃r,eQ l x=some r∧decide (r≥(0:Int))=cH l x:=by
  unfold eQ;rw[N5 (by omega)];rcases Lz x l 0 with⟨k,a,b⟩|⟨a,b⟩
  ·exact⟨(k:Int),by rw[a];rfl,by rw[b];exact Of (by omega)⟩
  ·exact⟨-1,by rw[a];rfl,by rw[b];rfl⟩
 obtain⟨r,a,b⟩:=e;have p:xX l x=r:=by unfold xX;rw[a];rfl
 rw[p];exact⟨a,b⟩
theorem u4 (x0:List Int)(a:Int)(h:x0.length≤1050000):Does E 99 [.one (.s .far () 1 (x0.map etI)),NZ a] [NW (xX x0 a)]:=by exact wx x0 a _ (JJ x0 a h).1
noncomputable def jl (x0:List Int)(a:Int):Option (Bool):=if x0.length≤1050000 then some (decide ((xX x0 a)≥(0:Int)))else none
theorem sW (x0:List Int)(a:Int):Ans (jl x0 a) (fun r=>Does E 84 [.one (.s .far () 1 (x0.map etI)),NZ a] [NX r]):=by unfold jl;refine NS (fun b => ?_);exact NN (DP Tryz.f84 [.ret [NW (xX x0 a)]] (AD (u4 x0 a b)<|AN))
theorem fZ (x0:List Int)(a:Int)(h:x0.length≤1050000):Does E 84 [.one (.s .far () 1 (x0.map etI)),NZ a] [NX (cH x0 a)]:=by
 exact sW x0 a _ (by
  unfold jl;try rw[N5 h]
  rw[(JJ x0 a h).2])
inductive wq where|ret (v6:Bool)|x0
def fe (v0:List Int)(v1 v2 v7:Int):US:=stL 41 [(0,.one (.s .far () 1 (v0.map etI))),(1,NZ v1),(2,NZ v2),(7,NZ v7)]
def kw (a:Bool):US:=stL 41 [(6,N0 a)]
def of (v0:List Int):US:=stL 41 [(0,.one (.s .far () 1 (v0.map etI)))]
abbrev kO:US→Exit→US→Prop:=Round E 90 (aw Tryz.f90 0)
def EV (v0:List Int)(v1 v2 v7:Int):wq→Prop| .ret a=>Loops E 90 (aw Tryz.f90 0) (fe v0 v1 v2 v7) .ret (kw a)| .x0=>Loops E 90 (aw Tryz.f90 0) (fe v0 v1 v2 v7) (.exit 0) (of v0)
noncomputable def fU (v0:List Int)(v1 v2:Int):List Int→Nat→Option wq|[],i=>some (.x0)|hd::rest,i=>cond (ag hd v1 v2) (cond (decide ((i:Int)>(0:Int))) ((ap v0 (IntKind.wrap .i64 ((i:Int)-(1:Int)))).bind fun g1=>cond (decide (g1≥hd)) (some (.ret false)) (fU v0 v1 v2 rest (i+1))) (fU v0 v1 v2 rest (i+1))) (some (.ret false))
theorem EU (v0:List Int)(v1 v2:Int)(rest:List Int):∀(i:Nat) ,(v0).drop i=rest→v0.length≤9223372036854775807→Ans (fU v0 v1 v2 rest i) (EV v0 v1 v2 (i:Int)):=by
 induction rest with
 |nil =>intro i a d;have hb:=bw a;unfold fU;exact NN (NP (show kO (fe v0 v1 v2 (i:Int)) (.exit 0) (of v0)from RP [N2 (v0.length:Int),.b false] (ALn v0 etI<|AC hb<|AN)) (by intro h;cases h))
 |cons hd rest j =>
  intro i a d;have hb:=a8 a;have k:=ba a d;have c:=aG a;have b:=bc a;unfold fU;apply NQ<;>intro e
  ·apply NQ<;>intro f
   ·refine NR (fun g1 l => ?_);apply NQ<;>intro m
    ·exact NN (NP (show kO (fe v0 v1 v2 (i:Int)) .ret (kw false)from RP [N2 (v0.length:Int),.b true,.row (etI hd),rT,.b true,.row (etI g1),.row (etI hd),.b true] (ALn v0 etI<|AC hb<|AR etI b<|AD (NV (ah hd v1 v2) e)<|AC f<|AR etI l<|AR etI b<|AC m<|AN)) (by intro h;cases h))
    ·exact(j (i+1) c d).mono fun y g=>by have r:kO (fe v0 v1 v2 (i:Int)) .normal (fe v0 v1 v2 (inc (i:Int))):=RP [N2 (v0.length:Int),.b true,.row (etI hd),rT,.b true,.row (etI g1),.row (etI hd),.b false] (ALn v0 etI<|AC hb<|AR etI b<|AD (NV (ah hd v1 v2) e)<|AC f<|AR etI l<|AR etI b<|AC m<|AN);rw[k]at r;cases y<;>exact NO r g
   ·exact(j (i+1) c d).mono fun y g=>by have r:kO (fe v0 v1 v2 (i:Int)) .normal (fe v0 v1 v2 (inc (i:Int))):=RP [N2 (v0.length:Int),.b true,.row (etI hd),rT,.b false] (ALn v0 etI<|AC hb<|AR etI b<|AD (NV (ah hd v1 v2) e)<|AC f<|AN);rw[k]at r;cases y<;>exact NO r g
  ·exact NN (NP (show kO (fe v0 v1 v2 (i:Int)) .ret (kw false)from RP [N2 (v0.length:Int),.b true,.row (etI hd),rF] (ALn v0 etI<|AC hb<|AR etI b<|AD (NV (ah hd v1 v2) e)<|AN)) (by intro h;cases h))
noncomputable def rS (x0:List Int)(b x2:Int):Option (Bool):=
  if x0.length≤9223372036854775807 then(fU x0 b x2 x0 0).bind fun y=>match y with
   | .ret a=>(some (a))
   | .x0=>(some (decide ((x0.length:Int)>(0:Int))))else none
theorem Gr (x0:List Int)(c x2:Int):Ans (rS x0 c x2) (fun r=>Does E 90 [.one (.s .far () 1 (x0.map etI)),NZ c,NZ x2] [NX r]):=by
 unfold rS;refine NS (fun d => ?_);refine NR (fun y b => ?_);replace b:=EU x0 c x2 x0 0 rfl d y b;cases y with
 |ret a =>have e:=b;exact NN (DP Tryz.f90 [.lp .ret (kw a)] (AL e<|AN))
 |x0 =>have e:=b;exact NN (DP Tryz.f90 [.lp (.exit 0) (of x0),N2 (x0.length:Int)] (AL e<|ALn x0 etI<|AN))
def jV (a b:Int):List Int→Option Int→Bool
 |[],_=>true
 |x::l,p=>ag x a b&&(match p with|some y=>decide (y<x)|none=>true)&&jV a b l (some x)
def aX (l:List Int)(a b:Int):Bool:=jV a b l none&&decide ((l.length:Int)>0)
theorem G3 {aF rest:List Int}{x:Int}{i:Nat}(h:aF.drop i=x::rest):i=0∨∃y,aF[i-1]?=some y:=by
 cases i with
 |zero=>exact .inl rfl
 |succ i =>
  right;have:i<aF.length:=by
   rcases Od i aF.length with g|g
   ·exact g
   ·rw[OV (by omega)]at h;cases h
  exact⟨aF[i],by simp[this]⟩
def iL (aF:List Int)(i:Nat):Option Int:=if i=0 then none else aF[i-1]?
theorem BC {aF rest:List Int}{x:Int}{i:Nat}(h:aF.drop i=x::rest):iL aF (i+1)=some x:=by unfold iL;rw[Oh (by omega)];show aF[i]?=some x;rw[←Qn,h];rfl
theorem JW (aF:List Int)(a b:Int)(k:aF.length≤1050000):∀(rest:List Int)(i:Nat),aF.drop i=rest→fU aF a b rest i=some (if jV a b rest (iL aF i)=true then .x0 else .ret false)
 |[],i,_=>rfl
 |x::rest,i,h=>by
  have f:=JW aF a b k rest (i+1) (aG h);rw[BC h]at f;have hi:i<aF.length:=by
   rcases Od i aF.length with g|g
   ·exact g
   ·rw[OV g]at h;cases h
  unfold fU jV;rw[f];cases ag x a b with
  |false=>rfl
  |true =>
   rw[Om,OG];rcases G3 h with rfl|⟨y,j⟩
   ·simp[iL]
   ·by_cases z:i=0
    ·subst z;simp[iL]
    ·have l:iL aF i=some y:=by unfold iL;rw[Oh z,j]
     have m:ap aF (IntKind.wrap .i64 ((i:Int)-1))=some y:=by
      rw[du _ (by omega) (by omega)];have e:((i:Int)-1)=((i-1:Nat):Int):=by omega
      rw[e,ex,j]
     rw[l,m,Of (by omega:(i:Int)>0),Om,N4];simp only;by_cases c:y≥x
     ·have d:¬y<x:=by omega
      rw[Of c,Om];simp[d]
     ·have d:y<x:=by omega
      rw[Oe c,Ou];simp[d]
theorem cp (x0:List Int)(a:Int)(x2:Int)(h:x0.length≤1050000):Does E 90 [.one (.s .far () 1 (x0.map etI)),NZ a,NZ x2] [NX (aX x0 a x2)]:=by exact Gr x0 a x2 _ (by unfold rS;rw[N5 (by omega),JW x0 a x2 h x0 0 rfl];unfold aX iL;rw[N5 rfl];cases jV a x2 x0 none<;>rfl)
noncomputable def ua (x0:GCron):Option (Bool):=if x0.f0.length≤1050000 then cond (aX x0.f0 0 59) (if x0.f1.length≤1050000 then cond (aX x0.f1 0 23) (if x0.f2.length≤1050000 then cond (aX x0.f2 1 31) (if x0.f3.length≤1050000 then cond (aX x0.f3 1 12) (if x0.f4.length≤1050000 then some (aX x0.f4 0 6)else none) (some (false))else none) (some (false))else none) (some (false))else none) (some (false))else none
theorem Iy (x0:GCron):Ans (ua x0) (fun r=>Does E 75 [.agg (GCron.t .far x0)] [NX r]):=by
 unfold ua;refine NS (fun a => ?_);apply NQ<;>intro b
 ·refine NS (fun c => ?_);apply NQ<;>intro d
  ·refine NS (fun e => ?_);apply NQ<;>intro f
   ·refine NS (fun g => ?_);apply NQ<;>intro h
    ·refine NS (fun i => ?_);exact NN (DP Tryz.f75 [rT,rT,rT,rT,.ret [NX (aX x0.f4 0 6)]] (AD (NV (cp x0.f0 0 59 a) b)<|AD (NV (cp x0.f1 0 23 c) d)<|AD (NV (cp x0.f2 1 31 e) f)<|AD (NV (cp x0.f3 1 12 g) h)<|AD (cp x0.f4 0 6 i)<|AN))
    ·exact NN (DP Tryz.f75 [rT,rT,rT,rF] (AD (NV (cp x0.f0 0 59 a) b)<|AD (NV (cp x0.f1 0 23 c) d)<|AD (NV (cp x0.f2 1 31 e) f)<|AD (NV (cp x0.f3 1 12 g) h)<|AN))
   ·exact NN (DP Tryz.f75 [rT,rT,rF] (AD (NV (cp x0.f0 0 59 a) b)<|AD (NV (cp x0.f1 0 23 c) d)<|AD (NV (cp x0.f2 1 31 e) f)<|AN))
  ·exact NN (DP Tryz.f75 [rT,rF] (AD (NV (cp x0.f0 0 59 a) b)<|AD (NV (cp x0.f1 0 23 c) d)<|AN))
 ·exact NN (DP Tryz.f75 [rF] (AD (NV (cp x0.f0 0 59 a) b)<|AN))
def iB (c:GCron):Bool:=aX c.f0 0 59&&(aX c.f1 0 23&&(aX c.f2 1 31&&(aX c.f3 1 12&&aX c.f4 0 6)))
theorem yw (x0:GCron)(h:ae.sm x0):Does E 75 [.agg (GCron.t .far x0)] [NX (iB x0)]:=by exact Iy x0 _ (by have a:=h.1.1;have b:=h.2.1.1;have c:=h.2.2.1.1;have d:=h.2.2.2.1.1;have e:=h.2.2.2.2.1;unfold ua iB;simp only[a,b,c,d,e,OH];cases aX x0.f0 0 59<;>cases aX x0.f1 0 23<;>cases aX x0.f2 1 31<;>cases aX x0.f3 1 12<;>rfl)
inductive xg where|ret (v2:Bool)|x2
def fC (a b c d e:List Int)(v5 v6:Int)(v7:List Int)(v11:Int)(f:List Int)(v24 g:Int):US:=stL 53 [(1,.box () [.s .far () 1 (a.map etI),.s .far () 1 (b.map etI),.s .far () 1 (c.map etI),.s .far () 1 (d.map etI),.s .far () 1 (e.map etI)]),(5,NZ v5),(6,NZ v6),(7,.one (.s .far () 1 (v7.map etI))),(10,.clo (.arr [0,1,2,3,4]) [1,1,1,1,1]),(11,NZ v11),(23,.one (.s .far () 1 (f.map etI))),(24,NZ v24),(25,NZ g)]
def eH (a:Bool):US:=stL 53 [(2,N0 a)]
def cF (a b c d e v7:List Int)(v11:Int):US:=stL 53 [(1,.box () [.s .far () 1 (a.map etI),.s .far () 1 (b.map etI),.s .far () 1 (c.map etI),.s .far () 1 (d.map etI),.s .far () 1 (e.map etI)]),(7,.one (.s .far () 1 (v7.map etI))),(10,.clo (.arr [0,1,2,3,4]) [1,1,1,1,1]),(11,NZ v11)]
abbrev lQ:US→Exit→US→Prop:=Round E 95 (aw Tryz.f95 1)
def FS (a b c d e:List Int)(v5 v6:Int)(v7:List Int)(v11:Int)(f:List Int)(v24 g:Int):xg→Prop| .ret h=>Loops E 95 (aw Tryz.f95 1) (fC a b c d e v5 v6 v7 v11 f v24 g) .ret (eH h)| .x2=>Loops E 95 (aw Tryz.f95 1) (fC a b c d e v5 v6 v7 v11 f v24 g) (.exit 2) (cF a b c d e v7 v11)
noncomputable def c9 (v5 v6:Int)(v7:List Int):List Int→Nat→Option xg|[],i=>some (.x2)|hd::rest,i=>cond (ag hd v5 v6) (cond (decide ((i:Int)>(0:Int))) ((ap v7 (IntKind.wrap .i64 ((i:Int)-(1:Int)))).bind fun g1=>cond (decide (hd≤g1)) (some (.ret false)) (c9 v5 v6 v7 rest (i+1))) (c9 v5 v6 v7 rest (i+1))) (some (.ret false))
theorem lR (b c d e f:List Int)(v5 v6:Int)(v7:List Int)(v11:Int)(a:List Int)(rest:List Int):∀(i:Nat) ,(a).drop i=rest→a.length≤9223372036854775807→Ans (c9 v5 v6 v7 rest i) (FS b c d e f v5 v6 v7 v11 a (a.length:Int) (i:Int)):=by
 induction rest with
 |nil =>intro i g k;have hb:=bw g;unfold c9;exact NN (NP (show lQ (fC b c d e f v5 v6 v7 v11 a (a.length:Int) (i:Int)) (.exit 2) (cF b c d e f v7 v11)from RP [.b false] (AC hb<|AN)) (by intro h;cases h))
 |cons hd rest p =>
  intro i g k;have hb:=a8 g;have q:=ba g k;have j:=aG g;have l:=bc g;unfold c9;apply NQ<;>intro m
  ·apply NQ<;>intro n
   ·refine NR (fun g1 s => ?_);apply NQ<;>intro t
    ·exact NN (NP (show lQ (fC b c d e f v5 v6 v7 v11 a (a.length:Int) (i:Int)) .ret (eH false)from RP [.b true,.row (etI hd),rT,.b true,.row (etI g1),.b true] (AC hb<|AR etI l<|AD (NV (ay hd v5 v6) m)<|AC n<|AR etI s<|AC t<|AN)) (by intro h;cases h))
    ·exact(p (i+1) j k).mono fun y o=>by have r:lQ (fC b c d e f v5 v6 v7 v11 a (a.length:Int) (i:Int)) .normal (fC b c d e f v5 v6 v7 v11 a (a.length:Int) (inc (i:Int))):=RP [.b true,.row (etI hd),rT,.b true,.row (etI g1),.b false] (AC hb<|AR etI l<|AD (NV (ay hd v5 v6) m)<|AC n<|AR etI s<|AC t<|AN);rw[q]at r;cases y<;>exact NO r o
   ·exact(p (i+1) j k).mono fun y o=>by have r:lQ (fC b c d e f v5 v6 v7 v11 a (a.length:Int) (i:Int)) .normal (fC b c d e f v5 v6 v7 v11 a (a.length:Int) (inc (i:Int))):=RP [.b true,.row (etI hd),rT,.b false] (AC hb<|AR etI l<|AD (NV (ay hd v5 v6) m)<|AC n<|AN);rw[q]at r;cases y<;>exact NO r o
  ·exact NN (NP (show lQ (fC b c d e f v5 v6 v7 v11 a (a.length:Int) (i:Int)) .ret (eH false)from RP [.b true,.row (etI hd),rF] (AC hb<|AR etI l<|AD (NV (ay hd v5 v6) m)<|AN)) (by intro h;cases h))
inductive rB where|ret (v2:Bool)|x0
def bv (a b c d e:List Int)(v11:Int):US:=stL 53 [(1,.box () [.s .far () 1 (a.map etI),.s .far () 1 (b.map etI),.s .far () 1 (c.map etI),.s .far () 1 (d.map etI),.s .far () 1 (e.map etI)]),(10,.clo (.arr [0,1,2,3,4]) [1,1,1,1,1]),(11,NZ v11)]
def ch (a:Bool):US:=stL 53 [(2,N0 a)]
def oU  : US:=stL 53 []
abbrev cf:US→Exit→US→Prop:=Round E 95 (aw Tryz.f95 0)
def FR (a b c d e:List Int)(v11:Int):rB→Prop| .ret f=>Loops E 95 (aw Tryz.f95 0) (bv a b c d e v11) .ret (ch f)| .x0=>Loops E 95 (aw Tryz.f95 0) (bv a b c d e v11) (.exit 0) (oU)
noncomputable def bH (a b c d e:List Int):Nat→Int→Option rB
 | 0,_=>none
 |n+1,v11=>cond (decide (v11<(5:Int)))
  (cond (v11==(0:Int))
   (if a.length≤9223372036854775807 then(c9 ((aE v11).1) ((aE v11).2) a a 0).bind fun y=>match y with
    | .ret f=>(some (.ret f))
    | .x2=>(cond ((a.length:Int)==(0:Int))
     (some (.ret false))
     (bH a b c d e n (inc v11)))else none)
   (cond (v11==(1:Int))
    (if b.length≤9223372036854775807 then(c9 ((aE v11).1) ((aE v11).2) b b 0).bind fun y=>match y with
     | .ret f=>(some (.ret f))
     | .x2=>(cond ((b.length:Int)==(0:Int))
      (some (.ret false))
      (bH a b c d e n (inc v11)))else none)
    (cond (v11==(2:Int))
     (if c.length≤9223372036854775807 then(c9 ((aE v11).1) ((aE v11).2) c c 0).bind fun y=>match y with
      | .ret f=>(some (.ret f))
      | .x2=>(cond ((c.length:Int)==(0:Int))
       (some (.ret false))
       (bH a b c d e n (inc v11)))else none)
     (cond (v11==(3:Int))
      (if d.length≤9223372036854775807 then(c9 ((aE v11).1) ((aE v11).2) d d 0).bind fun y=>match y with
       | .ret f=>(some (.ret f))
       | .x2=>(cond ((d.length:Int)==(0:Int))
        (some (.ret false))
        (bH a b c d e n (inc v11)))else none)
      (if v11=(4:Int)then if e.length≤9223372036854775807 then(c9 ((aE v11).1) ((aE v11).2) e e 0).bind fun y=>match y with
       | .ret f=>(some (.ret f))
       | .x2=>(cond ((e.length:Int)==(0:Int))
        (some (.ret false))
        (bH a b c d e n (inc v11)))else none else none)))))
  (some (.x0))
theorem FQ (a b c d e:List Int)(n:Nat):∀(v11:Int),Ans (bH a b c d e n v11) (FR a b c d e v11):=by
 induction n with
 |zero=>intros;exact Ans.none
 |succ n s =>
  intro v11;unfold bH;apply NQ<;>intro i
  ·apply NQ<;>intro t
   ·refine NS (fun u => ?_);refine NR (fun y g => ?_);replace g:=lR a b c d e ((aE v11).1) ((aE v11).2) a v11 a a 0 rfl u y g;cases y with
    |ret f =>have m:=g;exact NN (NP (show cf (bv a b c d e v11) .ret (ch f)from RP [.b true,N2 0,.ret [NW ((aE v11).1),NW ((aE v11).2)],N2 (a.length:Int),.lp .ret (eH f)] (AC i<|AC (p:=v11=(0:Int)) (eq_of_beq t)<|AD (cd v11)<|ALn a etI<|AL m<|AN)) (by intro h;cases h))
    |x2 =>
     have m:=g;apply NQ<;>intro j
     ·exact NN (NP (show cf (bv a b c d e v11) .ret (ch false)from RP [.b true,N2 0,.ret [NW ((aE v11).1),NW ((aE v11).2)],N2 (a.length:Int),.lp (.exit 2) (cF a b c d e a v11),N2 (a.length:Int),.b true] (AC i<|AC (p:=v11=(0:Int)) (eq_of_beq t)<|AD (cd v11)<|ALn a etI<|AL m<|ALn a etI<|AC j<|AN)) (by intro h;cases h))
     ·have r:cf (bv a b c d e v11) .normal (bv a b c d e (inc v11)):=RP [.b true,N2 0,.ret [NW ((aE v11).1),NW ((aE v11).2)],N2 (a.length:Int),.lp (.exit 2) (cF a b c d e a v11),N2 (a.length:Int),.b false] (AC i<|AC (p:=v11=(0:Int)) (eq_of_beq t)<|AD (cd v11)<|ALn a etI<|AL m<|ALn a etI<|AC j<|AN);exact(s (inc v11)).mono fun y g=>by cases y<;>exact NO r g
   ·apply NQ<;>intro m
    ·refine NS (fun v => ?_);refine NR (fun y g => ?_);replace g:=lR a b c d e ((aE v11).1) ((aE v11).2) b v11 b b 0 rfl v y g;cases y with
     |ret f =>have j:=g;exact NN (NP (show cf (bv a b c d e v11) .ret (ch f)from RP [.b true,N2 1,.ret [NW ((aE v11).1),NW ((aE v11).2)],N2 (b.length:Int),.lp .ret (eH f)] (AC i<|AC (p:=v11=(1:Int)) (eq_of_beq m)<|AD (cd v11)<|ALn b etI<|AL j<|AN)) (by intro h;cases h))
     |x2 =>
      have j:=g;apply NQ<;>intro k
      ·exact NN (NP (show cf (bv a b c d e v11) .ret (ch false)from RP [.b true,N2 1,.ret [NW ((aE v11).1),NW ((aE v11).2)],N2 (b.length:Int),.lp (.exit 2) (cF a b c d e b v11),N2 (b.length:Int),.b true] (AC i<|AC (p:=v11=(1:Int)) (eq_of_beq m)<|AD (cd v11)<|ALn b etI<|AL j<|ALn b etI<|AC k<|AN)) (by intro h;cases h))
      ·have r:cf (bv a b c d e v11) .normal (bv a b c d e (inc v11)):=RP [.b true,N2 1,.ret [NW ((aE v11).1),NW ((aE v11).2)],N2 (b.length:Int),.lp (.exit 2) (cF a b c d e b v11),N2 (b.length:Int),.b false] (AC i<|AC (p:=v11=(1:Int)) (eq_of_beq m)<|AD (cd v11)<|ALn b etI<|AL j<|ALn b etI<|AC k<|AN);exact(s (inc v11)).mono fun y g=>by cases y<;>exact NO r g
    ·apply NQ<;>intro j
     ·refine NS (fun w => ?_);refine NR (fun y g => ?_);replace g:=lR a b c d e ((aE v11).1) ((aE v11).2) c v11 c c 0 rfl w y g;cases y with
      |ret f =>have k:=g;exact NN (NP (show cf (bv a b c d e v11) .ret (ch f)from RP [.b true,N2 2,.ret [NW ((aE v11).1),NW ((aE v11).2)],N2 (c.length:Int),.lp .ret (eH f)] (AC i<|AC (p:=v11=(2:Int)) (eq_of_beq j)<|AD (cd v11)<|ALn c etI<|AL k<|AN)) (by intro h;cases h))
      |x2 =>
       have k:=g;apply NQ<;>intro l
       ·exact NN (NP (show cf (bv a b c d e v11) .ret (ch false)from RP [.b true,N2 2,.ret [NW ((aE v11).1),NW ((aE v11).2)],N2 (c.length:Int),.lp (.exit 2) (cF a b c d e c v11),N2 (c.length:Int),.b true] (AC i<|AC (p:=v11=(2:Int)) (eq_of_beq j)<|AD (cd v11)<|ALn c etI<|AL k<|ALn c etI<|AC l<|AN)) (by intro h;cases h))
       ·have r:cf (bv a b c d e v11) .normal (bv a b c d e (inc v11)):=RP [.b true,N2 2,.ret [NW ((aE v11).1),NW ((aE v11).2)],N2 (c.length:Int),.lp (.exit 2) (cF a b c d e c v11),N2 (c.length:Int),.b false] (AC i<|AC (p:=v11=(2:Int)) (eq_of_beq j)<|AD (cd v11)<|ALn c etI<|AL k<|ALn c etI<|AC l<|AN);exact(s (inc v11)).mono fun y g=>by cases y<;>exact NO r g
     ·apply NQ<;>intro k
      ·refine NS (fun o => ?_);refine NR (fun y g => ?_);replace g:=lR a b c d e ((aE v11).1) ((aE v11).2) d v11 d d 0 rfl o y g;cases y with
       |ret f =>have l:=g;exact NN (NP (show cf (bv a b c d e v11) .ret (ch f)from RP [.b true,N2 3,.ret [NW ((aE v11).1),NW ((aE v11).2)],N2 (d.length:Int),.lp .ret (eH f)] (AC i<|AC (p:=v11=(3:Int)) (eq_of_beq k)<|AD (cd v11)<|ALn d etI<|AL l<|AN)) (by intro h;cases h))
       |x2 =>
        have l:=g;apply NQ<;>intro q
        ·exact NN (NP (show cf (bv a b c d e v11) .ret (ch false)from RP [.b true,N2 3,.ret [NW ((aE v11).1),NW ((aE v11).2)],N2 (d.length:Int),.lp (.exit 2) (cF a b c d e d v11),N2 (d.length:Int),.b true] (AC i<|AC (p:=v11=(3:Int)) (eq_of_beq k)<|AD (cd v11)<|ALn d etI<|AL l<|ALn d etI<|AC q<|AN)) (by intro h;cases h))
        ·have r:cf (bv a b c d e v11) .normal (bv a b c d e (inc v11)):=RP [.b true,N2 3,.ret [NW ((aE v11).1),NW ((aE v11).2)],N2 (d.length:Int),.lp (.exit 2) (cF a b c d e d v11),N2 (d.length:Int),.b false] (AC i<|AC (p:=v11=(3:Int)) (eq_of_beq k)<|AD (cd v11)<|ALn d etI<|AL l<|ALn d etI<|AC q<|AN);exact(s (inc v11)).mono fun y g=>by cases y<;>exact NO r g
      ·refine NS (fun l => ?_);refine NS (fun o => ?_);refine NR (fun y g => ?_);replace g:=lR a b c d e ((aE v11).1) ((aE v11).2) e v11 e e 0 rfl o y g;cases y with
       |ret f =>have q:=g;exact NN (NP (show cf (bv a b c d e v11) .ret (ch f)from RP [.b true,N2 4,.ret [NW ((aE v11).1),NW ((aE v11).2)],N2 (e.length:Int),.lp .ret (eH f)] (AC i<|AC l<|AD (cd v11)<|ALn e etI<|AL q<|AN)) (by intro h;cases h))
       |x2 =>
        have q:=g;apply NQ<;>intro x
        ·exact NN (NP (show cf (bv a b c d e v11) .ret (ch false)from RP [.b true,N2 4,.ret [NW ((aE v11).1),NW ((aE v11).2)],N2 (e.length:Int),.lp (.exit 2) (cF a b c d e e v11),N2 (e.length:Int),.b true] (AC i<|AC l<|AD (cd v11)<|ALn e etI<|AL q<|ALn e etI<|AC x<|AN)) (by intro h;cases h))
        ·have r:cf (bv a b c d e v11) .normal (bv a b c d e (inc v11)):=RP [.b true,N2 4,.ret [NW ((aE v11).1),NW ((aE v11).2)],N2 (e.length:Int),.lp (.exit 2) (cF a b c d e e v11),N2 (e.length:Int),.b false] (AC i<|AC l<|AD (cd v11)<|ALn e etI<|AL q<|ALn e etI<|AC x<|AN);exact(s (inc v11)).mono fun y g=>by cases y<;>exact NO r g
  ·exact NN (NP (show cf (bv a b c d e v11) (.exit 0) (oU)from RP [.b false] (AC i<|AN)) (by intro h;cases h))
noncomputable def py (x0:GCron):Option (Bool):=
  (bH x0.f0 x0.f1 x0.f2 x0.f3 x0.f4 9223372036854775808 0).bind fun y=>match y with
   | .ret a=>(some (a))
   | .x0=>(some (true))
theorem HY (x0:GCron):Ans (py x0) (fun r=>Does E 95 [.agg (GCron.t .far x0)] [NX r]):=by
 unfold py;refine NR (fun y b => ?_);replace b:=FQ x0.f0 x0.f1 x0.f2 x0.f3 x0.f4 9223372036854775808 0 y b;cases y with
 |ret a =>have c:=b;exact NN (DP Tryz.f95 [.lp .ret (ch a)] (AL c<|AN))
 |x0 =>have c:=b;exact NN (DP Tryz.f95 [.lp (.exit 0) (oU)] (AL c<|AN))
theorem Jc (aF:List Int)(a b:Int)(k:aF.length≤1050000):∀(rest:List Int)(i:Nat),aF.drop i=rest→c9 a b aF rest i=some (if jV a b rest (iL aF i)=true then .x2 else .ret false)
 |[],i,_=>rfl
 |x::rest,i,h=>by
  have f:=Jc aF a b k rest (i+1) (aG h);rw[BC h]at f;have hi:i<aF.length:=by
   rcases Od i aF.length with g|g
   ·exact g
   ·rw[OV g]at h;cases h
  unfold c9 jV;rw[f];cases ag x a b with
  |false=>rfl
  |true =>
   rw[Om,OG];rcases G3 h with rfl|⟨y,j⟩
   ·simp[iL]
   ·by_cases z:i=0
    ·subst z;simp[iL]
    ·have l:iL aF i=some y:=by unfold iL;rw[Oh z,j]
     have m:ap aF (IntKind.wrap .i64 ((i:Int)-1))=some y:=by
      rw[du _ (by omega) (by omega)];have e:((i:Int)-1)=((i-1:Nat):Int):=by omega
      rw[e,ex,j]
     rw[l,m,Of (by omega:(i:Int)>0),Om,N4];simp only;by_cases c:y≥x
     ·have d:¬y<x:=by omega
      rw[Of (show x≤y from c),Om];simp[d]
     ·have d:y<x:=by omega
      rw[Oe (show ¬x≤y from c),Ou];simp[d]
theorem m4 (l:List Int)(a b:Int)(c:l.length≤1050000)(K:Option rB):
  ((c9 a b l l 0).bind fun y=>match y with
    | .ret w=>some (.ret w)
    | .x2=>cond ((l.length:Int)==(0:Int)) (some (.ret false)) K)=(cond (aX l a b) K (some (.ret false))):=by
 rw[Jc l a b c l 0 rfl];unfold aX iL;rw[N5 rfl];cases jV a b l none with
 |false=>rfl
 |true =>
  simp only[OH,N4,OG];cases l with
  |nil=>rfl
  |cons x l =>rw[show(((x::l).length:Int)==(0:Int))=false from O3.2 (by simp<;>omega),Of (by simp<;>omega)];rfl
theorem KN (c:GCron)(h:ae.sm c):py c=some (iB c):=by
 have a:=h.1.1;have b:=h.2.1.1;have d:=h.2.2.1.1;have e:=h.2.2.2.1.1;have f:=h.2.2.2.2.1;unfold py;have g:∀n,bH c.f0 c.f1 c.f2 c.f3 c.f4 (n+6) 0=some (if iB c=true then .x0 else .ret false):=by
  intro n;have i:bH c.f0 c.f1 c.f2 c.f3 c.f4 (n+1) (inc (inc (inc (inc (inc 0)))))=some .x0:=rfl;have j:bH c.f0 c.f1 c.f2 c.f3 c.f4 (n+2) (inc (inc (inc (inc 0))))=cond (aX c.f4 0 6) (some .x0) (some (.ret false)):=by
   rw[←m4 c.f4 0 6 f, ←i]
   conv=>lhs;unfold bH
   show(if inc (inc (inc (inc 0)))=4 then(if c.f4.length≤9223372036854775807 then _ else none)else none)=_;rw[N5 (by rfl),N5 (by omega)];rfl
  have k:bH c.f0 c.f1 c.f2 c.f3 c.f4 (n+3) (inc (inc (inc 0)))=cond (aX c.f3 1 12) (cond (aX c.f4 0 6) (some .x0) (some (.ret false))) (some (.ret false)):=by
   rw[←m4 c.f3 1 12 e, ←j]
   conv=>lhs;unfold bH
   show(if c.f3.length≤9223372036854775807 then _ else none)=_;rw[N5 (by omega)];rfl
  have l:bH c.f0 c.f1 c.f2 c.f3 c.f4 (n+4) (inc (inc 0))=cond (aX c.f2 1 31) (cond (aX c.f3 1 12) (cond (aX c.f4 0 6) (some .x0) (some (.ret false))) (some (.ret false))) (some (.ret false)):=by
   rw[←m4 c.f2 1 31 d, ←k]
   conv=>lhs;unfold bH
   show(if c.f2.length≤9223372036854775807 then _ else none)=_;rw[N5 (by omega)];rfl
  have m:bH c.f0 c.f1 c.f2 c.f3 c.f4 (n+5) (inc 0)=cond (aX c.f1 0 23) (cond (aX c.f2 1 31) (cond (aX c.f3 1 12) (cond (aX c.f4 0 6) (some .x0) (some (.ret false))) (some (.ret false))) (some (.ret false))) (some (.ret false)):=by
   rw[←m4 c.f1 0 23 b, ←l]
   conv=>lhs;unfold bH
   show(if c.f1.length≤9223372036854775807 then _ else none)=_;rw[N5 (by omega)];rfl
  have o:bH c.f0 c.f1 c.f2 c.f3 c.f4 (n+6) 0=cond (aX c.f0 0 59) (cond (aX c.f1 0 23) (cond (aX c.f2 1 31) (cond (aX c.f3 1 12) (cond (aX c.f4 0 6) (some .x0) (some (.ret false))) (some (.ret false))) (some (.ret false))) (some (.ret false))) (some (.ret false)):=by
   rw[←m4 c.f0 0 59 a, ←m]
   conv=>lhs;unfold bH
   show(if c.f0.length≤9223372036854775807 then _ else none)=_;rw[N5 (by omega)];rfl
  rw[o];unfold iB;cases aX c.f0 0 59<;>cases aX c.f1 0 23<;>cases aX c.f2 1 31<;>cases aX c.f3 1 12<;>cases aX c.f4 0 6<;>rfl
 rw[g 9223372036854775802];cases iB c<;>rfl
theorem yr (x0:GCron)(h:ae.sm x0):Does E 95 [.agg (GCron.t .far x0)] [NX (iB x0)]:=by exact HY x0 _ (KN x0 h)
noncomputable def vD (x0:List Int)(a:Int):Option (Bool):=some ((x0.length:Int)==(inc (IntKind.wrap .i64 (((aE a).2)-((aE a).1)))))
theorem JG (x0:List Int)(a:Int):Ans (vD x0 a) (fun r=>Does E 96 [.one (.s .far () 1 (x0.map etI)),NZ a] [NX r]):=by unfold vD;exact NN (DP Tryz.f96 [.ret [NW ((aE a).1),NW ((aE a).2)],N2 (x0.length:Int)] (AD (cd a)<|ALn x0 etI<|AN))
noncomputable def nh (l:List Int)(i:Int):Bool:=(vD l i).getD false
theorem gC (x0:List Int)(a:Int):Does E 96 [.one (.s .far () 1 (x0.map etI)),NZ a] [NX (nh x0 a)]:=by exact JG x0 a _ rfl
inductive wr where|x0 (v5:ByteArray)
def ji (v0:List Int)(v5:ByteArray)(v6:Int):US:=stL 29 [(0,.one (.s .far () 1 (v0.map etI))),(5,N1 v5),(6,NZ v6)]
def og (a:ByteArray):US:=stL 29 [(5,N1 a)]
abbrev qD:US→Exit→US→Prop:=Round E 76 (aw Tryz.f76 0)
def EY (v0:List Int)(v5:ByteArray)(v6:Int):wr→Prop| .x0 a=>Loops E 76 (aw Tryz.f76 0) (ji v0 v5 v6) (.exit 0) (og a)
noncomputable def eh  : List Int→Nat→ByteArray→Option wr|[],i,v5=>some (.x0 v5)|hd::rest,i,v5=>cond (decide ((i:Int)>(0:Int))) (if v5.size+(⟨#[44]⟩:ByteArray).size≤maxStr then if -9223372036854775808≤hd∧hd≤9223372036854775807 then if(v5++(⟨#[44]⟩:ByteArray)).size+(bp hd).size≤maxStr then eh rest (i+1) ((v5++(⟨#[44]⟩:ByteArray))++(bp hd))else none else none else none) (if -9223372036854775808≤hd∧hd≤9223372036854775807 then if v5.size+(bp hd).size≤maxStr then eh rest (i+1) (v5++(bp hd))else none else none)
theorem EX (v0:List Int)(rest:List Int):∀(i:Nat)(v5:ByteArray),(v0).drop i=rest→v0.length≤9223372036854775807→Ans (eh rest i v5) (EY v0 v5 (i:Int)):=by
 induction rest with
 |nil =>intro i v5 a c;have hb:=bw a;unfold eh;exact NN (NP (show qD (ji v0 v5 (i:Int)) (.exit 0) (og v5)from RP [N2 (v0.length:Int),.b false] (ALn v0 etI<|AC hb<|AN)) (by intro h;cases h))
 |cons hd rest f =>
  intro i v5 a c;have hb:=a8 a;have g:=ba a c;have b:=aG a;have j:=bc a;unfold eh;apply NQ<;>intro k
  ·refine NS (fun l => ?_);refine NS (fun d => ?_);refine NS (fun m => ?_);exact(f (i+1) ((v5++(⟨#[44]⟩:ByteArray))++(bp hd)) b c).mono fun y e=>by have r:qD (ji v0 v5 (i:Int)) .normal (ji v0 ((v5++(⟨#[44]⟩:ByteArray))++(bp hd)) (inc (i:Int))):=RP [N2 (v0.length:Int),.b true,.b true,.val (.string (v5++(⟨#[44]⟩:ByteArray))),.row (etI hd),.ret [NY (bp hd)],.val (.string ((v5++(⟨#[44]⟩:ByteArray))++(bp hd)))] (ALn v0 etI<|AC hb<|AC k<|AC (gw (tab:=E.tab) (t:=9) l)<|AR etI j<|AD (oo hd d)<|AC (gw (tab:=E.tab) (t:=9) m)<|AN);rw[g]at r;cases y<;>exact NO r e
  ·refine NS (fun n => ?_);refine NS (fun d => ?_);exact(f (i+1) (v5++(bp hd)) b c).mono fun y e=>by have r:qD (ji v0 v5 (i:Int)) .normal (ji v0 (v5++(bp hd)) (inc (i:Int))):=RP [N2 (v0.length:Int),.b true,.b false,.row (etI hd),.ret [NY (bp hd)],.val (.string (v5++(bp hd)))] (ALn v0 etI<|AC hb<|AC k<|AR etI j<|AD (oo hd n)<|AC (gw (tab:=E.tab) (t:=9) d)<|AN);rw[g]at r;cases y<;>exact NO r e
noncomputable def oB (x0:List Int)(b:Int):Option (ByteArray):=
  cond ((x0.length:Int)==b)
   (some ((⟨#[42]⟩:ByteArray)))
   (if x0.length≤9223372036854775807 then(eh x0 0 ByteArray.empty).bind fun y=>match y with
    | .x0 a=>(some (a))else none)
theorem Gs (x0:List Int)(d:Int):Ans (oB x0 d) (fun r=>Does E 76 [.one (.s .far () 1 (x0.map etI)),NZ d] [NY r]):=by
 unfold oB;apply NQ<;>intro e
 ·exact NN (DP Tryz.f76 [N2 (x0.length:Int),.b true] (ALn x0 etI<|AC e<|AN))
 ·refine NS (fun b => ?_);refine NR (fun y c => ?_);replace c:=EX x0 x0 0 ByteArray.empty rfl b y c;cases y with
  |x0 a =>have f:=c;exact NN (DP Tryz.f76 [N2 (x0.length:Int),.b false,.lp (.exit 0) (og a)] (ALn x0 etI<|AC e<|AL f<|AN))
def gR (c:UInt8):List (List UInt8)→List UInt8|[]=>[]|x::xs=>x++(xs.map fun y=>c::y).flatten
theorem vN (c:UInt8):∀xs:List (List UInt8),Lib.join xs [c]=gR c xs
 |[]=>rfl
 |[x]=>by simp[Lib.join,List.intercalate,gR]
 |x::y::xs=>by have a:=vN c (y::xs);unfold Lib.join List.intercalate at a ⊢;rw[List.intersperse_cons_cons,List.flatten_cons,List.flatten_cons,a];simp[gR]
theorem uu (xs:List (List UInt8))(c:UInt8):aW (xs.map ofTx) ⟨#[c]⟩=ofTx (gR c xs):=by
 unfold aW;have:(xs.map ofTx).map (fun s:ByteArray=>s.data.toList)=xs:=by
  rw[OQ]
  conv=>rhs;rw[←Qg xs]
  rfl
 rw[this];show ofTx (Lib.join xs [c])=_;rw[vN]
theorem wZ (c:UInt8)(k:Nat):∀xs:List (List UInt8),(∀x∈xs,x.length≤k)→(gR c xs).length≤xs.length*(k+1)
 |[],_=>by simp[gR]
 |x::xs,h=>by
  have d:=h x (by simp);have:∀ys:List (List UInt8),(∀y∈ys,y.length≤k)→((ys.map fun y=>c::y).flatten).length≤ys.length*(k+1):=by
   intro ys;induction ys with
   |nil=>intro _;simp
   |cons y ys a =>
    intro h;have:=a fun z hz=>h z (by simp[hz])
    have:=h y (by simp);simp[Pw]at *;omega
  have:=this xs fun y b=>h y (by simp[b])
  simp only[gR,List.length_append,OI,Pw];omega
theorem xZ {x:Int}(h:0≤x∧x≤59):(tx (bp x)).length≤2:=by show(Lib.itoa x).length≤2;unfold Lib.itoa;rw[Oh (by omega)];exact tr 1 _ (by omega)
noncomputable def aD (l:List Int)(size:Int):ByteArray:=cond ((l.length:Int)==size) ⟨#[42]⟩ (ofTx (gR 44 (l.map fun x=>tx (bp x))))
theorem fW {l:List Int}(c:l.length≤60)(h:∀z∈l,0≤z∧z≤59)(n:Int):(aD l n).size≤200:=by
 unfold aD;cases(l.length:Int)==n with
 |true=>exact(by decide:(⟨#[42]⟩:ByteArray).size≤200)
 |false =>
  rw[Ou,oP];have:=wZ 44 2 (l.map fun x=>tx (bp x)) (fun y a=>by obtain⟨x,b,rfl⟩:=Oo.1 a;exact xZ (h x b));rw[OF]at this;omega
theorem Kn:∀(l:List Int)(i:Nat)(v:List UInt8),(∀z∈l,0≤z∧z≤59)→0<i→v.length+l.length*3≤1000→eh l i (ofTx v)=some (.x0 (ofTx (v++((l.map fun x=>44::tx (bp x)).flatten))))
 |[],i,v,_,_,_=>by unfold eh;simp
 |x::l,i,v,h,hi,b=>by have c:=h x (by simp);have hz:=xZ c;have a:(⟨#[44]⟩:ByteArray)=ofTx [44]:=rfl;simp only[OI]at b;unfold eh;rw[Of (by omega),Om,a,nX, ←sN (bp x),nX];simp only[oP,s7];rw[N5 (by simp[maxStr];omega),N5 (by omega),N5 (by simp[maxStr];omega),Kn l (i+1) _ (fun z hz=>h z (by simp[hz])) (by omega) (by simp;omega)];simp
theorem L9 (l:List Int)(n:Int)(a:l.length≤60)(h:∀z∈l,0≤z∧z≤59):oB l n=some (aD l n):=by
 unfold oB aD;cases(l.length:Int)==n with
 |true=>rfl
 |false =>
  rw[Ou,Ou,N5 (by omega)];cases l with
  |nil=>rfl
  |cons x l =>
   have b:=h x (by simp);have hz:=xZ b;simp only[OI]at a;unfold eh;have e:ByteArray.empty++bp x=ofTx (tx (bp x)):=by show ofTx []++ofTx (tx (bp x))=_;rw[nX];rfl
   have c:(bp x).size≤2:=by rw[df];exact hz
   have d:ByteArray.empty.size=0:=rfl;rw[Oe (by omega),Ou,N5 (by omega),N5 (by rw[d];unfold maxStr;omega),e,Kn l _ _ (fun z hz=>h z (by simp[hz])) (by omega) (by omega),N4];simp only[Oq,gR,OQ];rfl
theorem lM (x0:List Int)(a:Int)(b:x0.length≤60)(c:∀z∈x0,0≤z∧z≤59):Does E 76 [.one (.s .far () 1 (x0.map etI)),NZ a] [NY (aD x0 a)]:=by exact Gs x0 a _ (L9 x0 a b c)
noncomputable def ny (x0:GCron):Option (ByteArray×Bool):=if ae.sm x0 then cond (iB x0) (if x0.f0.length≤60 then if ∀z∈x0.f0,0≤z∧z≤59 then if(aD x0.f0 60).size+(⟨#[32]⟩:ByteArray).size≤maxStr then if x0.f1.length≤60 then if ∀z∈x0.f1,0≤z∧z≤59 then if((aD x0.f0 (60:Int))++(⟨#[32]⟩:ByteArray)).size+(aD x0.f1 24).size≤maxStr then if(((aD x0.f0 (60:Int))++(⟨#[32]⟩:ByteArray))++(aD x0.f1 24)).size+(⟨#[32]⟩:ByteArray).size≤maxStr then if x0.f2.length≤60 then if ∀z∈x0.f2,0≤z∧z≤59 then if((((aD x0.f0 (60:Int))++(⟨#[32]⟩:ByteArray))++(aD x0.f1 24))++(⟨#[32]⟩:ByteArray)).size+(aD x0.f2 31).size≤maxStr then if(((((aD x0.f0 (60:Int))++(⟨#[32]⟩:ByteArray))++(aD x0.f1 24))++(⟨#[32]⟩:ByteArray))++(aD x0.f2 31)).size+(⟨#[32]⟩:ByteArray).size≤maxStr then if x0.f3.length≤60 then if ∀z∈x0.f3,0≤z∧z≤59 then if((((((aD x0.f0 (60:Int))++(⟨#[32]⟩:ByteArray))++(aD x0.f1 24))++(⟨#[32]⟩:ByteArray))++(aD x0.f2 31))++(⟨#[32]⟩:ByteArray)).size+(aD x0.f3 12).size≤maxStr then if(((((((aD x0.f0 (60:Int))++(⟨#[32]⟩:ByteArray))++(aD x0.f1 24))++(⟨#[32]⟩:ByteArray))++(aD x0.f2 31))++(⟨#[32]⟩:ByteArray))++(aD x0.f3 12)).size+(⟨#[32]⟩:ByteArray).size≤maxStr then if x0.f4.length≤60 then if ∀z∈x0.f4,0≤z∧z≤59 then if((((((((aD x0.f0 (60:Int))++(⟨#[32]⟩:ByteArray))++(aD x0.f1 24))++(⟨#[32]⟩:ByteArray))++(aD x0.f2 31))++(⟨#[32]⟩:ByteArray))++(aD x0.f3 12))++(⟨#[32]⟩:ByteArray)).size+(aD x0.f4 7).size≤maxStr then some (((((((((aD x0.f0 (60:Int))++(⟨#[32]⟩:ByteArray))++(aD x0.f1 24))++(⟨#[32]⟩:ByteArray))++(aD x0.f2 31))++(⟨#[32]⟩:ByteArray))++(aD x0.f3 12))++(⟨#[32]⟩:ByteArray))++(aD x0.f4 7),true)else none else none else none else none else none else none else none else none else none else none else none else none else none else none else none else none else none else none) (some (ByteArray.empty,false))else none
theorem EN (x0:GCron):Ans (ny x0) (fun r=>Does E 55 [.agg (GCron.t .far x0)] [NY r.1,NX r.2]):=by
 unfold ny;refine NS (fun k => ?_);apply NQ<;>intro l
 ·refine NS (fun m => ?_);refine NS (fun n => ?_);refine NS (fun o => ?_);refine NS (fun p => ?_);refine NS (fun q => ?_);refine NS (fun s => ?_);refine NS (fun u => ?_);refine NS (fun v => ?_);refine NS (fun a => ?_);refine NS (fun b => ?_);refine NS (fun c => ?_);refine NS (fun d => ?_);refine NS (fun e => ?_);refine NS (fun f => ?_);refine NS (fun g => ?_);refine NS (fun h => ?_);refine NS (fun i => ?_);refine NS (fun j => ?_);exact NN (DP Tryz.f55 [rT,.ret [NY (aD x0.f0 60)],.val (.string ((aD x0.f0 (60:Int))++(⟨#[32]⟩:ByteArray))),.ret [NY (aD x0.f1 24)],.val (.string (((aD x0.f0 (60:Int))++(⟨#[32]⟩:ByteArray))++(aD x0.f1 24))),.val (.string ((((aD x0.f0 (60:Int))++(⟨#[32]⟩:ByteArray))++(aD x0.f1 24))++(⟨#[32]⟩:ByteArray))),.ret [NY (aD x0.f2 31)],.val (.string (((((aD x0.f0 (60:Int))++(⟨#[32]⟩:ByteArray))++(aD x0.f1 24))++(⟨#[32]⟩:ByteArray))++(aD x0.f2 31))),.val (.string ((((((aD x0.f0 (60:Int))++(⟨#[32]⟩:ByteArray))++(aD x0.f1 24))++(⟨#[32]⟩:ByteArray))++(aD x0.f2 31))++(⟨#[32]⟩:ByteArray))),.ret [NY (aD x0.f3 12)],.val (.string (((((((aD x0.f0 (60:Int))++(⟨#[32]⟩:ByteArray))++(aD x0.f1 24))++(⟨#[32]⟩:ByteArray))++(aD x0.f2 31))++(⟨#[32]⟩:ByteArray))++(aD x0.f3 12))),.val (.string ((((((((aD x0.f0 (60:Int))++(⟨#[32]⟩:ByteArray))++(aD x0.f1 24))++(⟨#[32]⟩:ByteArray))++(aD x0.f2 31))++(⟨#[32]⟩:ByteArray))++(aD x0.f3 12))++(⟨#[32]⟩:ByteArray))),.ret [NY (aD x0.f4 7)],.val (.string (((((((((aD x0.f0 (60:Int))++(⟨#[32]⟩:ByteArray))++(aD x0.f1 24))++(⟨#[32]⟩:ByteArray))++(aD x0.f2 31))++(⟨#[32]⟩:ByteArray))++(aD x0.f3 12))++(⟨#[32]⟩:ByteArray))++(aD x0.f4 7)))] (AD (NV (yw x0 k) l)<|AD (lM x0.f0 60 m n)<|AC (gw (tab:=E.tab) (t:=9) o)<|AD (lM x0.f1 24 p q)<|AC (gw (tab:=E.tab) (t:=9) s)<|AC (gw (tab:=E.tab) (t:=9) u)<|AD (lM x0.f2 31 v a)<|AC (gw (tab:=E.tab) (t:=9) b)<|AC (gw (tab:=E.tab) (t:=9) c)<|AD (lM x0.f3 12 d e)<|AC (gw (tab:=E.tab) (t:=9) f)<|AC (gw (tab:=E.tab) (t:=9) g)<|AD (lM x0.f4 7 h i)<|AC (gw (tab:=E.tab) (t:=9) j)<|AN))
 ·exact NN (DP Tryz.f55 [rF] (AD (NV (yw x0 k) l)<|AN))
inductive ut where|x2 (v7:List ByteArray)
def lZ (a b c d e:List Int)(v4 v7:List ByteArray)(f:Int)(v28:List Int)(g h:Int):US:=stL 48 [(1,.box () [.s .far () 1 (a.map etI),.s .far () 1 (b.map etI),.s .far () 1 (c.map etI),.s .far () 1 (d.map etI),.s .far () 1 (e.map etI)]),(4,.one (.s .own () 1 (v4.map etS))),(7,.one (.s .own () 1 (v7.map etS))),(13,.clo (.arr [0,1,2,3,4]) [1,1,1,1,1]),(14,NZ f),(28,.one (.s .far () 1 (v28.map etI))),(29,NZ g),(30,NZ h)]
def eY (a b c d e:List Int)(v4:List ByteArray)(f:Int)(g:List ByteArray):US:=stL 48 [(1,.box () [.s .far () 1 (a.map etI),.s .far () 1 (b.map etI),.s .far () 1 (c.map etI),.s .far () 1 (d.map etI),.s .far () 1 (e.map etI)]),(4,.one (.s .own () 1 (v4.map etS))),(7,.one (.s .own () 1 (g.map etS))),(13,.clo (.arr [0,1,2,3,4]) [1,1,1,1,1]),(14,NZ f)]
abbrev ur:US→Exit→US→Prop:=Round E 79 (aw Tryz.f79 1)
def B1 (a b c d e:List Int)(v4 v7:List ByteArray)(f:Int)(v28:List Int)(g h:Int):ut→Prop| .x2 i=>Loops E 79 (aw Tryz.f79 1) (lZ a b c d e v4 v7 f v28 g h) (.exit 2) (eY a b c d e v4 f i)
noncomputable def ci  : List Int→Nat→(List ByteArray)→Option ut|[],i,v7=>some (.x2 v7)|hd::rest,i,v7=>if -9223372036854775808≤hd∧hd≤9223372036854775807 then if(v7.length+([bp hd]).length)*16≤140737488355328∧v7.length+([bp hd]).length≤4611686018427387904 then ci rest (i+1) (v7++([bp hd]))else none else none
theorem jS (a b c d e:List Int)(v4:List ByteArray)(f:Int)(v28:List Int)(rest:List Int):∀(i:Nat)(v7:List ByteArray),(v28).drop i=rest→v28.length≤9223372036854775807→Ans (ci rest i v7) (B1 a b c d e v4 v7 f v28 (v28.length:Int) (i:Int)):=by
 induction rest with
 |nil =>intro i v7 g j;have hb:=bw g;unfold ci;exact NN (NP (show ur (lZ a b c d e v4 v7 f v28 (v28.length:Int) (i:Int)) (.exit 2) (eY a b c d e v4 f v7)from RP [.b false] (AC hb<|AN)) (by intro h;cases h))
 |cons hd rest l =>intro i v7 g j;have hb:=a8 g;have m:=ba g j;have k:=aG g;have n:=bc g;unfold ci;refine NS (fun o => ?_);refine NS (fun p => ?_);exact(l (i+1) (v7++([bp hd])) k j).mono fun y q=>by have r:ur (lZ a b c d e v4 v7 f v28 (v28.length:Int) (i:Int)) .normal (lZ a b c d e v4 (v7++([bp hd])) f v28 (v28.length:Int) (inc (i:Int))):=RP [.b true,.row (etI hd),.ret [NY (bp hd)],.rows ((v7++([bp hd])).map etS)] (AC hb<|AR etI n<|AD (rq hd o)<|AAp etS (fun _=>rfl) p<|AN);rw[m]at r;cases y<;>exact NO r q
inductive oV where|x0 (v4:List ByteArray)
def aZ (a b c d e:List Int)(v4:List ByteArray)(f:Int):US:=stL 48 [(1,.box () [.s .far () 1 (a.map etI),.s .far () 1 (b.map etI),.s .far () 1 (c.map etI),.s .far () 1 (d.map etI),.s .far () 1 (e.map etI)]),(4,.one (.s .own () 1 (v4.map etS))),(13,.clo (.arr [0,1,2,3,4]) [1,1,1,1,1]),(14,NZ f)]
def m7 (a:List ByteArray):US:=stL 48 [(4,.one (.s .own () 1 (a.map etS)))]
abbrev cU:US→Exit→US→Prop:=Round E 79 (aw Tryz.f79 0)
def BZ (a b c d e:List Int)(v4:List ByteArray)(f:Int):oV→Prop| .x0 g=>Loops E 79 (aw Tryz.f79 0) (aZ a b c d e v4 f) (.exit 0) (m7 g)
noncomputable def aL (c d e f g:List Int):Nat→(List ByteArray)→Int→Option oV
 | 0,_,_=>none
 |n+1,v4,b=>cond (decide (b<(5:Int)))
  (cond (b==(0:Int))
   (cond (nh c b)
    (if(v4.length+([(⟨#[42]⟩:ByteArray)]).length)*16≤140737488355328∧v4.length+([(⟨#[42]⟩:ByteArray)]).length≤4611686018427387904 then aL c d e f g n (v4++([(⟨#[42]⟩:ByteArray)])) (inc b)else none)
    (if c.length≤9223372036854775807 then(ci c 0 ([])).bind fun y=>match y with
     | .x2 a=>(if a.length≤140737488355328∧(aW a (⟨#[44]⟩:ByteArray)).size≤140737488355328 then if(v4.length+([aW a (⟨#[44]⟩:ByteArray)]).length)*16≤140737488355328∧v4.length+([aW a (⟨#[44]⟩:ByteArray)]).length≤4611686018427387904 then aL c d e f g n (v4++([aW a (⟨#[44]⟩:ByteArray)])) (inc b)else none else none)else none))
   (cond (b==(1:Int))
    (cond (nh d b)
     (if(v4.length+([(⟨#[42]⟩:ByteArray)]).length)*16≤140737488355328∧v4.length+([(⟨#[42]⟩:ByteArray)]).length≤4611686018427387904 then aL c d e f g n (v4++([(⟨#[42]⟩:ByteArray)])) (inc b)else none)
     (if d.length≤9223372036854775807 then(ci d 0 ([])).bind fun y=>match y with
      | .x2 a=>(if a.length≤140737488355328∧(aW a (⟨#[44]⟩:ByteArray)).size≤140737488355328 then if(v4.length+([aW a (⟨#[44]⟩:ByteArray)]).length)*16≤140737488355328∧v4.length+([aW a (⟨#[44]⟩:ByteArray)]).length≤4611686018427387904 then aL c d e f g n (v4++([aW a (⟨#[44]⟩:ByteArray)])) (inc b)else none else none)else none))
    (cond (b==(2:Int))
     (cond (nh e b)
      (if(v4.length+([(⟨#[42]⟩:ByteArray)]).length)*16≤140737488355328∧v4.length+([(⟨#[42]⟩:ByteArray)]).length≤4611686018427387904 then aL c d e f g n (v4++([(⟨#[42]⟩:ByteArray)])) (inc b)else none)
      (if e.length≤9223372036854775807 then(ci e 0 ([])).bind fun y=>match y with
       | .x2 a=>(if a.length≤140737488355328∧(aW a (⟨#[44]⟩:ByteArray)).size≤140737488355328 then if(v4.length+([aW a (⟨#[44]⟩:ByteArray)]).length)*16≤140737488355328∧v4.length+([aW a (⟨#[44]⟩:ByteArray)]).length≤4611686018427387904 then aL c d e f g n (v4++([aW a (⟨#[44]⟩:ByteArray)])) (inc b)else none else none)else none))
     (cond (b==(3:Int))
      (cond (nh f b)
       (if(v4.length+([(⟨#[42]⟩:ByteArray)]).length)*16≤140737488355328∧v4.length+([(⟨#[42]⟩:ByteArray)]).length≤4611686018427387904 then aL c d e f g n (v4++([(⟨#[42]⟩:ByteArray)])) (inc b)else none)
       (if f.length≤9223372036854775807 then(ci f 0 ([])).bind fun y=>match y with
        | .x2 a=>(if a.length≤140737488355328∧(aW a (⟨#[44]⟩:ByteArray)).size≤140737488355328 then if(v4.length+([aW a (⟨#[44]⟩:ByteArray)]).length)*16≤140737488355328∧v4.length+([aW a (⟨#[44]⟩:ByteArray)]).length≤4611686018427387904 then aL c d e f g n (v4++([aW a (⟨#[44]⟩:ByteArray)])) (inc b)else none else none)else none))
      (if b=(4:Int)then cond (nh g b)
       (if(v4.length+([(⟨#[42]⟩:ByteArray)]).length)*16≤140737488355328∧v4.length+([(⟨#[42]⟩:ByteArray)]).length≤4611686018427387904 then aL c d e f g n (v4++([(⟨#[42]⟩:ByteArray)])) (inc b)else none)
       (if g.length≤9223372036854775807 then(ci g 0 ([])).bind fun y=>match y with
        | .x2 a=>(if a.length≤140737488355328∧(aW a (⟨#[44]⟩:ByteArray)).size≤140737488355328 then if(v4.length+([aW a (⟨#[44]⟩:ByteArray)]).length)*16≤140737488355328∧v4.length+([aW a (⟨#[44]⟩:ByteArray)]).length≤4611686018427387904 then aL c d e f g n (v4++([aW a (⟨#[44]⟩:ByteArray)])) (inc b)else none else none)else none)else none)))))
  (some (.x0 v4))
theorem BY (c d e f g:List Int)(n:Nat):∀(v4:List ByteArray)(b:Int),Ans (aL c d e f g n v4 b) (BZ c d e f g v4 b):=by
 induction n with
 |zero=>intros;exact Ans.none
 |succ n o =>
  intro v4 b;unfold aL;apply NQ<;>intro l
  ·apply NQ<;>intro B
   ·apply NQ<;>intro v
    ·refine NS (fun s => ?_);have r:cU (aZ c d e f g v4 b) .normal (aZ c d e f g (v4++([(⟨#[42]⟩:ByteArray)])) (inc b)):=RP [.b true,N2 0,rT,.rows ((v4++([(⟨#[42]⟩:ByteArray)])).map etS)] (AC l<|AC (p:=b=(0:Int)) (eq_of_beq B)<|AD (NV (gC c b) v)<|AAp etS (fun _=>rfl) s<|AN);exact(o (v4++([(⟨#[42]⟩:ByteArray)])) (inc b)).mono fun y i=>by cases y<;>exact NO r i
    ·refine NS (fun w => ?_);refine NR (fun y i => ?_);replace i:=jS c d e f g v4 b c c 0 ([]) rfl w y i;cases y with
     |x2 a =>have s:=i;refine NS (fun m => ?_);refine NS (fun j => ?_);have r:cU (aZ c d e f g v4 b) .normal (aZ c d e f g (v4++([aW a (⟨#[44]⟩:ByteArray)])) (inc b)):=RP [.b true,N2 0,rF,N2 (c.length:Int),.lp (.exit 2) (eY c d e f g v4 b a),.ret [NY (aW a (⟨#[44]⟩:ByteArray))],.rows ((v4++([aW a (⟨#[44]⟩:ByteArray)])).map etS)] (AC l<|AC (p:=b=(0:Int)) (eq_of_beq B)<|AD (NV (gC c b) v)<|ALn c etI<|AL s<|AV (ψ:=fun k=>E.C k 98 [.one (.s .far () 1 (((a.map etS).drop 0).take (a.map etS).length)),N1 (⟨#[44]⟩:ByteArray)]=some [NY (aW a (⟨#[44]⟩:ByteArray))]) (NU (by simp only[OX,OR]) (gQ a (⟨#[44]⟩:ByteArray) m))<|AAp etS (fun _=>rfl) j<|AN);exact(o (v4++([aW a (⟨#[44]⟩:ByteArray)])) (inc b)).mono fun y i=>by cases y<;>exact NO r i
   ·apply NQ<;>intro v
    ·apply NQ<;>intro s
     ·refine NS (fun m => ?_);have r:cU (aZ c d e f g v4 b) .normal (aZ c d e f g (v4++([(⟨#[42]⟩:ByteArray)])) (inc b)):=RP [.b true,N2 1,rT,.rows ((v4++([(⟨#[42]⟩:ByteArray)])).map etS)] (AC l<|AC (p:=b=(1:Int)) (eq_of_beq v)<|AD (NV (gC d b) s)<|AAp etS (fun _=>rfl) m<|AN);exact(o (v4++([(⟨#[42]⟩:ByteArray)])) (inc b)).mono fun y i=>by cases y<;>exact NO r i
     ·refine NS (fun x => ?_);refine NR (fun y i => ?_);replace i:=jS c d e f g v4 b d d 0 ([]) rfl x y i;cases y with
      |x2 a =>have m:=i;refine NS (fun j => ?_);refine NS (fun q => ?_);have r:cU (aZ c d e f g v4 b) .normal (aZ c d e f g (v4++([aW a (⟨#[44]⟩:ByteArray)])) (inc b)):=RP [.b true,N2 1,rF,N2 (d.length:Int),.lp (.exit 2) (eY c d e f g v4 b a),.ret [NY (aW a (⟨#[44]⟩:ByteArray))],.rows ((v4++([aW a (⟨#[44]⟩:ByteArray)])).map etS)] (AC l<|AC (p:=b=(1:Int)) (eq_of_beq v)<|AD (NV (gC d b) s)<|ALn d etI<|AL m<|AV (ψ:=fun k=>E.C k 98 [.one (.s .far () 1 (((a.map etS).drop 0).take (a.map etS).length)),N1 (⟨#[44]⟩:ByteArray)]=some [NY (aW a (⟨#[44]⟩:ByteArray))]) (NU (by simp only[OX,OR]) (gQ a (⟨#[44]⟩:ByteArray) j))<|AAp etS (fun _=>rfl) q<|AN);exact(o (v4++([aW a (⟨#[44]⟩:ByteArray)])) (inc b)).mono fun y i=>by cases y<;>exact NO r i
    ·apply NQ<;>intro s
     ·apply NQ<;>intro m
      ·refine NS (fun j => ?_);have r:cU (aZ c d e f g v4 b) .normal (aZ c d e f g (v4++([(⟨#[42]⟩:ByteArray)])) (inc b)):=RP [.b true,N2 2,rT,.rows ((v4++([(⟨#[42]⟩:ByteArray)])).map etS)] (AC l<|AC (p:=b=(2:Int)) (eq_of_beq s)<|AD (NV (gC e b) m)<|AAp etS (fun _=>rfl) j<|AN);exact(o (v4++([(⟨#[42]⟩:ByteArray)])) (inc b)).mono fun y i=>by cases y<;>exact NO r i
      ·refine NS (fun z => ?_);refine NR (fun y i => ?_);replace i:=jS c d e f g v4 b e e 0 ([]) rfl z y i;cases y with
       |x2 a =>have j:=i;refine NS (fun q => ?_);refine NS (fun t => ?_);have r:cU (aZ c d e f g v4 b) .normal (aZ c d e f g (v4++([aW a (⟨#[44]⟩:ByteArray)])) (inc b)):=RP [.b true,N2 2,rF,N2 (e.length:Int),.lp (.exit 2) (eY c d e f g v4 b a),.ret [NY (aW a (⟨#[44]⟩:ByteArray))],.rows ((v4++([aW a (⟨#[44]⟩:ByteArray)])).map etS)] (AC l<|AC (p:=b=(2:Int)) (eq_of_beq s)<|AD (NV (gC e b) m)<|ALn e etI<|AL j<|AV (ψ:=fun k=>E.C k 98 [.one (.s .far () 1 (((a.map etS).drop 0).take (a.map etS).length)),N1 (⟨#[44]⟩:ByteArray)]=some [NY (aW a (⟨#[44]⟩:ByteArray))]) (NU (by simp only[OX,OR]) (gQ a (⟨#[44]⟩:ByteArray) q))<|AAp etS (fun _=>rfl) t<|AN);exact(o (v4++([aW a (⟨#[44]⟩:ByteArray)])) (inc b)).mono fun y i=>by cases y<;>exact NO r i
     ·apply NQ<;>intro m
      ·apply NQ<;>intro j
       ·refine NS (fun q => ?_);have r:cU (aZ c d e f g v4 b) .normal (aZ c d e f g (v4++([(⟨#[42]⟩:ByteArray)])) (inc b)):=RP [.b true,N2 3,rT,.rows ((v4++([(⟨#[42]⟩:ByteArray)])).map etS)] (AC l<|AC (p:=b=(3:Int)) (eq_of_beq m)<|AD (NV (gC f b) j)<|AAp etS (fun _=>rfl) q<|AN);exact(o (v4++([(⟨#[42]⟩:ByteArray)])) (inc b)).mono fun y i=>by cases y<;>exact NO r i
       ·refine NS (fun u => ?_);refine NR (fun y i => ?_);replace i:=jS c d e f g v4 b f f 0 ([]) rfl u y i;cases y with
        |x2 a =>have q:=i;refine NS (fun t => ?_);refine NS (fun A => ?_);have r:cU (aZ c d e f g v4 b) .normal (aZ c d e f g (v4++([aW a (⟨#[44]⟩:ByteArray)])) (inc b)):=RP [.b true,N2 3,rF,N2 (f.length:Int),.lp (.exit 2) (eY c d e f g v4 b a),.ret [NY (aW a (⟨#[44]⟩:ByteArray))],.rows ((v4++([aW a (⟨#[44]⟩:ByteArray)])).map etS)] (AC l<|AC (p:=b=(3:Int)) (eq_of_beq m)<|AD (NV (gC f b) j)<|ALn f etI<|AL q<|AV (ψ:=fun k=>E.C k 98 [.one (.s .far () 1 (((a.map etS).drop 0).take (a.map etS).length)),N1 (⟨#[44]⟩:ByteArray)]=some [NY (aW a (⟨#[44]⟩:ByteArray))]) (NU (by simp only[OX,OR]) (gQ a (⟨#[44]⟩:ByteArray) t))<|AAp etS (fun _=>rfl) A<|AN);exact(o (v4++([aW a (⟨#[44]⟩:ByteArray)])) (inc b)).mono fun y i=>by cases y<;>exact NO r i
      ·refine NS (fun j => ?_);apply NQ<;>intro q
       ·refine NS (fun t => ?_);have r:cU (aZ c d e f g v4 b) .normal (aZ c d e f g (v4++([(⟨#[42]⟩:ByteArray)])) (inc b)):=RP [.b true,N2 4,rT,.rows ((v4++([(⟨#[42]⟩:ByteArray)])).map etS)] (AC l<|AC j<|AD (NV (gC g b) q)<|AAp etS (fun _=>rfl) t<|AN);exact(o (v4++([(⟨#[42]⟩:ByteArray)])) (inc b)).mono fun y i=>by cases y<;>exact NO r i
       ·refine NS (fun u => ?_);refine NR (fun y i => ?_);replace i:=jS c d e f g v4 b g g 0 ([]) rfl u y i;cases y with
        |x2 a =>have t:=i;refine NS (fun A => ?_);refine NS (fun D => ?_);have r:cU (aZ c d e f g v4 b) .normal (aZ c d e f g (v4++([aW a (⟨#[44]⟩:ByteArray)])) (inc b)):=RP [.b true,N2 4,rF,N2 (g.length:Int),.lp (.exit 2) (eY c d e f g v4 b a),.ret [NY (aW a (⟨#[44]⟩:ByteArray))],.rows ((v4++([aW a (⟨#[44]⟩:ByteArray)])).map etS)] (AC l<|AC j<|AD (NV (gC g b) q)<|ALn g etI<|AL t<|AV (ψ:=fun k=>E.C k 98 [.one (.s .far () 1 (((a.map etS).drop 0).take (a.map etS).length)),N1 (⟨#[44]⟩:ByteArray)]=some [NY (aW a (⟨#[44]⟩:ByteArray))]) (NU (by simp only[OX,OR]) (gQ a (⟨#[44]⟩:ByteArray) A))<|AAp etS (fun _=>rfl) D<|AN);exact(o (v4++([aW a (⟨#[44]⟩:ByteArray)])) (inc b)).mono fun y i=>by cases y<;>exact NO r i
  ·exact NN (NP (show cU (aZ c d e f g v4 b) (.exit 0) (m7 v4)from RP [.b false] (AC l<|AN)) (by intro h;cases h))
noncomputable def m8 (x0:GCron):Option (ByteArray×Bool):=
  if ae.sm x0 then cond (iB x0)
   ((aL x0.f0 x0.f1 x0.f2 x0.f3 x0.f4 9223372036854775808 ([]) 0).bind fun y=>match y with
    | .x0 a=>(if a.length≤140737488355328∧(aW a (⟨#[32]⟩:ByteArray)).size≤140737488355328 then some (aW a (⟨#[32]⟩:ByteArray),true)else none))
   (some (ByteArray.empty,false))else none
theorem DM (x0:GCron):Ans (m8 x0) (fun r=>Does E 79 [.agg (GCron.t .far x0)] [NY r.1,NX r.2]):=by
 unfold m8;refine NS (fun c => ?_);apply NQ<;>intro d
 ·refine NR (fun y b => ?_);replace b:=BY x0.f0 x0.f1 x0.f2 x0.f3 x0.f4 9223372036854775808 ([]) 0 y b;cases y with
  |x0 a =>have e:=b;refine NS (fun f => ?_);exact NN (DP Tryz.f79 [rT,.lp (.exit 0) (m7 a),.ret [NY (aW a (⟨#[32]⟩:ByteArray))]] (AD (NV (yr x0 c) d)<|AL e<|AV (ψ:=fun k=>E.C k 98 [.one (.s .far () 1 (((a.map etS).drop 0).take (a.map etS).length)),N1 (⟨#[32]⟩:ByteArray)]=some [NY (aW a (⟨#[32]⟩:ByteArray))]) (NU (by simp only[OX,OR]) (gQ a (⟨#[32]⟩:ByteArray) f))<|AN))
 ·exact NN (DP Tryz.f79 [rF] (AD (NV (yr x0 c) d)<|AN))
theorem BE {a b:Int}:∀{l:List Int}{p:Option Int},jV a b l p=true→l.Pairwise (· < ·)∧∀y,p=some y→∀x∈l,y<x
 |[],p,_=>⟨by simp,fun y _ x hx=>by cases hx⟩
 |z::l,p,h=>by
  unfold jV at h;simp only[Ow]at h;obtain⟨d,f⟩:=BE h.2;have c:=f z rfl;refine⟨QO.2 ⟨c,d⟩,fun y e x hx => ?_⟩;subst e;have g:y<z:=by simpa using h.1.2
  rcases OB.1 hx with rfl|hx
  ·exact g
  ·have:=c x hx;omega
theorem EI {a b:Int}:∀{l:List Int}{p:Option Int},jV a b l p=true→∀x∈l,a≤x∧x≤b
 |[],_,_,x,hx=>by cases hx
 |y::l,p,h,x,hx=>by
  unfold jV at h;simp only[Ow]at h;rcases OB.1 hx with rfl|hx
  ·have:=h.1.1;unfold ag at this;simpa using this
  ·exact EI h.2 x hx
theorem Bu {l:List Int}{a b:Int}(h:aX l a b=true):∀x∈l,a≤x∧x≤b:=by unfold aX at h;rw[Ow]at h;have h:=h.1;exact EI h
theorem Ip {l:List Int}{a b:Int}(h:aX l a b=true)(c:a≤b+1):(l.length:Int)≤b+1-a:=by have hi:=Bu h;unfold aX at h;rw[Ow]at h;exact tZ a b l a (BE h.1).1 hi c
theorem yC {c:GCron}(h:iB c=true):aX c.f0 0 59=true∧aX c.f1 0 23=true∧aX c.f2 1 31=true∧aX c.f3 1 12=true∧aX c.f4 0 6=true:=by unfold iB at h;simp only[Ow]at h;exact h
theorem gL {l:List Int}{a b:Int}(h:aX l a b=true)(c:0≤a)(d:a≤b)(e:b≤59):l.length≤60∧∀z∈l,0≤z∧z≤59:=by have:=Ip h (by omega);exact⟨by omega,fun z hz=>by have:=Bu h z hz;omega⟩
noncomputable def tq (c:GCron):ByteArray:=ofTx (gR 32 [tx (aD c.f0 60),tx (aD c.f1 24),tx (aD c.f2 31),tx (aD c.f3 12),tx (aD c.f4 7)])
noncomputable def bf (c:GCron):ByteArray×Bool:=cond (iB c) (tq c,true) (ByteArray.empty,false)
theorem MS (a b c d e:ByteArray):((((((((a++⟨#[32]⟩)++b)++⟨#[32]⟩)++c)++⟨#[32]⟩)++d)++⟨#[32]⟩)++e:ByteArray)=ofTx (gR 32 [tx a,tx b,tx c,tx d,tx e]):=by apply zG;have f:tx (⟨#[32]⟩:ByteArray)=[32]:=rfl;simp[Kw,f,s7,gR]
theorem MF (c:GCron)(h:ae.sm c):ny c=some (bf c):=by
 unfold ny bf;rw[N5 h];cases q:iB c with
 |false=>rfl
 |true =>
  obtain⟨d,e,f,g,i⟩:=yC q;have a0:=gL d (by decide) (by decide) (by decide);have a:=gL e (by decide) (by decide) (by decide);have a2:=gL f (by decide) (by decide) (by decide);have a3:=gL g (by decide) (by decide) (by decide);have a4:=gL i (by decide) (by decide) (by decide);have z0:=fW a0.1 a0.2 60;have j:=fW a.1 a.2 24;have z2:=fW a2.1 a2.2 31;have z3:=fW a3.1 a3.2 12;have z4:=fW a4.1 a4.2 7;have b:(⟨#[32]⟩:ByteArray).size=1:=rfl;rw[Om,Om];simp only[N5 a0.1,N5 a0.2,N5 a.1,N5 a.2,N5 a2.1,N5 a2.2,N5 a3.1,N5 a3.2,N5 a4.1,N5 a4.2,Qz,b,maxStr];repeat rw[N5 (by omega)]
  rw[MS];rfl
theorem LD:∀(l:List Int)(i:Nat)(v:List ByteArray),(∀z∈l,0≤z∧z≤59)→v.length+l.length≤1000→ci l i v=some (.x2 (v++l.map bp))
 |[],i,v,_,_=>by unfold ci;simp
 |x::l,i,v,h,a=>by have b:=h x (by simp);simp only[OI]at a;unfold ci;rw[N5 (by omega),N5 (by simp;omega),LD l (i+1) _ (fun z hz=>h z (by simp[hz])) (by simp;omega)];simp
theorem oR (l:List Int)(d:l.length≤60)(c:∀z∈l,0≤z∧z≤59)(v:List ByteArray)(hv:v.length≤10)(b:Bool)(n:Int)(hb:b=((l.length:Int)==n))(K:List ByteArray→Option oV):
  cond b
    (if(v.length+([(⟨#[42]⟩:ByteArray)]).length)*16≤140737488355328∧v.length+([(⟨#[42]⟩:ByteArray)]).length≤4611686018427387904 then K (v++([(⟨#[42]⟩:ByteArray)]))else none)
    (if l.length≤9223372036854775807 then(ci l 0 ([])).bind fun y=>match y with
     | .x2 a=>(if a.length≤140737488355328∧(aW a (⟨#[44]⟩:ByteArray)).size≤140737488355328 then if(v.length+([aW a (⟨#[44]⟩:ByteArray)]).length)*16≤140737488355328∧v.length+([aW a (⟨#[44]⟩:ByteArray)]).length≤4611686018427387904 then K (v++([aW a (⟨#[44]⟩:ByteArray)]))else none else none)else none)=K (v++[aD l n]):=by
 subst hb;have f:aW (l.map bp) ⟨#[44]⟩=ofTx (gR 44 (l.map fun x=>tx (bp x))):=by
  have e:l.map bp=(l.map fun x=>tx (bp x)).map ofTx:=by rw[OQ];rfl
  rw[e,uu]
 unfold aD;have hz:=fW d c n;unfold aD at hz;cases q:(l.length:Int)==n with
 |true=>rw[Om,N5 (by simp;omega),Om]
 |false =>rw[q,Ou]at hz;rw[Ou,Ou,N5 (by omega),LD l 0 [] c (by simp;omega),N4];simp only[OE];rw[f,N5 (by rw[OF];omega),N5 (by simp;omega)]
theorem ME (c:GCron)(h:ae.sm c):m8 c=some (bf c):=by
 unfold m8 bf;rw[N5 h];cases q:iB c with
 |false=>rfl
 |true =>
  obtain⟨d,e,f,g,i⟩:=yC q;have a0:=gL d (by decide) (by decide) (by decide);have a:=gL e (by decide) (by decide) (by decide);have a2:=gL f (by decide) (by decide) (by decide);have a3:=gL g (by decide) (by decide) (by decide);have a4:=gL i (by decide) (by decide) (by decide);have z0:=fW a0.1 a0.2 60;have s:=fW a.1 a.2 24;have z2:=fW a2.1 a2.2 31;have z3:=fW a3.1 a3.2 12;have z4:=fW a4.1 a4.2 7;have j:∀n,aL c.f0 c.f1 c.f2 c.f3 c.f4 (n+1) [] 0=aL c.f0 c.f1 c.f2 c.f3 c.f4 n ([]++[aD c.f0 60]) 1:=fun n =>oR c.f0 a0.1 a0.2 [] (by simp) (nh c.f0 0) 60 rfl fun w=>aL c.f0 c.f1 c.f2 c.f3 c.f4 n w 1
  have k:∀n v,v.length≤10→aL c.f0 c.f1 c.f2 c.f3 c.f4 (n+1) v 1=aL c.f0 c.f1 c.f2 c.f3 c.f4 n (v++[aD c.f1 24]) 2:=fun n v hv =>oR c.f1 a.1 a.2 v hv (nh c.f1 1) 24 rfl fun w=>aL c.f0 c.f1 c.f2 c.f3 c.f4 n w 2
  have l:∀n v,v.length≤10→aL c.f0 c.f1 c.f2 c.f3 c.f4 (n+1) v 2=aL c.f0 c.f1 c.f2 c.f3 c.f4 n (v++[aD c.f2 31]) 3:=fun n v hv =>oR c.f2 a2.1 a2.2 v hv (nh c.f2 2) 31 rfl fun w=>aL c.f0 c.f1 c.f2 c.f3 c.f4 n w 3
  have m:∀n v,v.length≤10→aL c.f0 c.f1 c.f2 c.f3 c.f4 (n+1) v 3=aL c.f0 c.f1 c.f2 c.f3 c.f4 n (v++[aD c.f3 12]) 4:=fun n v hv =>oR c.f3 a3.1 a3.2 v hv (nh c.f3 3) 12 rfl fun w=>aL c.f0 c.f1 c.f2 c.f3 c.f4 n w 4
  have o:∀n v,v.length≤10→aL c.f0 c.f1 c.f2 c.f3 c.f4 (n+1) v 4=aL c.f0 c.f1 c.f2 c.f3 c.f4 n (v++[aD c.f4 7]) 5:=fun n v hv =>oR c.f4 a4.1 a4.2 v hv (nh c.f4 4) 7 rfl fun w=>aL c.f0 c.f1 c.f2 c.f3 c.f4 n w 5
  have p:∀n v,aL c.f0 c.f1 c.f2 c.f3 c.f4 (n+1) v 5=some (.x0 v):=fun n v=>rfl
  have st:aL c.f0 c.f1 c.f2 c.f3 c.f4 (9223372036854775802+6) [] 0=_:=j _;rw[k _ _ (by simp),l _ _ (by simp),m _ _ (by simp),o _ _ (by simp),p]at st;simp only[OE,Qu]at st;rw[Om,Om];refine(Ov (Option.bind · _) st).trans ?_;rw[N4];have r:aW [aD c.f0 60,aD c.f1 24,aD c.f2 31,aD c.f3 12,aD c.f4 7] ⟨#[32]⟩=tq c:=uu [tx (aD c.f0 60),tx (aD c.f1 24),tx (aD c.f2 31),tx (aD c.f3 12),tx (aD c.f4 7)] 32;have t:(tq c).size≤2000:=by
   unfold tq;rw[oP];have:=wZ 32 200 [tx (aD c.f0 60),tx (aD c.f1 24),tx (aD c.f2 31),tx (aD c.f3 12),tx (aD c.f4 7)] (fun x b=>by simp only[OB,PR,Qw]at b;rcases b with rfl|rfl|rfl|rfl|rfl<;>rw[←df]<;>assumption);simp only[OI,Q1]at this;omega
  show(if _ then _ else none)=_;rw[r,N5 ⟨by simp,by omega⟩]
theorem eX (x0:GCron)(h:ae.sm x0):Does E 55 [.agg (GCron.t .far x0)] [NY ((bf x0).1),NX ((bf x0).2)]:=by exact EN x0 _ (MF x0 h)
theorem uV (x0:GCron)(h:ae.sm x0):Does E 79 [.agg (GCron.t .far x0)] [NY ((bf x0).1),NX ((bf x0).2)]:=by exact DM x0 _ (ME x0 h)
end
end Go.Proofs.YtkgecjmfkcohkaaGreatDoor.Am
