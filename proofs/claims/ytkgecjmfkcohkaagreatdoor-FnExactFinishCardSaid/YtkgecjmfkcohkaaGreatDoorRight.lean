/- Right runs. -/
import Derived.Test.YtkgecjmfkcohkaaGreatDoorUps
namespace Go.Proofs.YtkgecjmfkcohkaaGreatDoor.Am
open Go
set_option linter.unusedVariables false
set_option linter.unusedSimpArgs false
section
open Go.Proofs Classical
set_option maxRecDepth 100000
noncomputable def rW (x0:GSpan):Option (Bool):=cond (decide (x0.f0≥(0:Int))) (cond (decide (x0.f0<x0.f1)) (some (decide (x0.f1≤(68374079:Int)))) (some (false))) (some (false))
theorem GB (x0:GSpan):Ans (rW x0) (fun r=>Does E 58 [.agg (GSpan.t x0)] [NX r]):=by
 unfold rW;apply NQ<;>intro a
 ·apply NQ<;>intro b
  ·exact NN (DP Tryz.f58 [.b true,.b true] (AC a<|AC b<|AN))
  ·exact NN (DP Tryz.f58 [.b true,.b false] (AC a<|AC b<|AN))
 ·exact NN (DP Tryz.f58 [.b false] (AC a<|AN))
def oQ (s:GSpan):Bool:=decide (s.f0≥0)&&(decide (s.f0<s.f1)&&decide (s.f1≤68374079))
theorem lN (x0:GSpan):Does E 58 [.agg (GSpan.t x0)] [NX (oQ x0)]:=by exact GB x0 _ (by unfold rW oQ;cases decide (x0.f0≥0)<;>cases decide (x0.f0<x0.f1)<;>rfl)
noncomputable def tJ (x0:GSpan):Option (Bool):=cond (decide (x0.f0≥(0:Int))) (cond (decide (x0.f0<x0.f1)) (some (decide (x0.f1≤(68374079:Int)))) (some (false))) (some (false))
theorem Id (x0:GSpan):Ans (tJ x0) (fun r=>Does E 68 [.agg (GSpan.t x0)] [NX r]):=by
 unfold tJ;apply NQ<;>intro a
 ·apply NQ<;>intro b
  ·exact NN (DP Tryz.f68 [.b true,.b true] (AC a<|AC b<|AN))
  ·exact NN (DP Tryz.f68 [.b true,.b false] (AC a<|AC b<|AN))
 ·exact NN (DP Tryz.f68 [.b false] (AC a<|AN))
theorem mS (x0:GSpan):Does E 68 [.agg (GSpan.t x0)] [NX (oQ x0)]:=by exact Id x0 _ (by unfold tJ oQ;cases decide (x0.f0≥0)<;>cases decide (x0.f0<x0.f1)<;>rfl)
noncomputable def vE (x0:GState):Option (Bool):=cond (x0.f0==(3:Int)) (some (true)) (some (x0.f0==(4:Int)))
theorem JH (x0:GState):Ans (vE x0) (fun r=>Does E 71 [.agg (GState.t x0)] [NX r]):=by
 unfold vE;apply NQ<;>intro a
 ·exact NN (DP Tryz.f71 [.b true] (AC a<|AN))
 ·exact NN (DP Tryz.f71 [.b false] (AC a<|AN))
noncomputable def yX (x0:GState):Option (Bool):=some (x0.f0==(2:Int))
theorem H9 (x0:GState):Ans (yX x0) (fun r=>Does E 86 [.agg (GState.t x0)] [NX r]):=by unfold yX;exact NN (DP Tryz.f86 [] AN)
def e8 (x:GState):Bool:=x.f0==3 ||x.f0==4
def dQ (x:GState):Bool:=x.f0==2
theorem qO (x0:GState):Does E 71 [.agg (GState.t x0)] [NX (e8 x0)]:=by exact JH x0 _ (by unfold vE e8;cases x0.f0==3<;>rfl)
theorem pq (x0:GState):Does E 86 [.agg (GState.t x0)] [NX (dQ x0)]:=by exact H9 x0 _ rfl
inductive xE where|x0 (v8 v9:Bool)
def b9 (q0:Kd)(a:ByteArray)(b c d:Int)(e:List GState)(v8 v9:Bool)(v10:List Int)(v11:Int):US:=stL 47 [(4,.box () [tS a,tI b,tI c,tI d,.s .far () 4 (e.map GState.t)]),(8,N0 v8),(9,N0 v9),(10,.one (.s .own () 1 (v10.map etI))),(11,NZ v11)]
def iw (q0:Kd)(a b:Bool):US:=stL 47 [(8,N0 a),(9,N0 b)]
abbrev eV:US→Exit→US→Prop:=Round E 40 (aw Tryz.f40 0)
def GD {q0:Kd}(a:ByteArray)(b c d:Int)(e:List GState)(v8 v9:Bool)(v10:List Int)(v11:Int):xE→Prop| .x0 f g=>Loops E 40 (aw Tryz.f40 0) (b9 q0 a b c d e v8 v9 v10 v11) (.exit 0) (iw q0 f g)
noncomputable def dI (a:List GState)(v10:List Int):Nat→Bool→Bool→Int→Option xE
 | 0,_,_,_=>none
 |n+1,v8,v9,v11=>match v8 with
  |true=>match v9 with
   |true=>cond (decide (v11<(v10.length:Int)))
    ((ap v10 v11).bind fun b=>(ap a b).bind fun g1=>dI a v10 n (g1.f0==(2:Int)) true (inc v11))
    (some (.x0 v8 v9))
   |false=>cond (decide (v11<(v10.length:Int)))
    ((ap v10 v11).bind fun b=>(ap a b).bind fun g1=>cond (g1.f0==(3:Int))
     (dI a v10 n (g1.f0==(2:Int)) true (inc v11))
     (dI a v10 n (g1.f0==(2:Int)) (g1.f0==(4:Int)) (inc v11)))
    (some (.x0 v8 v9))
  |false=>match v9 with
   |true=>cond (decide (v11<(v10.length:Int)))
    ((ap v10 v11).bind fun b=>(ap a b).bind fun g1=>dI a v10 n false true (inc v11))
    (some (.x0 v8 v9))
   |false=>cond (decide (v11<(v10.length:Int)))
    ((ap v10 v11).bind fun b=>(ap a b).bind fun g1=>cond (g1.f0==(3:Int))
     (dI a v10 n false true (inc v11))
     (dI a v10 n false (g1.f0==(4:Int)) (inc v11)))
    (some (.x0 v8 v9))
theorem GC {q0:Kd}(b:ByteArray)(c d e:Int)(a:List GState)(v10:List Int)(n:Nat):∀(v8 v9:Bool)(v11:Int),Ans (dI a v10 n v8 v9 v11) (GD (q0:=q0) b c d e a v8 v9 v10 v11):=by
 induction n with
 |zero=>intros;exact Ans.none
 |succ n l =>
  intro v8 v9 v11;unfold dI;cases v8 with
  |true =>
   cases v9 with
   |true =>
    apply NQ<;>intro f
    ·refine NR (fun i j => ?_);refine NR (fun g1 k => ?_);have r:eV (b9 q0 b c d e a true true v10 v11) .normal (b9 q0 b c d e a (g1.f0==(2:Int)) true v10 (inc v11)):=RP [N2 (v10.length:Int),.b true,.row (etI i),.row (GState.t g1)] (ALn v10 etI<|AC f<|AG etI j<|AR GState.t k<|AN);exact(l (g1.f0==(2:Int)) true (inc v11)).mono fun y g=>by cases y<;>exact NO r g
    ·exact NN (NP (show eV (b9 q0 b c d e a true true v10 v11) (.exit 0) (iw q0 true true)from RP [N2 (v10.length:Int),.b false] (ALn v10 etI<|AC f<|AN)) (by intro h;cases h))
   |false =>
    apply NQ<;>intro f
    ·refine NR (fun i j => ?_);refine NR (fun g1 k => ?_);apply NQ<;>intro m
     ·have r:eV (b9 q0 b c d e a true false v10 v11) .normal (b9 q0 b c d e a (g1.f0==(2:Int)) true v10 (inc v11)):=RP [N2 (v10.length:Int),.b true,.row (etI i),.row (GState.t g1),.no,.b true] (ALn v10 etI<|AC f<|AG etI j<|AR GState.t k<|AC m<|AN);exact(l (g1.f0==(2:Int)) true (inc v11)).mono fun y g=>by cases y<;>exact NO r g
     ·have r:eV (b9 q0 b c d e a true false v10 v11) .normal (b9 q0 b c d e a (g1.f0==(2:Int)) (g1.f0==(4:Int)) v10 (inc v11)):=RP [N2 (v10.length:Int),.b true,.row (etI i),.row (GState.t g1),.no,.b false] (ALn v10 etI<|AC f<|AG etI j<|AR GState.t k<|AC m<|AN);exact(l (g1.f0==(2:Int)) (g1.f0==(4:Int)) (inc v11)).mono fun y g=>by cases y<;>exact NO r g
    ·exact NN (NP (show eV (b9 q0 b c d e a true false v10 v11) (.exit 0) (iw q0 true false)from RP [N2 (v10.length:Int),.b false] (ALn v10 etI<|AC f<|AN)) (by intro h;cases h))
  |false =>
   cases v9 with
   |true =>
    apply NQ<;>intro f
    ·refine NR (fun i j => ?_);refine NR (fun g1 k => ?_);have r:eV (b9 q0 b c d e a false true v10 v11) .normal (b9 q0 b c d e a false true v10 (inc v11)):=RP [N2 (v10.length:Int),.b true,.row (etI i),.row (GState.t g1)] (ALn v10 etI<|AC f<|AG etI j<|AR GState.t k<|AN);exact(l false true (inc v11)).mono fun y g=>by cases y<;>exact NO r g
    ·exact NN (NP (show eV (b9 q0 b c d e a false true v10 v11) (.exit 0) (iw q0 false true)from RP [N2 (v10.length:Int),.b false] (ALn v10 etI<|AC f<|AN)) (by intro h;cases h))
   |false =>
    apply NQ<;>intro f
    ·refine NR (fun i j => ?_);refine NR (fun g1 k => ?_);apply NQ<;>intro m
     ·have r:eV (b9 q0 b c d e a false false v10 v11) .normal (b9 q0 b c d e a false true v10 (inc v11)):=RP [N2 (v10.length:Int),.b true,.row (etI i),.row (GState.t g1),.b true] (ALn v10 etI<|AC f<|AG etI j<|AR GState.t k<|AC m<|AN);exact(l false true (inc v11)).mono fun y g=>by cases y<;>exact NO r g
     ·have r:eV (b9 q0 b c d e a false false v10 v11) .normal (b9 q0 b c d e a false (g1.f0==(4:Int)) v10 (inc v11)):=RP [N2 (v10.length:Int),.b true,.row (etI i),.row (GState.t g1),.b false] (ALn v10 etI<|AC f<|AG etI j<|AR GState.t k<|AC m<|AN);exact(l false (g1.f0==(4:Int)) (inc v11)).mono fun y g=>by cases y<;>exact NO r g
    ·exact NN (NP (show eV (b9 q0 b c d e a false false v10 v11) (.exit 0) (iw q0 false false)from RP [N2 (v10.length:Int),.b false] (ALn v10 etI<|AC f<|AN)) (by intro h;cases h))
noncomputable def pO (x0:GDag)(c:GRun)(x2:Int):Option (Bool×Bool):=
  if ae.sm x0 then if aR x0=true then if 0≤x2∧x2<(x0.f5.length:Int)then(dI c.f3 (ups x0 x2) 9223372036854775808 true false 0).bind fun y=>match y with
   | .x0 a b=>(some (a,b))else none else none else none
theorem IJ {q0:Kd}(x0:GDag)(a:GRun)(x2:Int):Ans (pO x0 a x2) (fun r=>Does E 40 [.agg (GDag.t .far q0 x0),.agg (GRun.t .far a),NZ x2] [NX r.1,NX r.2]):=by
 unfold pO;refine NS (fun e => ?_);refine NS (fun f => ?_);refine NS (fun g => ?_);refine NR (fun y d => ?_);replace d:=GC (q0:=q0) a.f0 a.f1.f0 a.f1.f1 a.f2 a.f3 (ups x0 x2) 9223372036854775808 true false 0 y d;cases y with
 |x0 b c =>have h:=d;exact NN (DP Tryz.f40 [.ret [(false,[.s .own () 1 ((ups x0 x2).map etI)])],.lp (.exit 0) (iw q0 b c)] (AV (ψ:=fun k=>E.C k 61 [.agg (GDag.t .far q0 x0),NZ x2]=some [(false,[.s .own () 1 ((ups x0 x2).map etI)])]) (Hr x0 x2 e f g)<|AL h<|AN))
inductive nf where|x0 (v10 v11:Bool)
def bh (q0:Kd)(a:ByteArray)(b c d:Int)(v5_4:List GState)(v10 v11:Bool)(e:List Int)(f g:Int):US:=stL 41 [(3,.fni 86 []),(5,.box () [tS a,tI b,tI c,tI d,.s .far () 4 (v5_4.map GState.t)]),(10,N0 v10),(11,N0 v11),(17,.one (.s .own () 1 (e.map etI))),(18,NZ f),(19,NZ g)]
def da (q0:Kd)(a b:Bool):US:=stL 41 [(10,N0 a),(11,N0 b)]
abbrev cn:US→Exit→US→Prop:=Round E 70 (aw Tryz.f70 0)
def tL {q0:Kd}(a:ByteArray)(b c d:Int)(v5_4:List GState)(v10 v11:Bool)(g:List Int)(h i:Int):nf→Prop| .x0 e f=>Loops E 70 (aw Tryz.f70 0) (bh q0 a b c d v5_4 v10 v11 g h i) (.exit 0) (da q0 e f)
noncomputable def bQ (v5_4:List GState)(b:List Int)(c:Int):Nat→Bool→Bool→Int→Option nf
 | 0,_,_,_=>none
 |n+1,v10,v11,a=>match v10 with
  |true=>match v11 with
   |true=>cond (decide (a<c))
    ((ap b a).bind fun d=>(ap v5_4 d).bind fun g1=>bQ v5_4 b c n (dQ g1) true (inc a))
    (some (.x0 v10 v11))
   |false=>cond (decide (a<c))
    ((ap b a).bind fun d=>(ap v5_4 d).bind fun g1=>bQ v5_4 b c n (dQ g1) (dQ g1) (inc a))
    (some (.x0 v10 v11))
  |false=>match v11 with
   |true=>cond (decide (a<c))
    ((ap b a).bind fun d=>(ap v5_4 d).bind fun g1=>bQ v5_4 b c n false true (inc a))
    (some (.x0 v10 v11))
   |false=>cond (decide (a<c))
    ((ap b a).bind fun d=>(ap v5_4 d).bind fun g1=>bQ v5_4 b c n false (dQ g1) (inc a))
    (some (.x0 v10 v11))
theorem tK {q0:Kd}(a:ByteArray)(b c d:Int)(v5_4:List GState)(f:List Int)(g:Int)(n:Nat):∀(v10 v11:Bool)(e:Int),Ans (bQ v5_4 f g n v10 v11 e) (tL (q0:=q0) a b c d v5_4 v10 v11 f g e):=by
 induction n with
 |zero=>intros;exact Ans.none
 |succ n o =>
  intro v10 v11 e;unfold bQ;cases v10 with
  |true =>
   cases v11 with
   |true =>
    apply NQ<;>intro i
    ·refine NR (fun j k => ?_);refine NR (fun g1 l => ?_);have r:cn (bh q0 a b c d v5_4 true true f g e) .normal (bh q0 a b c d v5_4 (dQ g1) true f g (inc e)):=RP [.b true,.row (etI j),.row (GState.t g1),.ret [NX (dQ g1)]] (AC i<|AG etI k<|AR GState.t l<|AD (pq g1)<|AN);exact(o (dQ g1) true (inc e)).mono fun y m=>by cases y<;>exact NO r m
    ·exact NN (NP (show cn (bh q0 a b c d v5_4 true true f g e) (.exit 0) (da q0 true true)from RP [.b false] (AC i<|AN)) (by intro h;cases h))
   |false =>
    apply NQ<;>intro i
    ·refine NR (fun j k => ?_);refine NR (fun g1 l => ?_);have r:cn (bh q0 a b c d v5_4 true false f g e) .normal (bh q0 a b c d v5_4 (dQ g1) (dQ g1) f g (inc e)):=RP [.b true,.row (etI j),.row (GState.t g1),.ret [NX (dQ g1)]] (AC i<|AG etI k<|AR GState.t l<|AD (pq g1)<|AN);exact(o (dQ g1) (dQ g1) (inc e)).mono fun y m=>by cases y<;>exact NO r m
    ·exact NN (NP (show cn (bh q0 a b c d v5_4 true false f g e) (.exit 0) (da q0 true false)from RP [.b false] (AC i<|AN)) (by intro h;cases h))
  |false =>
   cases v11 with
   |true =>
    apply NQ<;>intro i
    ·refine NR (fun j k => ?_);refine NR (fun g1 l => ?_);have r:cn (bh q0 a b c d v5_4 false true f g e) .normal (bh q0 a b c d v5_4 false true f g (inc e)):=RP [.b true,.row (etI j),.row (GState.t g1),.ret [NX (dQ g1)]] (AC i<|AG etI k<|AR GState.t l<|AD (pq g1)<|AN);exact(o false true (inc e)).mono fun y m=>by cases y<;>exact NO r m
    ·exact NN (NP (show cn (bh q0 a b c d v5_4 false true f g e) (.exit 0) (da q0 false true)from RP [.b false] (AC i<|AN)) (by intro h;cases h))
   |false =>
    apply NQ<;>intro i
    ·refine NR (fun j k => ?_);refine NR (fun g1 l => ?_);have r:cn (bh q0 a b c d v5_4 false false f g e) .normal (bh q0 a b c d v5_4 false (dQ g1) f g (inc e)):=RP [.b true,.row (etI j),.row (GState.t g1),.ret [NX (dQ g1)]] (AC i<|AG etI k<|AR GState.t l<|AD (pq g1)<|AN);exact(o false (dQ g1) (inc e)).mono fun y m=>by cases y<;>exact NO r m
    ·exact NN (NP (show cn (bh q0 a b c d v5_4 false false f g e) (.exit 0) (da q0 false false)from RP [.b false] (AC i<|AN)) (by intro h;cases h))
noncomputable def ig (x0:GDag)(c:GRun)(x2:Int):Option (Bool×Bool):=
  if ae.sm x0 then if aR x0=true then if 0≤x2∧x2<(x0.f5.length:Int)then(bQ c.f3 (ups x0 x2) ((ups x0 x2).length:Int) 9223372036854775808 true false 0).bind fun y=>match y with
   | .x0 a b=>(some (a,b))else none else none else none
theorem uQ {q0:Kd}(x0:GDag)(a:GRun)(x2:Int):Ans (ig x0 a x2) (fun r=>Does E 70 [.agg (GDag.t .far q0 x0),.agg (GRun.t .far a),NZ x2,.fni 86 []] [NX r.1,NX r.2]):=by
 unfold ig;refine NS (fun e => ?_);refine NS (fun f => ?_);refine NS (fun g => ?_);refine NR (fun y d => ?_);replace d:=tK (q0:=q0) a.f0 a.f1.f0 a.f1.f1 a.f2 a.f3 (ups x0 x2) ((ups x0 x2).length:Int) 9223372036854775808 true false 0 y d;cases y with
 |x0 b c =>have h:=d;exact NN (DP Tryz.f70 [.ret [(false,[.s .own () 1 ((ups x0 x2).map etI)])],N2 ((ups x0 x2).length:Int),.lp (.exit 0) (da q0 b c)] (AV (ψ:=fun k=>E.C k 87 [.agg (GDag.t .far q0 x0),NZ x2]=some [(false,[.s .own () 1 ((ups x0 x2).map etI)])]) (GL x0 x2 e f g)<|ALn (ups x0 x2) etI<|AL h<|AN))
inductive nJ where|x0 (v10 v11:Bool)
def bu (q0:Kd)(a:ByteArray)(b c d:Int)(v5_4:List GState)(v10 v11:Bool)(e:List Int)(f g:Int):US:=stL 41 [(3,.fni 71 []),(5,.box () [tS a,tI b,tI c,tI d,.s .far () 4 (v5_4.map GState.t)]),(10,N0 v10),(11,N0 v11),(17,.one (.s .own () 1 (e.map etI))),(18,NZ f),(19,NZ g)]
def dt (q0:Kd)(a b:Bool):US:=stL 41 [(10,N0 a),(11,N0 b)]
abbrev cD:US→Exit→US→Prop:=Round E 70 (aw Tryz.f70 0)
def uP {q0:Kd}(a:ByteArray)(b c d:Int)(v5_4:List GState)(v10 v11:Bool)(g:List Int)(h i:Int):nJ→Prop| .x0 e f=>Loops E 70 (aw Tryz.f70 0) (bu q0 a b c d v5_4 v10 v11 g h i) (.exit 0) (dt q0 e f)
noncomputable def bX (v5_4:List GState)(b:List Int)(c:Int):Nat→Bool→Bool→Int→Option nJ
 | 0,_,_,_=>none
 |n+1,v10,v11,a=>match v10 with
  |true=>match v11 with
   |true=>cond (decide (a<c))
    ((ap b a).bind fun d=>(ap v5_4 d).bind fun g1=>bX v5_4 b c n (e8 g1) true (inc a))
    (some (.x0 v10 v11))
   |false=>cond (decide (a<c))
    ((ap b a).bind fun d=>(ap v5_4 d).bind fun g1=>bX v5_4 b c n (e8 g1) (e8 g1) (inc a))
    (some (.x0 v10 v11))
  |false=>match v11 with
   |true=>cond (decide (a<c))
    ((ap b a).bind fun d=>(ap v5_4 d).bind fun g1=>bX v5_4 b c n false true (inc a))
    (some (.x0 v10 v11))
   |false=>cond (decide (a<c))
    ((ap b a).bind fun d=>(ap v5_4 d).bind fun g1=>bX v5_4 b c n false (e8 g1) (inc a))
    (some (.x0 v10 v11))
theorem uO {q0:Kd}(a:ByteArray)(b c d:Int)(v5_4:List GState)(f:List Int)(g:Int)(n:Nat):∀(v10 v11:Bool)(e:Int),Ans (bX v5_4 f g n v10 v11 e) (uP (q0:=q0) a b c d v5_4 v10 v11 f g e):=by
 induction n with
 |zero=>intros;exact Ans.none
 |succ n o =>
  intro v10 v11 e;unfold bX;cases v10 with
  |true =>
   cases v11 with
   |true =>
    apply NQ<;>intro i
    ·refine NR (fun j k => ?_);refine NR (fun g1 l => ?_);have r:cD (bu q0 a b c d v5_4 true true f g e) .normal (bu q0 a b c d v5_4 (e8 g1) true f g (inc e)):=RP [.b true,.row (etI j),.row (GState.t g1),.ret [NX (e8 g1)]] (AC i<|AG etI k<|AR GState.t l<|AD (qO g1)<|AN);exact(o (e8 g1) true (inc e)).mono fun y m=>by cases y<;>exact NO r m
    ·exact NN (NP (show cD (bu q0 a b c d v5_4 true true f g e) (.exit 0) (dt q0 true true)from RP [.b false] (AC i<|AN)) (by intro h;cases h))
   |false =>
    apply NQ<;>intro i
    ·refine NR (fun j k => ?_);refine NR (fun g1 l => ?_);have r:cD (bu q0 a b c d v5_4 true false f g e) .normal (bu q0 a b c d v5_4 (e8 g1) (e8 g1) f g (inc e)):=RP [.b true,.row (etI j),.row (GState.t g1),.ret [NX (e8 g1)]] (AC i<|AG etI k<|AR GState.t l<|AD (qO g1)<|AN);exact(o (e8 g1) (e8 g1) (inc e)).mono fun y m=>by cases y<;>exact NO r m
    ·exact NN (NP (show cD (bu q0 a b c d v5_4 true false f g e) (.exit 0) (dt q0 true false)from RP [.b false] (AC i<|AN)) (by intro h;cases h))
  |false =>
   cases v11 with
   |true =>
    apply NQ<;>intro i
    ·refine NR (fun j k => ?_);refine NR (fun g1 l => ?_);have r:cD (bu q0 a b c d v5_4 false true f g e) .normal (bu q0 a b c d v5_4 false true f g (inc e)):=RP [.b true,.row (etI j),.row (GState.t g1),.ret [NX (e8 g1)]] (AC i<|AG etI k<|AR GState.t l<|AD (qO g1)<|AN);exact(o false true (inc e)).mono fun y m=>by cases y<;>exact NO r m
    ·exact NN (NP (show cD (bu q0 a b c d v5_4 false true f g e) (.exit 0) (dt q0 false true)from RP [.b false] (AC i<|AN)) (by intro h;cases h))
   |false =>
    apply NQ<;>intro i
    ·refine NR (fun j k => ?_);refine NR (fun g1 l => ?_);have r:cD (bu q0 a b c d v5_4 false false f g e) .normal (bu q0 a b c d v5_4 false (e8 g1) f g (inc e)):=RP [.b true,.row (etI j),.row (GState.t g1),.ret [NX (e8 g1)]] (AC i<|AG etI k<|AR GState.t l<|AD (qO g1)<|AN);exact(o false (e8 g1) (inc e)).mono fun y m=>by cases y<;>exact NO r m
    ·exact NN (NP (show cD (bu q0 a b c d v5_4 false false f g e) (.exit 0) (dt q0 false false)from RP [.b false] (AC i<|AN)) (by intro h;cases h))
noncomputable def iH (x0:GDag)(c:GRun)(x2:Int):Option (Bool×Bool):=
  if ae.sm x0 then if aR x0=true then if 0≤x2∧x2<(x0.f5.length:Int)then(bX c.f3 (ups x0 x2) ((ups x0 x2).length:Int) 9223372036854775808 true false 0).bind fun y=>match y with
   | .x0 a b=>(some (a,b))else none else none else none
theorem vI {q0:Kd}(x0:GDag)(a:GRun)(x2:Int):Ans (iH x0 a x2) (fun r=>Does E 70 [.agg (GDag.t .far q0 x0),.agg (GRun.t .far a),NZ x2,.fni 71 []] [NX r.1,NX r.2]):=by
 unfold iH;refine NS (fun e => ?_);refine NS (fun f => ?_);refine NS (fun g => ?_);refine NR (fun y d => ?_);replace d:=uO (q0:=q0) a.f0 a.f1.f0 a.f1.f1 a.f2 a.f3 (ups x0 x2) ((ups x0 x2).length:Int) 9223372036854775808 true false 0 y d;cases y with
 |x0 b c =>have h:=d;exact NN (DP Tryz.f70 [.ret [(false,[.s .own () 1 ((ups x0 x2).map etI)])],N2 ((ups x0 x2).length:Int),.lp (.exit 0) (dt q0 b c)] (AV (ψ:=fun k=>E.C k 87 [.agg (GDag.t .far q0 x0),NZ x2]=some [(false,[.s .own () 1 ((ups x0 x2).map etI)])]) (GL x0 x2 e f g)<|ALn (ups x0 x2) etI<|AL h<|AN))
def pX (p:GState→Bool)(ts:List GState)(l:List Int):Bool:=l.all fun u=>match ap ts u with|some x=>p x|none=>false
def oi (p:GState→Bool)(ts:List GState)(l:List Int):Bool:=l.any fun u=>match ap ts u with|some x=>p x|none=>false
noncomputable def Kx (p:GState→Bool)(d:GDag)(r:GRun)(i:Int):Bool×Bool:=(pX p r.f3 (ups d i),oi p r.f3 (ups d i))
noncomputable def bF (d:GDag)(r:GRun)(i:Int):Bool×Bool:=Kx dQ d r i
noncomputable def bq (d:GDag)(r:GRun)(i:Int):Bool×Bool:=Kx e8 d r i
noncomputable def aA (d:GDag)(r:GRun)(i:Int):Bool×Bool:=((bF d r i).1,(bq d r i).2)
theorem BO (ts:List GState)(aF:List Int)(hf:∀x∈aF,0≤x∧x<(ts.length:Int))(i:aF.length≤1000):∀(m k n:Nat)(a b:Bool),k+m=aF.length→m<n →
  dI ts aF n a b (k:Int)=some (.x0 (a&&pX dQ ts (aF.drop k)) (b ||oi e8 ts (aF.drop k))) ∧
  bQ ts aF (aF.length:Int) n a b (k:Int)=some (.x0 (a&&pX dQ ts (aF.drop k)) (b ||oi dQ ts (aF.drop k))) ∧
  bX ts aF (aF.length:Int) n a b (k:Int)=some (.x0 (a&&pX e8 ts (aF.drop k)) (b ||oi e8 ts (aF.drop k)))
 |m,k,0,a,b,_,g=>by omega
 | 0,k,n+1,a,b,j,g=>by have hd:aF.drop k=[]:=OV (by omega);have hc:decide ((k:Int)<(aF.length:Int))=false:=Oe (by omega);rw[hd];unfold dI bQ bX;rw[hc];cases a<;>cases b<;>exact⟨rfl,rfl,rfl⟩
 |m+1,k,n+1,a,b,j,g=>by
  have c:k<aF.length:=by omega
  have hd:aF.drop k=aF[k]::aF.drop (k+1):=PB c;have hc:decide ((k:Int)<(aF.length:Int))=true:=Of (by omega);have l:ap aF (k:Int)=some aF[k]:=by rw[ex];exact Oa c
  obtain⟨x,d,_⟩:=fi (hf aF[k] (PE _));have e:inc (k:Int)=((k+1:Nat):Int):=by rw[eJ _ (by omega) (by omega)];omega
  have f:=fun a b=>BO ts aF hf i m (k+1) n a b (by omega) (by omega)
  have h:∀p,pX p ts (aF.drop k)=(p x&&pX p ts (aF.drop (k+1))):=fun p=>by rw[hd];unfold pX;rw[PH,d]
  have hs:∀p,oi p ts (aF.drop k)=(p x ||oi p ts (aF.drop (k+1))):=fun p=>by rw[hd];unfold oi;rw[Q6,d]
  rw[h,h,hs,hs];have o:dQ x=(x.f0==2):=rfl;have q:e8 x=(x.f0==3 ||x.f0==4):=rfl;unfold dI bQ bX;cases a<;>cases b<;>simp only[hc,l,d,e,N4,Om,(f _ _).1,(f _ _).2.1,(f _ _).2.2,o,q]<;>cases x.f0==2<;>cases x.f0==3<;>cases x.f0==4<;>simp
theorem Fe (d:GDag)(r:GRun)(i:Int)(h:ae.sm d)(hd:aR d=true)(b:r.f3.length=d.f5.length)(hi:0≤i∧i<(d.f5.length:Int)):
  pO d r i=some (aA d r i)∧ig d r i=some (bF d r i)∧iH d r i=some (bq d r i):=by
 obtain⟨c,f⟩:=MG hd hi;obtain⟨a,a2,a3⟩:=BO r.f3 (ups d i) (fun x e=>by rw[b];exact c x e) (by omega) (ups d i).length 0 9223372036854775808 true false (by omega) (by omega);rw[OR,OG,QQ]at a a2 a3;unfold pO ig iH;refine⟨?_,?_,?_⟩
 ·rw[N5 h,N5 hd,N5 hi];exact(Ov (Option.bind · _) a).trans rfl
 ·rw[N5 h,N5 hd,N5 hi];exact(Ov (Option.bind · _) a2).trans rfl
 ·rw[N5 h,N5 hd,N5 hi];exact(Ov (Option.bind · _) a3).trans rfl
theorem bD {q0:Kd}(x0:GDag)(a:GRun)(x2:Int)(h:ae.sm x0)(hd:aR x0=true)(b:a.f3.length=x0.f5.length)(hi:0≤x2∧x2<(x0.f5.length:Int)):Does E 40 [.agg (GDag.t .far q0 x0),.agg (GRun.t .far a),NZ x2] [NX ((aA x0 a x2).1),NX ((aA x0 a x2).2)]:=by exact IJ x0 a x2 _ (Fe x0 a x2 h hd b hi).1
theorem fx {q0:Kd}(x0:GDag)(a:GRun)(x2:Int)(h:ae.sm x0)(hd:aR x0=true)(b:a.f3.length=x0.f5.length)(hi:0≤x2∧x2<(x0.f5.length:Int)):Does E 70 [.agg (GDag.t .far q0 x0),.agg (GRun.t .far a),NZ x2,.fni 86 []] [NX ((bF x0 a x2).1),NX ((bF x0 a x2).2)]:=by exact uQ x0 a x2 _ (Fe x0 a x2 h hd b hi).2.1
theorem cL {q0:Kd}(x0:GDag)(a:GRun)(x2:Int)(h:ae.sm x0)(hd:aR x0=true)(b:a.f3.length=x0.f5.length)(hi:0≤x2∧x2<(x0.f5.length:Int)):Does E 70 [.agg (GDag.t .far q0 x0),.agg (GRun.t .far a),NZ x2,.fni 71 []] [NX ((bq x0 a x2).1),NX ((bq x0 a x2).2)]:=by exact vI x0 a x2 _ (Fe x0 a x2 h hd b hi).2.2
noncomputable def ow (x0:GDag)(b:GRun)(x2:Int):Option (Bool):=(ap b.f3 x2).bind fun a=>cond (ag a.f0 0 4) ((ap x0.f5 x2).bind fun g1=>cond (ag a.f1 0 (inc g1.f2)) (cond (ag a.f3 0 68374179) (cond (ag a.f2 0 1000000000) (cond (!((decide (a.f2>(0:Int)))==(a.f0==(1:Int)))) (some (false)) (if ae.sm x0 then if aR x0=true then if b.f3.length=x0.f5.length then if 0≤x2∧x2<(x0.f5.length:Int)then cond (a.f0==(1:Int)) (some ((bF x0 b x2).1)) (cond (a.f0==(2:Int)) (some ((bF x0 b x2).1)) (cond (a.f0==(4:Int)) (some ((bq x0 b x2).2)) (cond (a.f0==(0:Int)) (some (!((bq x0 b x2).2))) (some (true)))))else none else none else none else none)) (some (false))) (some (false))) (some (false))) (some (false))
theorem F1 {q0:Kd}(x0:GDag)(a:GRun)(x2:Int):Ans (ow x0 a x2) (fun r=>Does E 69 [.agg (GDag.t .far q0 x0),.agg (GRun.t .far a),NZ x2] [NX r]):=by
 unfold ow;refine NR (fun b e => ?_);apply NQ<;>intro f
 ·refine NR (fun g1 j => ?_);apply NQ<;>intro l
  ·apply NQ<;>intro n
   ·apply NQ<;>intro o
    ·apply NQ<;>intro q
     ·exact NN (DP Tryz.f69 [.row (GState.t b),rT,.row ((GTask.t q0) g1),rT,rT,rT,.no,.no,.b true] (AR GState.t e<|AD (NV (ay b.f0 0 4) f)<|AR (GTask.t q0) j<|AD (NV (ay b.f1 0 (inc g1.f2)) l)<|AD (NV (ay b.f3 0 68374179) n)<|AD (NV (ay b.f2 0 1000000000) o)<|AC q<|AN))
     ·refine NS (fun g => ?_);refine NS (fun h => ?_);refine NS (fun i => ?_);refine NS (fun c => ?_);apply NQ<;>intro d
      ·exact NN (DP Tryz.f69 [.row (GState.t b),rT,.row ((GTask.t q0) g1),rT,rT,rT,.no,.no,.b false,.ret [NX ((bF x0 a x2).1),NX ((bF x0 a x2).2)],.ret [NX ((bq x0 a x2).1),NX ((bq x0 a x2).2)],.b true] (AR GState.t e<|AD (NV (ay b.f0 0 4) f)<|AR (GTask.t q0) j<|AD (NV (ay b.f1 0 (inc g1.f2)) l)<|AD (NV (ay b.f3 0 68374179) n)<|AD (NV (ay b.f2 0 1000000000) o)<|AC q<|AV (ψ:=fun k=>E.C k 70 [.agg (GDag.t .far q0 x0),.agg (GRun.t .far a),NZ x2,.fni 86 []]=some [NX ((bF x0 a x2).1),NX ((bF x0 a x2).2)]) (fx x0 a x2 g h i c)<|AV (ψ:=fun k=>E.C k 70 [.agg (GDag.t .far q0 x0),.agg (GRun.t .far a),NZ x2,.fni 71 []]=some [NX ((bq x0 a x2).1),NX ((bq x0 a x2).2)]) (cL x0 a x2 g h i c)<|AC d<|AN))
      ·apply NQ<;>intro m
       ·exact NN (DP Tryz.f69 [.row (GState.t b),rT,.row ((GTask.t q0) g1),rT,rT,rT,.no,.no,.b false,.ret [NX ((bF x0 a x2).1),NX ((bF x0 a x2).2)],.ret [NX ((bq x0 a x2).1),NX ((bq x0 a x2).2)],.b false,.b true] (AR GState.t e<|AD (NV (ay b.f0 0 4) f)<|AR (GTask.t q0) j<|AD (NV (ay b.f1 0 (inc g1.f2)) l)<|AD (NV (ay b.f3 0 68374179) n)<|AD (NV (ay b.f2 0 1000000000) o)<|AC q<|AV (ψ:=fun k=>E.C k 70 [.agg (GDag.t .far q0 x0),.agg (GRun.t .far a),NZ x2,.fni 86 []]=some [NX ((bF x0 a x2).1),NX ((bF x0 a x2).2)]) (fx x0 a x2 g h i c)<|AV (ψ:=fun k=>E.C k 70 [.agg (GDag.t .far q0 x0),.agg (GRun.t .far a),NZ x2,.fni 71 []]=some [NX ((bq x0 a x2).1),NX ((bq x0 a x2).2)]) (cL x0 a x2 g h i c)<|AC d<|AC m<|AN))
       ·apply NQ<;>intro p
        ·exact NN (DP Tryz.f69 [.row (GState.t b),rT,.row ((GTask.t q0) g1),rT,rT,rT,.no,.no,.b false,.ret [NX ((bF x0 a x2).1),NX ((bF x0 a x2).2)],.ret [NX ((bq x0 a x2).1),NX ((bq x0 a x2).2)],.b false,.b false,.b true] (AR GState.t e<|AD (NV (ay b.f0 0 4) f)<|AR (GTask.t q0) j<|AD (NV (ay b.f1 0 (inc g1.f2)) l)<|AD (NV (ay b.f3 0 68374179) n)<|AD (NV (ay b.f2 0 1000000000) o)<|AC q<|AV (ψ:=fun k=>E.C k 70 [.agg (GDag.t .far q0 x0),.agg (GRun.t .far a),NZ x2,.fni 86 []]=some [NX ((bF x0 a x2).1),NX ((bF x0 a x2).2)]) (fx x0 a x2 g h i c)<|AV (ψ:=fun k=>E.C k 70 [.agg (GDag.t .far q0 x0),.agg (GRun.t .far a),NZ x2,.fni 71 []]=some [NX ((bq x0 a x2).1),NX ((bq x0 a x2).2)]) (cL x0 a x2 g h i c)<|AC d<|AC m<|AC p<|AN))
        ·apply NQ<;>intro s
         ·exact NN (DP Tryz.f69 [.row (GState.t b),rT,.row ((GTask.t q0) g1),rT,rT,rT,.no,.no,.b false,.ret [NX ((bF x0 a x2).1),NX ((bF x0 a x2).2)],.ret [NX ((bq x0 a x2).1),NX ((bq x0 a x2).2)],.b false,.b false,.b false,.b true] (AR GState.t e<|AD (NV (ay b.f0 0 4) f)<|AR (GTask.t q0) j<|AD (NV (ay b.f1 0 (inc g1.f2)) l)<|AD (NV (ay b.f3 0 68374179) n)<|AD (NV (ay b.f2 0 1000000000) o)<|AC q<|AV (ψ:=fun k=>E.C k 70 [.agg (GDag.t .far q0 x0),.agg (GRun.t .far a),NZ x2,.fni 86 []]=some [NX ((bF x0 a x2).1),NX ((bF x0 a x2).2)]) (fx x0 a x2 g h i c)<|AV (ψ:=fun k=>E.C k 70 [.agg (GDag.t .far q0 x0),.agg (GRun.t .far a),NZ x2,.fni 71 []]=some [NX ((bq x0 a x2).1),NX ((bq x0 a x2).2)]) (cL x0 a x2 g h i c)<|AC d<|AC m<|AC p<|AC s<|AN))
         ·exact NN (DP Tryz.f69 [.row (GState.t b),rT,.row ((GTask.t q0) g1),rT,rT,rT,.no,.no,.b false,.ret [NX ((bF x0 a x2).1),NX ((bF x0 a x2).2)],.ret [NX ((bq x0 a x2).1),NX ((bq x0 a x2).2)],.b false,.b false,.b false,.b false] (AR GState.t e<|AD (NV (ay b.f0 0 4) f)<|AR (GTask.t q0) j<|AD (NV (ay b.f1 0 (inc g1.f2)) l)<|AD (NV (ay b.f3 0 68374179) n)<|AD (NV (ay b.f2 0 1000000000) o)<|AC q<|AV (ψ:=fun k=>E.C k 70 [.agg (GDag.t .far q0 x0),.agg (GRun.t .far a),NZ x2,.fni 86 []]=some [NX ((bF x0 a x2).1),NX ((bF x0 a x2).2)]) (fx x0 a x2 g h i c)<|AV (ψ:=fun k=>E.C k 70 [.agg (GDag.t .far q0 x0),.agg (GRun.t .far a),NZ x2,.fni 71 []]=some [NX ((bq x0 a x2).1),NX ((bq x0 a x2).2)]) (cL x0 a x2 g h i c)<|AC d<|AC m<|AC p<|AC s<|AN))
    ·exact NN (DP Tryz.f69 [.row (GState.t b),rT,.row ((GTask.t q0) g1),rT,rT,rF] (AR GState.t e<|AD (NV (ay b.f0 0 4) f)<|AR (GTask.t q0) j<|AD (NV (ay b.f1 0 (inc g1.f2)) l)<|AD (NV (ay b.f3 0 68374179) n)<|AD (NV (ay b.f2 0 1000000000) o)<|AN))
   ·exact NN (DP Tryz.f69 [.row (GState.t b),rT,.row ((GTask.t q0) g1),rT,rF] (AR GState.t e<|AD (NV (ay b.f0 0 4) f)<|AR (GTask.t q0) j<|AD (NV (ay b.f1 0 (inc g1.f2)) l)<|AD (NV (ay b.f3 0 68374179) n)<|AN))
  ·exact NN (DP Tryz.f69 [.row (GState.t b),rT,.row ((GTask.t q0) g1),rF] (AR GState.t e<|AD (NV (ay b.f0 0 4) f)<|AR (GTask.t q0) j<|AD (NV (ay b.f1 0 (inc g1.f2)) l)<|AN))
 ·exact NN (DP Tryz.f69 [.row (GState.t b),rF] (AR GState.t e<|AD (NV (ay b.f0 0 4) f)<|AN))
inductive xD where|ret (v4:Bool)|x0
def am (q0:Kd)(v2_0 v2_1:ByteArray)(v2_2 v2_3:Int)(v2_4:Bool)(a:List GTask)(b:ByteArray)(c d e:Int)(f:List GState)(v5:Int):US:=stL 121 [(2,.box () [tS v2_0,tS v2_1,tI v2_2,tI v2_3,tB v2_4,.s .far () 5 (a.map (GTask.t q0))]),(3,.box () [tS b,tI c,tI d,tI e,.s .far () 4 (f.map GState.t)]),(5,NZ v5)]
def aC (q0:Kd)(a:Bool):US:=stL 121 [(4,N0 a)]
def mj (q0:Kd)  : US:=stL 121 []
abbrev az:US→Exit→US→Prop:=Round E 38 (aw Tryz.f38 0)
def GA {q0:Kd}(v2_0 v2_1:ByteArray)(v2_2 v2_3:Int)(v2_4:Bool)(a:List GTask)(b:ByteArray)(c d e:Int)(f:List GState)(v5:Int):xD→Prop| .ret g=>Loops E 38 (aw Tryz.f38 0) (am q0 v2_0 v2_1 v2_2 v2_3 v2_4 a b c d e f v5) .ret (aC q0 g)| .x0=>Loops E 38 (aw Tryz.f38 0) (am q0 v2_0 v2_1 v2_2 v2_3 v2_4 a b c d e f v5) (.exit 0) (mj q0)
theorem CB {q0:Kd}(v2_0 v2_1:ByteArray)(v2_2 v2_3:Int)(v2_4:Bool)(c:List GTask)(d:ByteArray)(e f g:Int)(a:List GState)(v5:Int)(b:GState)(g1:GTask)(h:(decide (v5<(a.length:Int)))=true)(i:ap a v5=some b)(j:(ag b.f0 0 (4:Int))=true)(k:ap c v5=some g1)(l:(ag b.f1 0 (inc g1.f2))=true)(m:(ag b.f2 0 (1000000000:Int))=true)(n:(!((decide (b.f2>(0:Int)))==(b.f0==(1:Int))))=true):az (am q0 v2_0 v2_1 v2_2 v2_3 v2_4 c d e f g a v5) .ret (aC q0 false):=
 RP [N2 (a.length:Int),.b true,.row (GState.t b),rT,.row ((GTask.t q0) g1),rT,rT,.no,.no,.b true] (ALn a GState.t<|AC h<|AR GState.t i<|AD (NV (ah b.f0 0 4) j)<|AR (GTask.t q0) k<|AD (NV (ah b.f1 0 (inc g1.f2)) l)<|AD (NV (ah b.f2 0 1000000000) m)<|AC n<|AN)
theorem CC {q0:Kd}(v2_0 v2_1:ByteArray)(v2_2 v2_3:Int)(v2_4:Bool)(a:List GTask)(c:ByteArray)(d e f:Int)(b:List GState)(v5:Int)(g:GState)(g1:GTask)(p:(decide (v5<(b.length:Int)))=true)(q:ap b v5=some g)(r:(ag g.f0 0 (4:Int))=true)(s:ap a v5=some g1)(u:(ag g.f1 0 (inc g1.f2))=true)(v:(ag g.f2 0 (1000000000:Int))=true)(w:(!((decide (g.f2>(0:Int)))==(g.f0==(1:Int))))=false)(x:(ag g.f3 0 (68374179:Int))=true)(y:ae.sm (GDag.mk v2_0 v2_1 v2_2 v2_3 v2_4 a))(z:aR (GDag.mk v2_0 v2_1 v2_2 v2_3 v2_4 a)=true)(h:(GRun.mk c (GSpan.mk d e) f b).f3.length=(GDag.mk v2_0 v2_1 v2_2 v2_3 v2_4 a).f5.length)(i:0≤v5∧v5<((GDag.mk v2_0 v2_1 v2_2 v2_3 v2_4 a).f5.length:Int))(j:((aA (GDag.mk v2_0 v2_1 v2_2 v2_3 v2_4 a) (GRun.mk c (GSpan.mk d e) f b) v5).1)=true)(l:((aA (GDag.mk v2_0 v2_1 v2_2 v2_3 v2_4 a) (GRun.mk c (GSpan.mk d e) f b) v5).2)=true)(m:(g.f0==(1:Int))=true)(n:(g.f0==(4:Int))=true)(o:(g.f0==(0:Int))=true):az (am q0 v2_0 v2_1 v2_2 v2_3 v2_4 a c d e f b v5) .ret (aC q0 false):=
 RP [N2 (b.length:Int),.b true,.row (GState.t g),rT,.row ((GTask.t q0) g1),rT,rT,.no,.no,.b false,rT,.ret [NX true,NX true],.b true,.b true,.b true] (ALn b GState.t<|AC p<|AR GState.t q<|AD (NV (ah g.f0 0 4) r)<|AR (GTask.t q0) s<|AD (NV (ah g.f1 0 (inc g1.f2)) u)<|AD (NV (ah g.f2 0 1000000000) v)<|AC w<|AD (NV (ah g.f3 0 68374179) x)<|AV (ψ:=fun k=>E.C k 40 [.agg (GDag.t .far q0 (GDag.mk v2_0 v2_1 v2_2 v2_3 v2_4 a)),.agg (GRun.t .far (GRun.mk c (GSpan.mk d e) f b)),NZ v5]=some [NX true,NX true]) (NT (bD (GDag.mk v2_0 v2_1 v2_2 v2_3 v2_4 a) (GRun.mk c (GSpan.mk d e) f b) v5 y z h i) (by rw[j,l]))<|AC m<|AC n<|AC o<|AN)
theorem CD {q0:Kd}(v2_0 v2_1:ByteArray)(v2_2 v2_3:Int)(v2_4:Bool)(a:List GTask)(c:ByteArray)(d e f:Int)(b:List GState)(v5:Int)(g:GState)(g1:GTask)(p:(decide (v5<(b.length:Int)))=true)(q:ap b v5=some g)(r:(ag g.f0 0 (4:Int))=true)(s:ap a v5=some g1)(u:(ag g.f1 0 (inc g1.f2))=true)(v:(ag g.f2 0 (1000000000:Int))=true)(w:(!((decide (g.f2>(0:Int)))==(g.f0==(1:Int))))=false)(x:(ag g.f3 0 (68374179:Int))=true)(y:ae.sm (GDag.mk v2_0 v2_1 v2_2 v2_3 v2_4 a))(z:aR (GDag.mk v2_0 v2_1 v2_2 v2_3 v2_4 a)=true)(h:(GRun.mk c (GSpan.mk d e) f b).f3.length=(GDag.mk v2_0 v2_1 v2_2 v2_3 v2_4 a).f5.length)(i:0≤v5∧v5<((GDag.mk v2_0 v2_1 v2_2 v2_3 v2_4 a).f5.length:Int))(j:((aA (GDag.mk v2_0 v2_1 v2_2 v2_3 v2_4 a) (GRun.mk c (GSpan.mk d e) f b) v5).1)=true)(l:((aA (GDag.mk v2_0 v2_1 v2_2 v2_3 v2_4 a) (GRun.mk c (GSpan.mk d e) f b) v5).2)=true)(m:(g.f0==(1:Int))=true)(n:(g.f0==(4:Int))=true)(o:(g.f0==(0:Int))=false):az (am q0 v2_0 v2_1 v2_2 v2_3 v2_4 a c d e f b v5) .normal (am q0 v2_0 v2_1 v2_2 v2_3 v2_4 a c d e f b (inc v5)):=
 RP [N2 (b.length:Int),.b true,.row (GState.t g),rT,.row ((GTask.t q0) g1),rT,rT,.no,.no,.b false,rT,.ret [NX true,NX true],.b true,.b true,.b false] (ALn b GState.t<|AC p<|AR GState.t q<|AD (NV (ah g.f0 0 4) r)<|AR (GTask.t q0) s<|AD (NV (ah g.f1 0 (inc g1.f2)) u)<|AD (NV (ah g.f2 0 1000000000) v)<|AC w<|AD (NV (ah g.f3 0 68374179) x)<|AV (ψ:=fun k=>E.C k 40 [.agg (GDag.t .far q0 (GDag.mk v2_0 v2_1 v2_2 v2_3 v2_4 a)),.agg (GRun.t .far (GRun.mk c (GSpan.mk d e) f b)),NZ v5]=some [NX true,NX true]) (NT (bD (GDag.mk v2_0 v2_1 v2_2 v2_3 v2_4 a) (GRun.mk c (GSpan.mk d e) f b) v5 y z h i) (by rw[j,l]))<|AC m<|AC n<|AC o<|AN)
theorem CE {q0:Kd}(v2_0 v2_1:ByteArray)(v2_2 v2_3:Int)(v2_4:Bool)(a:List GTask)(c:ByteArray)(d e f:Int)(b:List GState)(v5:Int)(g:GState)(g1:GTask)(o:(decide (v5<(b.length:Int)))=true)(p:ap b v5=some g)(q:(ag g.f0 0 (4:Int))=true)(r:ap a v5=some g1)(s:(ag g.f1 0 (inc g1.f2))=true)(u:(ag g.f2 0 (1000000000:Int))=true)(v:(!((decide (g.f2>(0:Int)))==(g.f0==(1:Int))))=false)(w:(ag g.f3 0 (68374179:Int))=true)(x:ae.sm (GDag.mk v2_0 v2_1 v2_2 v2_3 v2_4 a))(y:aR (GDag.mk v2_0 v2_1 v2_2 v2_3 v2_4 a)=true)(h:(GRun.mk c (GSpan.mk d e) f b).f3.length=(GDag.mk v2_0 v2_1 v2_2 v2_3 v2_4 a).f5.length)(i:0≤v5∧v5<((GDag.mk v2_0 v2_1 v2_2 v2_3 v2_4 a).f5.length:Int))(j:((aA (GDag.mk v2_0 v2_1 v2_2 v2_3 v2_4 a) (GRun.mk c (GSpan.mk d e) f b) v5).1)=true)(l:((aA (GDag.mk v2_0 v2_1 v2_2 v2_3 v2_4 a) (GRun.mk c (GSpan.mk d e) f b) v5).2)=false)(m:(g.f0==(1:Int))=true)(n:(g.f0==(4:Int))=true):az (am q0 v2_0 v2_1 v2_2 v2_3 v2_4 a c d e f b v5) .ret (aC q0 false):=
 RP [N2 (b.length:Int),.b true,.row (GState.t g),rT,.row ((GTask.t q0) g1),rT,rT,.no,.no,.b false,rT,.ret [NX true,NX false],.b true,.b true] (ALn b GState.t<|AC o<|AR GState.t p<|AD (NV (ah g.f0 0 4) q)<|AR (GTask.t q0) r<|AD (NV (ah g.f1 0 (inc g1.f2)) s)<|AD (NV (ah g.f2 0 1000000000) u)<|AC v<|AD (NV (ah g.f3 0 68374179) w)<|AV (ψ:=fun k=>E.C k 40 [.agg (GDag.t .far q0 (GDag.mk v2_0 v2_1 v2_2 v2_3 v2_4 a)),.agg (GRun.t .far (GRun.mk c (GSpan.mk d e) f b)),NZ v5]=some [NX true,NX false]) (NT (bD (GDag.mk v2_0 v2_1 v2_2 v2_3 v2_4 a) (GRun.mk c (GSpan.mk d e) f b) v5 x y h i) (by rw[j,l]))<|AC m<|AC n<|AN)
theorem CF {q0:Kd}(v2_0 v2_1:ByteArray)(v2_2 v2_3:Int)(v2_4:Bool)(a:List GTask)(c:ByteArray)(d e f:Int)(b:List GState)(v5:Int)(g:GState)(g1:GTask)(p:(decide (v5<(b.length:Int)))=true)(q:ap b v5=some g)(r:(ag g.f0 0 (4:Int))=true)(s:ap a v5=some g1)(u:(ag g.f1 0 (inc g1.f2))=true)(v:(ag g.f2 0 (1000000000:Int))=true)(w:(!((decide (g.f2>(0:Int)))==(g.f0==(1:Int))))=false)(x:(ag g.f3 0 (68374179:Int))=true)(y:ae.sm (GDag.mk v2_0 v2_1 v2_2 v2_3 v2_4 a))(z:aR (GDag.mk v2_0 v2_1 v2_2 v2_3 v2_4 a)=true)(h:(GRun.mk c (GSpan.mk d e) f b).f3.length=(GDag.mk v2_0 v2_1 v2_2 v2_3 v2_4 a).f5.length)(i:0≤v5∧v5<((GDag.mk v2_0 v2_1 v2_2 v2_3 v2_4 a).f5.length:Int))(j:((aA (GDag.mk v2_0 v2_1 v2_2 v2_3 v2_4 a) (GRun.mk c (GSpan.mk d e) f b) v5).1)=true)(l:((aA (GDag.mk v2_0 v2_1 v2_2 v2_3 v2_4 a) (GRun.mk c (GSpan.mk d e) f b) v5).2)=true)(m:(g.f0==(1:Int))=true)(n:(g.f0==(4:Int))=false)(o:(g.f0==(0:Int))=true):az (am q0 v2_0 v2_1 v2_2 v2_3 v2_4 a c d e f b v5) .ret (aC q0 false):=
 RP [N2 (b.length:Int),.b true,.row (GState.t g),rT,.row ((GTask.t q0) g1),rT,rT,.no,.no,.b false,rT,.ret [NX true,NX true],.b true,.b false,.b true] (ALn b GState.t<|AC p<|AR GState.t q<|AD (NV (ah g.f0 0 4) r)<|AR (GTask.t q0) s<|AD (NV (ah g.f1 0 (inc g1.f2)) u)<|AD (NV (ah g.f2 0 1000000000) v)<|AC w<|AD (NV (ah g.f3 0 68374179) x)<|AV (ψ:=fun k=>E.C k 40 [.agg (GDag.t .far q0 (GDag.mk v2_0 v2_1 v2_2 v2_3 v2_4 a)),.agg (GRun.t .far (GRun.mk c (GSpan.mk d e) f b)),NZ v5]=some [NX true,NX true]) (NT (bD (GDag.mk v2_0 v2_1 v2_2 v2_3 v2_4 a) (GRun.mk c (GSpan.mk d e) f b) v5 y z h i) (by rw[j,l]))<|AC m<|AC n<|AC o<|AN)
theorem CG {q0:Kd}(v2_0 v2_1:ByteArray)(v2_2 v2_3:Int)(v2_4:Bool)(a:List GTask)(c:ByteArray)(d e f:Int)(b:List GState)(v5:Int)(g:GState)(g1:GTask)(p:(decide (v5<(b.length:Int)))=true)(q:ap b v5=some g)(r:(ag g.f0 0 (4:Int))=true)(s:ap a v5=some g1)(u:(ag g.f1 0 (inc g1.f2))=true)(v:(ag g.f2 0 (1000000000:Int))=true)(w:(!((decide (g.f2>(0:Int)))==(g.f0==(1:Int))))=false)(x:(ag g.f3 0 (68374179:Int))=true)(y:ae.sm (GDag.mk v2_0 v2_1 v2_2 v2_3 v2_4 a))(z:aR (GDag.mk v2_0 v2_1 v2_2 v2_3 v2_4 a)=true)(h:(GRun.mk c (GSpan.mk d e) f b).f3.length=(GDag.mk v2_0 v2_1 v2_2 v2_3 v2_4 a).f5.length)(i:0≤v5∧v5<((GDag.mk v2_0 v2_1 v2_2 v2_3 v2_4 a).f5.length:Int))(j:((aA (GDag.mk v2_0 v2_1 v2_2 v2_3 v2_4 a) (GRun.mk c (GSpan.mk d e) f b) v5).1)=true)(l:((aA (GDag.mk v2_0 v2_1 v2_2 v2_3 v2_4 a) (GRun.mk c (GSpan.mk d e) f b) v5).2)=false)(m:(g.f0==(1:Int))=true)(n:(g.f0==(4:Int))=false)(o:(g.f0==(0:Int))=true):az (am q0 v2_0 v2_1 v2_2 v2_3 v2_4 a c d e f b v5) .normal (am q0 v2_0 v2_1 v2_2 v2_3 v2_4 a c d e f b (inc v5)):=
 RP [N2 (b.length:Int),.b true,.row (GState.t g),rT,.row ((GTask.t q0) g1),rT,rT,.no,.no,.b false,rT,.ret [NX true,NX false],.b true,.b false,.b true] (ALn b GState.t<|AC p<|AR GState.t q<|AD (NV (ah g.f0 0 4) r)<|AR (GTask.t q0) s<|AD (NV (ah g.f1 0 (inc g1.f2)) u)<|AD (NV (ah g.f2 0 1000000000) v)<|AC w<|AD (NV (ah g.f3 0 68374179) x)<|AV (ψ:=fun k=>E.C k 40 [.agg (GDag.t .far q0 (GDag.mk v2_0 v2_1 v2_2 v2_3 v2_4 a)),.agg (GRun.t .far (GRun.mk c (GSpan.mk d e) f b)),NZ v5]=some [NX true,NX false]) (NT (bD (GDag.mk v2_0 v2_1 v2_2 v2_3 v2_4 a) (GRun.mk c (GSpan.mk d e) f b) v5 y z h i) (by rw[j,l]))<|AC m<|AC n<|AC o<|AN)
theorem CH {q0:Kd}(v2_0 v2_1:ByteArray)(v2_2 v2_3:Int)(v2_4:Bool)(a:List GTask)(c:ByteArray)(d e f:Int)(b:List GState)(v5:Int)(g:GState)(g1:GTask)(o:(decide (v5<(b.length:Int)))=true)(p:ap b v5=some g)(q:(ag g.f0 0 (4:Int))=true)(r:ap a v5=some g1)(s:(ag g.f1 0 (inc g1.f2))=true)(u:(ag g.f2 0 (1000000000:Int))=true)(v:(!((decide (g.f2>(0:Int)))==(g.f0==(1:Int))))=false)(w:(ag g.f3 0 (68374179:Int))=true)(x:ae.sm (GDag.mk v2_0 v2_1 v2_2 v2_3 v2_4 a))(y:aR (GDag.mk v2_0 v2_1 v2_2 v2_3 v2_4 a)=true)(h:(GRun.mk c (GSpan.mk d e) f b).f3.length=(GDag.mk v2_0 v2_1 v2_2 v2_3 v2_4 a).f5.length)(i:0≤v5∧v5<((GDag.mk v2_0 v2_1 v2_2 v2_3 v2_4 a).f5.length:Int))(j:((aA (GDag.mk v2_0 v2_1 v2_2 v2_3 v2_4 a) (GRun.mk c (GSpan.mk d e) f b) v5).1)=true)(l:(g.f0==(1:Int))=true)(m:(g.f0==(4:Int))=false)(n:(g.f0==(0:Int))=false):az (am q0 v2_0 v2_1 v2_2 v2_3 v2_4 a c d e f b v5) .normal (am q0 v2_0 v2_1 v2_2 v2_3 v2_4 a c d e f b (inc v5)):=
 RP [N2 (b.length:Int),.b true,.row (GState.t g),rT,.row ((GTask.t q0) g1),rT,rT,.no,.no,.b false,rT,.ret [NX true,NX ((aA (GDag.mk v2_0 v2_1 v2_2 v2_3 v2_4 a) (GRun.mk c (GSpan.mk d e) f b) v5).2)],.b true,.b false,.b false] (ALn b GState.t<|AC o<|AR GState.t p<|AD (NV (ah g.f0 0 4) q)<|AR (GTask.t q0) r<|AD (NV (ah g.f1 0 (inc g1.f2)) s)<|AD (NV (ah g.f2 0 1000000000) u)<|AC v<|AD (NV (ah g.f3 0 68374179) w)<|AV (ψ:=fun k=>E.C k 40 [.agg (GDag.t .far q0 (GDag.mk v2_0 v2_1 v2_2 v2_3 v2_4 a)),.agg (GRun.t .far (GRun.mk c (GSpan.mk d e) f b)),NZ v5]=some [NX true,NX ((aA (GDag.mk v2_0 v2_1 v2_2 v2_3 v2_4 a) (GRun.mk c (GSpan.mk d e) f b) v5).2)]) (NT (bD (GDag.mk v2_0 v2_1 v2_2 v2_3 v2_4 a) (GRun.mk c (GSpan.mk d e) f b) v5 x y h i) (by rw[j]))<|AC l<|AC m<|AC n<|AN)
theorem CI {q0:Kd}(v2_0 v2_1:ByteArray)(v2_2 v2_3:Int)(v2_4:Bool)(a:List GTask)(c:ByteArray)(d e f:Int)(b:List GState)(v5:Int)(g:GState)(g1:GTask)(m:(decide (v5<(b.length:Int)))=true)(n:ap b v5=some g)(o:(ag g.f0 0 (4:Int))=true)(p:ap a v5=some g1)(q:(ag g.f1 0 (inc g1.f2))=true)(r:(ag g.f2 0 (1000000000:Int))=true)(s:(!((decide (g.f2>(0:Int)))==(g.f0==(1:Int))))=false)(u:(ag g.f3 0 (68374179:Int))=true)(v:ae.sm (GDag.mk v2_0 v2_1 v2_2 v2_3 v2_4 a))(w:aR (GDag.mk v2_0 v2_1 v2_2 v2_3 v2_4 a)=true)(h:(GRun.mk c (GSpan.mk d e) f b).f3.length=(GDag.mk v2_0 v2_1 v2_2 v2_3 v2_4 a).f5.length)(i:0≤v5∧v5<((GDag.mk v2_0 v2_1 v2_2 v2_3 v2_4 a).f5.length:Int))(j:((aA (GDag.mk v2_0 v2_1 v2_2 v2_3 v2_4 a) (GRun.mk c (GSpan.mk d e) f b) v5).1)=false)(l:(g.f0==(1:Int))=true):az (am q0 v2_0 v2_1 v2_2 v2_3 v2_4 a c d e f b v5) .ret (aC q0 false):=
 RP [N2 (b.length:Int),.b true,.row (GState.t g),rT,.row ((GTask.t q0) g1),rT,rT,.no,.no,.b false,rT,.ret [NX false,NX ((aA (GDag.mk v2_0 v2_1 v2_2 v2_3 v2_4 a) (GRun.mk c (GSpan.mk d e) f b) v5).2)],.b true] (ALn b GState.t<|AC m<|AR GState.t n<|AD (NV (ah g.f0 0 4) o)<|AR (GTask.t q0) p<|AD (NV (ah g.f1 0 (inc g1.f2)) q)<|AD (NV (ah g.f2 0 1000000000) r)<|AC s<|AD (NV (ah g.f3 0 68374179) u)<|AV (ψ:=fun k=>E.C k 40 [.agg (GDag.t .far q0 (GDag.mk v2_0 v2_1 v2_2 v2_3 v2_4 a)),.agg (GRun.t .far (GRun.mk c (GSpan.mk d e) f b)),NZ v5]=some [NX false,NX ((aA (GDag.mk v2_0 v2_1 v2_2 v2_3 v2_4 a) (GRun.mk c (GSpan.mk d e) f b) v5).2)]) (NT (bD (GDag.mk v2_0 v2_1 v2_2 v2_3 v2_4 a) (GRun.mk c (GSpan.mk d e) f b) v5 v w h i) (by rw[j]))<|AC l<|AN)
theorem CJ {q0:Kd}(v2_0 v2_1:ByteArray)(v2_2 v2_3:Int)(v2_4:Bool)(a:List GTask)(c:ByteArray)(d e f:Int)(b:List GState)(v5:Int)(g:GState)(g1:GTask)(q:(decide (v5<(b.length:Int)))=true)(r:ap b v5=some g)(s:(ag g.f0 0 (4:Int))=true)(u:ap a v5=some g1)(v:(ag g.f1 0 (inc g1.f2))=true)(w:(ag g.f2 0 (1000000000:Int))=true)(x:(!((decide (g.f2>(0:Int)))==(g.f0==(1:Int))))=false)(y:(ag g.f3 0 (68374179:Int))=true)(z:ae.sm (GDag.mk v2_0 v2_1 v2_2 v2_3 v2_4 a))(A:aR (GDag.mk v2_0 v2_1 v2_2 v2_3 v2_4 a)=true)(h:(GRun.mk c (GSpan.mk d e) f b).f3.length=(GDag.mk v2_0 v2_1 v2_2 v2_3 v2_4 a).f5.length)(i:0≤v5∧v5<((GDag.mk v2_0 v2_1 v2_2 v2_3 v2_4 a).f5.length:Int))(j:((aA (GDag.mk v2_0 v2_1 v2_2 v2_3 v2_4 a) (GRun.mk c (GSpan.mk d e) f b) v5).1)=true)(l:((aA (GDag.mk v2_0 v2_1 v2_2 v2_3 v2_4 a) (GRun.mk c (GSpan.mk d e) f b) v5).2)=true)(m:(g.f0==(1:Int))=false)(n:(g.f0==(2:Int))=true)(o:(g.f0==(4:Int))=true)(p:(g.f0==(0:Int))=true):az (am q0 v2_0 v2_1 v2_2 v2_3 v2_4 a c d e f b v5) .ret (aC q0 false):=
 RP [N2 (b.length:Int),.b true,.row (GState.t g),rT,.row ((GTask.t q0) g1),rT,rT,.no,.no,.b false,rT,.ret [NX true,NX true],.b false,.b true,.b true,.b true] (ALn b GState.t<|AC q<|AR GState.t r<|AD (NV (ah g.f0 0 4) s)<|AR (GTask.t q0) u<|AD (NV (ah g.f1 0 (inc g1.f2)) v)<|AD (NV (ah g.f2 0 1000000000) w)<|AC x<|AD (NV (ah g.f3 0 68374179) y)<|AV (ψ:=fun k=>E.C k 40 [.agg (GDag.t .far q0 (GDag.mk v2_0 v2_1 v2_2 v2_3 v2_4 a)),.agg (GRun.t .far (GRun.mk c (GSpan.mk d e) f b)),NZ v5]=some [NX true,NX true]) (NT (bD (GDag.mk v2_0 v2_1 v2_2 v2_3 v2_4 a) (GRun.mk c (GSpan.mk d e) f b) v5 z A h i) (by rw[j,l]))<|AC m<|AC n<|AC o<|AC p<|AN)
theorem CK {q0:Kd}(v2_0 v2_1:ByteArray)(v2_2 v2_3:Int)(v2_4:Bool)(a:List GTask)(c:ByteArray)(d e f:Int)(b:List GState)(v5:Int)(g:GState)(g1:GTask)(q:(decide (v5<(b.length:Int)))=true)(r:ap b v5=some g)(s:(ag g.f0 0 (4:Int))=true)(u:ap a v5=some g1)(v:(ag g.f1 0 (inc g1.f2))=true)(w:(ag g.f2 0 (1000000000:Int))=true)(x:(!((decide (g.f2>(0:Int)))==(g.f0==(1:Int))))=false)(y:(ag g.f3 0 (68374179:Int))=true)(z:ae.sm (GDag.mk v2_0 v2_1 v2_2 v2_3 v2_4 a))(A:aR (GDag.mk v2_0 v2_1 v2_2 v2_3 v2_4 a)=true)(h:(GRun.mk c (GSpan.mk d e) f b).f3.length=(GDag.mk v2_0 v2_1 v2_2 v2_3 v2_4 a).f5.length)(i:0≤v5∧v5<((GDag.mk v2_0 v2_1 v2_2 v2_3 v2_4 a).f5.length:Int))(j:((aA (GDag.mk v2_0 v2_1 v2_2 v2_3 v2_4 a) (GRun.mk c (GSpan.mk d e) f b) v5).1)=true)(l:((aA (GDag.mk v2_0 v2_1 v2_2 v2_3 v2_4 a) (GRun.mk c (GSpan.mk d e) f b) v5).2)=true)(m:(g.f0==(1:Int))=false)(n:(g.f0==(2:Int))=true)(o:(g.f0==(4:Int))=true)(p:(g.f0==(0:Int))=false):az (am q0 v2_0 v2_1 v2_2 v2_3 v2_4 a c d e f b v5) .normal (am q0 v2_0 v2_1 v2_2 v2_3 v2_4 a c d e f b (inc v5)):=
 RP [N2 (b.length:Int),.b true,.row (GState.t g),rT,.row ((GTask.t q0) g1),rT,rT,.no,.no,.b false,rT,.ret [NX true,NX true],.b false,.b true,.b true,.b false] (ALn b GState.t<|AC q<|AR GState.t r<|AD (NV (ah g.f0 0 4) s)<|AR (GTask.t q0) u<|AD (NV (ah g.f1 0 (inc g1.f2)) v)<|AD (NV (ah g.f2 0 1000000000) w)<|AC x<|AD (NV (ah g.f3 0 68374179) y)<|AV (ψ:=fun k=>E.C k 40 [.agg (GDag.t .far q0 (GDag.mk v2_0 v2_1 v2_2 v2_3 v2_4 a)),.agg (GRun.t .far (GRun.mk c (GSpan.mk d e) f b)),NZ v5]=some [NX true,NX true]) (NT (bD (GDag.mk v2_0 v2_1 v2_2 v2_3 v2_4 a) (GRun.mk c (GSpan.mk d e) f b) v5 z A h i) (by rw[j,l]))<|AC m<|AC n<|AC o<|AC p<|AN)
theorem AM {q0:Kd}(v2_0 v2_1:ByteArray)(v2_2 v2_3:Int)(v2_4:Bool)(a:List GTask)(c:ByteArray)(d e f:Int)(b:List GState)(v5:Int)(g:GState)(g1:GTask)(p:(decide (v5<(b.length:Int)))=true)(q:ap b v5=some g)(r:(ag g.f0 0 (4:Int))=true)(s:ap a v5=some g1)(u:(ag g.f1 0 (inc g1.f2))=true)(v:(ag g.f2 0 (1000000000:Int))=true)(w:(!((decide (g.f2>(0:Int)))==(g.f0==(1:Int))))=false)(x:(ag g.f3 0 (68374179:Int))=true)(y:ae.sm (GDag.mk v2_0 v2_1 v2_2 v2_3 v2_4 a))(z:aR (GDag.mk v2_0 v2_1 v2_2 v2_3 v2_4 a)=true)(h:(GRun.mk c (GSpan.mk d e) f b).f3.length=(GDag.mk v2_0 v2_1 v2_2 v2_3 v2_4 a).f5.length)(i:0≤v5∧v5<((GDag.mk v2_0 v2_1 v2_2 v2_3 v2_4 a).f5.length:Int))(j:((aA (GDag.mk v2_0 v2_1 v2_2 v2_3 v2_4 a) (GRun.mk c (GSpan.mk d e) f b) v5).1)=true)(l:((aA (GDag.mk v2_0 v2_1 v2_2 v2_3 v2_4 a) (GRun.mk c (GSpan.mk d e) f b) v5).2)=false)(m:(g.f0==(1:Int))=false)(n:(g.f0==(2:Int))=true)(o:(g.f0==(4:Int))=true):az (am q0 v2_0 v2_1 v2_2 v2_3 v2_4 a c d e f b v5) .ret (aC q0 false):=
 RP [N2 (b.length:Int),.b true,.row (GState.t g),rT,.row ((GTask.t q0) g1),rT,rT,.no,.no,.b false,rT,.ret [NX true,NX false],.b false,.b true,.b true] (ALn b GState.t<|AC p<|AR GState.t q<|AD (NV (ah g.f0 0 4) r)<|AR (GTask.t q0) s<|AD (NV (ah g.f1 0 (inc g1.f2)) u)<|AD (NV (ah g.f2 0 1000000000) v)<|AC w<|AD (NV (ah g.f3 0 68374179) x)<|AV (ψ:=fun k=>E.C k 40 [.agg (GDag.t .far q0 (GDag.mk v2_0 v2_1 v2_2 v2_3 v2_4 a)),.agg (GRun.t .far (GRun.mk c (GSpan.mk d e) f b)),NZ v5]=some [NX true,NX false]) (NT (bD (GDag.mk v2_0 v2_1 v2_2 v2_3 v2_4 a) (GRun.mk c (GSpan.mk d e) f b) v5 y z h i) (by rw[j,l]))<|AC m<|AC n<|AC o<|AN)
theorem AO {q0:Kd}(v2_0 v2_1:ByteArray)(v2_2 v2_3:Int)(v2_4:Bool)(a:List GTask)(c:ByteArray)(d e f:Int)(b:List GState)(v5:Int)(g:GState)(g1:GTask)(q:(decide (v5<(b.length:Int)))=true)(r:ap b v5=some g)(s:(ag g.f0 0 (4:Int))=true)(u:ap a v5=some g1)(v:(ag g.f1 0 (inc g1.f2))=true)(w:(ag g.f2 0 (1000000000:Int))=true)(x:(!((decide (g.f2>(0:Int)))==(g.f0==(1:Int))))=false)(y:(ag g.f3 0 (68374179:Int))=true)(z:ae.sm (GDag.mk v2_0 v2_1 v2_2 v2_3 v2_4 a))(A:aR (GDag.mk v2_0 v2_1 v2_2 v2_3 v2_4 a)=true)(h:(GRun.mk c (GSpan.mk d e) f b).f3.length=(GDag.mk v2_0 v2_1 v2_2 v2_3 v2_4 a).f5.length)(i:0≤v5∧v5<((GDag.mk v2_0 v2_1 v2_2 v2_3 v2_4 a).f5.length:Int))(j:((aA (GDag.mk v2_0 v2_1 v2_2 v2_3 v2_4 a) (GRun.mk c (GSpan.mk d e) f b) v5).1)=true)(l:((aA (GDag.mk v2_0 v2_1 v2_2 v2_3 v2_4 a) (GRun.mk c (GSpan.mk d e) f b) v5).2)=true)(m:(g.f0==(1:Int))=false)(n:(g.f0==(2:Int))=true)(o:(g.f0==(4:Int))=false)(p:(g.f0==(0:Int))=true):az (am q0 v2_0 v2_1 v2_2 v2_3 v2_4 a c d e f b v5) .ret (aC q0 false):=
 RP [N2 (b.length:Int),.b true,.row (GState.t g),rT,.row ((GTask.t q0) g1),rT,rT,.no,.no,.b false,rT,.ret [NX true,NX true],.b false,.b true,.b false,.b true] (ALn b GState.t<|AC q<|AR GState.t r<|AD (NV (ah g.f0 0 4) s)<|AR (GTask.t q0) u<|AD (NV (ah g.f1 0 (inc g1.f2)) v)<|AD (NV (ah g.f2 0 1000000000) w)<|AC x<|AD (NV (ah g.f3 0 68374179) y)<|AV (ψ:=fun k=>E.C k 40 [.agg (GDag.t .far q0 (GDag.mk v2_0 v2_1 v2_2 v2_3 v2_4 a)),.agg (GRun.t .far (GRun.mk c (GSpan.mk d e) f b)),NZ v5]=some [NX true,NX true]) (NT (bD (GDag.mk v2_0 v2_1 v2_2 v2_3 v2_4 a) (GRun.mk c (GSpan.mk d e) f b) v5 z A h i) (by rw[j,l]))<|AC m<|AC n<|AC o<|AC p<|AN)
theorem AP {q0:Kd}(v2_0 v2_1:ByteArray)(v2_2 v2_3:Int)(v2_4:Bool)(a:List GTask)(c:ByteArray)(d e f:Int)(b:List GState)(v5:Int)(g:GState)(g1:GTask)(q:(decide (v5<(b.length:Int)))=true)(r:ap b v5=some g)(s:(ag g.f0 0 (4:Int))=true)(u:ap a v5=some g1)(v:(ag g.f1 0 (inc g1.f2))=true)(w:(ag g.f2 0 (1000000000:Int))=true)(x:(!((decide (g.f2>(0:Int)))==(g.f0==(1:Int))))=false)(y:(ag g.f3 0 (68374179:Int))=true)(z:ae.sm (GDag.mk v2_0 v2_1 v2_2 v2_3 v2_4 a))(A:aR (GDag.mk v2_0 v2_1 v2_2 v2_3 v2_4 a)=true)(h:(GRun.mk c (GSpan.mk d e) f b).f3.length=(GDag.mk v2_0 v2_1 v2_2 v2_3 v2_4 a).f5.length)(i:0≤v5∧v5<((GDag.mk v2_0 v2_1 v2_2 v2_3 v2_4 a).f5.length:Int))(j:((aA (GDag.mk v2_0 v2_1 v2_2 v2_3 v2_4 a) (GRun.mk c (GSpan.mk d e) f b) v5).1)=true)(l:((aA (GDag.mk v2_0 v2_1 v2_2 v2_3 v2_4 a) (GRun.mk c (GSpan.mk d e) f b) v5).2)=false)(m:(g.f0==(1:Int))=false)(n:(g.f0==(2:Int))=true)(o:(g.f0==(4:Int))=false)(p:(g.f0==(0:Int))=true):az (am q0 v2_0 v2_1 v2_2 v2_3 v2_4 a c d e f b v5) .normal (am q0 v2_0 v2_1 v2_2 v2_3 v2_4 a c d e f b (inc v5)):=
 RP [N2 (b.length:Int),.b true,.row (GState.t g),rT,.row ((GTask.t q0) g1),rT,rT,.no,.no,.b false,rT,.ret [NX true,NX false],.b false,.b true,.b false,.b true] (ALn b GState.t<|AC q<|AR GState.t r<|AD (NV (ah g.f0 0 4) s)<|AR (GTask.t q0) u<|AD (NV (ah g.f1 0 (inc g1.f2)) v)<|AD (NV (ah g.f2 0 1000000000) w)<|AC x<|AD (NV (ah g.f3 0 68374179) y)<|AV (ψ:=fun k=>E.C k 40 [.agg (GDag.t .far q0 (GDag.mk v2_0 v2_1 v2_2 v2_3 v2_4 a)),.agg (GRun.t .far (GRun.mk c (GSpan.mk d e) f b)),NZ v5]=some [NX true,NX false]) (NT (bD (GDag.mk v2_0 v2_1 v2_2 v2_3 v2_4 a) (GRun.mk c (GSpan.mk d e) f b) v5 z A h i) (by rw[j,l]))<|AC m<|AC n<|AC o<|AC p<|AN)
theorem AQ {q0:Kd}(v2_0 v2_1:ByteArray)(v2_2 v2_3:Int)(v2_4:Bool)(a:List GTask)(c:ByteArray)(d e f:Int)(b:List GState)(v5:Int)(g:GState)(g1:GTask)(p:(decide (v5<(b.length:Int)))=true)(q:ap b v5=some g)(r:(ag g.f0 0 (4:Int))=true)(s:ap a v5=some g1)(u:(ag g.f1 0 (inc g1.f2))=true)(v:(ag g.f2 0 (1000000000:Int))=true)(w:(!((decide (g.f2>(0:Int)))==(g.f0==(1:Int))))=false)(x:(ag g.f3 0 (68374179:Int))=true)(y:ae.sm (GDag.mk v2_0 v2_1 v2_2 v2_3 v2_4 a))(z:aR (GDag.mk v2_0 v2_1 v2_2 v2_3 v2_4 a)=true)(h:(GRun.mk c (GSpan.mk d e) f b).f3.length=(GDag.mk v2_0 v2_1 v2_2 v2_3 v2_4 a).f5.length)(i:0≤v5∧v5<((GDag.mk v2_0 v2_1 v2_2 v2_3 v2_4 a).f5.length:Int))(j:((aA (GDag.mk v2_0 v2_1 v2_2 v2_3 v2_4 a) (GRun.mk c (GSpan.mk d e) f b) v5).1)=true)(l:(g.f0==(1:Int))=false)(m:(g.f0==(2:Int))=true)(n:(g.f0==(4:Int))=false)(o:(g.f0==(0:Int))=false):az (am q0 v2_0 v2_1 v2_2 v2_3 v2_4 a c d e f b v5) .normal (am q0 v2_0 v2_1 v2_2 v2_3 v2_4 a c d e f b (inc v5)):=
 RP [N2 (b.length:Int),.b true,.row (GState.t g),rT,.row ((GTask.t q0) g1),rT,rT,.no,.no,.b false,rT,.ret [NX true,NX ((aA (GDag.mk v2_0 v2_1 v2_2 v2_3 v2_4 a) (GRun.mk c (GSpan.mk d e) f b) v5).2)],.b false,.b true,.b false,.b false] (ALn b GState.t<|AC p<|AR GState.t q<|AD (NV (ah g.f0 0 4) r)<|AR (GTask.t q0) s<|AD (NV (ah g.f1 0 (inc g1.f2)) u)<|AD (NV (ah g.f2 0 1000000000) v)<|AC w<|AD (NV (ah g.f3 0 68374179) x)<|AV (ψ:=fun k=>E.C k 40 [.agg (GDag.t .far q0 (GDag.mk v2_0 v2_1 v2_2 v2_3 v2_4 a)),.agg (GRun.t .far (GRun.mk c (GSpan.mk d e) f b)),NZ v5]=some [NX true,NX ((aA (GDag.mk v2_0 v2_1 v2_2 v2_3 v2_4 a) (GRun.mk c (GSpan.mk d e) f b) v5).2)]) (NT (bD (GDag.mk v2_0 v2_1 v2_2 v2_3 v2_4 a) (GRun.mk c (GSpan.mk d e) f b) v5 y z h i) (by rw[j]))<|AC l<|AC m<|AC n<|AC o<|AN)
theorem AS {q0:Kd}(v2_0 v2_1:ByteArray)(v2_2 v2_3:Int)(v2_4:Bool)(a:List GTask)(c:ByteArray)(d e f:Int)(b:List GState)(v5:Int)(g:GState)(g1:GTask)(n:(decide (v5<(b.length:Int)))=true)(o:ap b v5=some g)(p:(ag g.f0 0 (4:Int))=true)(q:ap a v5=some g1)(r:(ag g.f1 0 (inc g1.f2))=true)(s:(ag g.f2 0 (1000000000:Int))=true)(u:(!((decide (g.f2>(0:Int)))==(g.f0==(1:Int))))=false)(v:(ag g.f3 0 (68374179:Int))=true)(w:ae.sm (GDag.mk v2_0 v2_1 v2_2 v2_3 v2_4 a))(x:aR (GDag.mk v2_0 v2_1 v2_2 v2_3 v2_4 a)=true)(h:(GRun.mk c (GSpan.mk d e) f b).f3.length=(GDag.mk v2_0 v2_1 v2_2 v2_3 v2_4 a).f5.length)(i:0≤v5∧v5<((GDag.mk v2_0 v2_1 v2_2 v2_3 v2_4 a).f5.length:Int))(j:((aA (GDag.mk v2_0 v2_1 v2_2 v2_3 v2_4 a) (GRun.mk c (GSpan.mk d e) f b) v5).1)=false)(l:(g.f0==(1:Int))=false)(m:(g.f0==(2:Int))=true):az (am q0 v2_0 v2_1 v2_2 v2_3 v2_4 a c d e f b v5) .ret (aC q0 false):=
 RP [N2 (b.length:Int),.b true,.row (GState.t g),rT,.row ((GTask.t q0) g1),rT,rT,.no,.no,.b false,rT,.ret [NX false,NX ((aA (GDag.mk v2_0 v2_1 v2_2 v2_3 v2_4 a) (GRun.mk c (GSpan.mk d e) f b) v5).2)],.b false,.b true] (ALn b GState.t<|AC n<|AR GState.t o<|AD (NV (ah g.f0 0 4) p)<|AR (GTask.t q0) q<|AD (NV (ah g.f1 0 (inc g1.f2)) r)<|AD (NV (ah g.f2 0 1000000000) s)<|AC u<|AD (NV (ah g.f3 0 68374179) v)<|AV (ψ:=fun k=>E.C k 40 [.agg (GDag.t .far q0 (GDag.mk v2_0 v2_1 v2_2 v2_3 v2_4 a)),.agg (GRun.t .far (GRun.mk c (GSpan.mk d e) f b)),NZ v5]=some [NX false,NX ((aA (GDag.mk v2_0 v2_1 v2_2 v2_3 v2_4 a) (GRun.mk c (GSpan.mk d e) f b) v5).2)]) (NT (bD (GDag.mk v2_0 v2_1 v2_2 v2_3 v2_4 a) (GRun.mk c (GSpan.mk d e) f b) v5 w x h i) (by rw[j]))<|AC l<|AC m<|AN)
theorem AT {q0:Kd}(v2_0 v2_1:ByteArray)(v2_2 v2_3:Int)(v2_4:Bool)(a:List GTask)(c:ByteArray)(d e f:Int)(b:List GState)(v5:Int)(g:GState)(g1:GTask)(p:(decide (v5<(b.length:Int)))=true)(q:ap b v5=some g)(r:(ag g.f0 0 (4:Int))=true)(s:ap a v5=some g1)(u:(ag g.f1 0 (inc g1.f2))=true)(v:(ag g.f2 0 (1000000000:Int))=true)(w:(!((decide (g.f2>(0:Int)))==(g.f0==(1:Int))))=false)(x:(ag g.f3 0 (68374179:Int))=true)(y:ae.sm (GDag.mk v2_0 v2_1 v2_2 v2_3 v2_4 a))(z:aR (GDag.mk v2_0 v2_1 v2_2 v2_3 v2_4 a)=true)(h:(GRun.mk c (GSpan.mk d e) f b).f3.length=(GDag.mk v2_0 v2_1 v2_2 v2_3 v2_4 a).f5.length)(i:0≤v5∧v5<((GDag.mk v2_0 v2_1 v2_2 v2_3 v2_4 a).f5.length:Int))(j:((aA (GDag.mk v2_0 v2_1 v2_2 v2_3 v2_4 a) (GRun.mk c (GSpan.mk d e) f b) v5).2)=true)(l:(g.f0==(1:Int))=false)(m:(g.f0==(2:Int))=false)(n:(g.f0==(4:Int))=true)(o:(g.f0==(0:Int))=true):az (am q0 v2_0 v2_1 v2_2 v2_3 v2_4 a c d e f b v5) .ret (aC q0 false):=
 RP [N2 (b.length:Int),.b true,.row (GState.t g),rT,.row ((GTask.t q0) g1),rT,rT,.no,.no,.b false,rT,.ret [NX ((aA (GDag.mk v2_0 v2_1 v2_2 v2_3 v2_4 a) (GRun.mk c (GSpan.mk d e) f b) v5).1),NX true],.b false,.b false,.b true,.b true] (ALn b GState.t<|AC p<|AR GState.t q<|AD (NV (ah g.f0 0 4) r)<|AR (GTask.t q0) s<|AD (NV (ah g.f1 0 (inc g1.f2)) u)<|AD (NV (ah g.f2 0 1000000000) v)<|AC w<|AD (NV (ah g.f3 0 68374179) x)<|AV (ψ:=fun k=>E.C k 40 [.agg (GDag.t .far q0 (GDag.mk v2_0 v2_1 v2_2 v2_3 v2_4 a)),.agg (GRun.t .far (GRun.mk c (GSpan.mk d e) f b)),NZ v5]=some [NX ((aA (GDag.mk v2_0 v2_1 v2_2 v2_3 v2_4 a) (GRun.mk c (GSpan.mk d e) f b) v5).1),NX true]) (NT (bD (GDag.mk v2_0 v2_1 v2_2 v2_3 v2_4 a) (GRun.mk c (GSpan.mk d e) f b) v5 y z h i) (by rw[j]))<|AC l<|AC m<|AC n<|AC o<|AN)
theorem AU {q0:Kd}(v2_0 v2_1:ByteArray)(v2_2 v2_3:Int)(v2_4:Bool)(a:List GTask)(c:ByteArray)(d e f:Int)(b:List GState)(v5:Int)(g:GState)(g1:GTask)(p:(decide (v5<(b.length:Int)))=true)(q:ap b v5=some g)(r:(ag g.f0 0 (4:Int))=true)(s:ap a v5=some g1)(u:(ag g.f1 0 (inc g1.f2))=true)(v:(ag g.f2 0 (1000000000:Int))=true)(w:(!((decide (g.f2>(0:Int)))==(g.f0==(1:Int))))=false)(x:(ag g.f3 0 (68374179:Int))=true)(y:ae.sm (GDag.mk v2_0 v2_1 v2_2 v2_3 v2_4 a))(z:aR (GDag.mk v2_0 v2_1 v2_2 v2_3 v2_4 a)=true)(h:(GRun.mk c (GSpan.mk d e) f b).f3.length=(GDag.mk v2_0 v2_1 v2_2 v2_3 v2_4 a).f5.length)(i:0≤v5∧v5<((GDag.mk v2_0 v2_1 v2_2 v2_3 v2_4 a).f5.length:Int))(j:((aA (GDag.mk v2_0 v2_1 v2_2 v2_3 v2_4 a) (GRun.mk c (GSpan.mk d e) f b) v5).2)=true)(l:(g.f0==(1:Int))=false)(m:(g.f0==(2:Int))=false)(n:(g.f0==(4:Int))=true)(o:(g.f0==(0:Int))=false):az (am q0 v2_0 v2_1 v2_2 v2_3 v2_4 a c d e f b v5) .normal (am q0 v2_0 v2_1 v2_2 v2_3 v2_4 a c d e f b (inc v5)):=
 RP [N2 (b.length:Int),.b true,.row (GState.t g),rT,.row ((GTask.t q0) g1),rT,rT,.no,.no,.b false,rT,.ret [NX ((aA (GDag.mk v2_0 v2_1 v2_2 v2_3 v2_4 a) (GRun.mk c (GSpan.mk d e) f b) v5).1),NX true],.b false,.b false,.b true,.b false] (ALn b GState.t<|AC p<|AR GState.t q<|AD (NV (ah g.f0 0 4) r)<|AR (GTask.t q0) s<|AD (NV (ah g.f1 0 (inc g1.f2)) u)<|AD (NV (ah g.f2 0 1000000000) v)<|AC w<|AD (NV (ah g.f3 0 68374179) x)<|AV (ψ:=fun k=>E.C k 40 [.agg (GDag.t .far q0 (GDag.mk v2_0 v2_1 v2_2 v2_3 v2_4 a)),.agg (GRun.t .far (GRun.mk c (GSpan.mk d e) f b)),NZ v5]=some [NX ((aA (GDag.mk v2_0 v2_1 v2_2 v2_3 v2_4 a) (GRun.mk c (GSpan.mk d e) f b) v5).1),NX true]) (NT (bD (GDag.mk v2_0 v2_1 v2_2 v2_3 v2_4 a) (GRun.mk c (GSpan.mk d e) f b) v5 y z h i) (by rw[j]))<|AC l<|AC m<|AC n<|AC o<|AN)
theorem AW {q0:Kd}(v2_0 v2_1:ByteArray)(v2_2 v2_3:Int)(v2_4:Bool)(a:List GTask)(c:ByteArray)(d e f:Int)(b:List GState)(v5:Int)(g:GState)(g1:GTask)(o:(decide (v5<(b.length:Int)))=true)(p:ap b v5=some g)(q:(ag g.f0 0 (4:Int))=true)(r:ap a v5=some g1)(s:(ag g.f1 0 (inc g1.f2))=true)(u:(ag g.f2 0 (1000000000:Int))=true)(v:(!((decide (g.f2>(0:Int)))==(g.f0==(1:Int))))=false)(w:(ag g.f3 0 (68374179:Int))=true)(x:ae.sm (GDag.mk v2_0 v2_1 v2_2 v2_3 v2_4 a))(y:aR (GDag.mk v2_0 v2_1 v2_2 v2_3 v2_4 a)=true)(h:(GRun.mk c (GSpan.mk d e) f b).f3.length=(GDag.mk v2_0 v2_1 v2_2 v2_3 v2_4 a).f5.length)(i:0≤v5∧v5<((GDag.mk v2_0 v2_1 v2_2 v2_3 v2_4 a).f5.length:Int))(j:((aA (GDag.mk v2_0 v2_1 v2_2 v2_3 v2_4 a) (GRun.mk c (GSpan.mk d e) f b) v5).2)=false)(l:(g.f0==(1:Int))=false)(m:(g.f0==(2:Int))=false)(n:(g.f0==(4:Int))=true):az (am q0 v2_0 v2_1 v2_2 v2_3 v2_4 a c d e f b v5) .ret (aC q0 false):=
 RP [N2 (b.length:Int),.b true,.row (GState.t g),rT,.row ((GTask.t q0) g1),rT,rT,.no,.no,.b false,rT,.ret [NX ((aA (GDag.mk v2_0 v2_1 v2_2 v2_3 v2_4 a) (GRun.mk c (GSpan.mk d e) f b) v5).1),NX false],.b false,.b false,.b true] (ALn b GState.t<|AC o<|AR GState.t p<|AD (NV (ah g.f0 0 4) q)<|AR (GTask.t q0) r<|AD (NV (ah g.f1 0 (inc g1.f2)) s)<|AD (NV (ah g.f2 0 1000000000) u)<|AC v<|AD (NV (ah g.f3 0 68374179) w)<|AV (ψ:=fun k=>E.C k 40 [.agg (GDag.t .far q0 (GDag.mk v2_0 v2_1 v2_2 v2_3 v2_4 a)),.agg (GRun.t .far (GRun.mk c (GSpan.mk d e) f b)),NZ v5]=some [NX ((aA (GDag.mk v2_0 v2_1 v2_2 v2_3 v2_4 a) (GRun.mk c (GSpan.mk d e) f b) v5).1),NX false]) (NT (bD (GDag.mk v2_0 v2_1 v2_2 v2_3 v2_4 a) (GRun.mk c (GSpan.mk d e) f b) v5 x y h i) (by rw[j]))<|AC l<|AC m<|AC n<|AN)
theorem AX {q0:Kd}(v2_0 v2_1:ByteArray)(v2_2 v2_3:Int)(v2_4:Bool)(a:List GTask)(c:ByteArray)(d e f:Int)(b:List GState)(v5:Int)(g:GState)(g1:GTask)(p:(decide (v5<(b.length:Int)))=true)(q:ap b v5=some g)(r:(ag g.f0 0 (4:Int))=true)(s:ap a v5=some g1)(u:(ag g.f1 0 (inc g1.f2))=true)(v:(ag g.f2 0 (1000000000:Int))=true)(w:(!((decide (g.f2>(0:Int)))==(g.f0==(1:Int))))=false)(x:(ag g.f3 0 (68374179:Int))=true)(y:ae.sm (GDag.mk v2_0 v2_1 v2_2 v2_3 v2_4 a))(z:aR (GDag.mk v2_0 v2_1 v2_2 v2_3 v2_4 a)=true)(h:(GRun.mk c (GSpan.mk d e) f b).f3.length=(GDag.mk v2_0 v2_1 v2_2 v2_3 v2_4 a).f5.length)(i:0≤v5∧v5<((GDag.mk v2_0 v2_1 v2_2 v2_3 v2_4 a).f5.length:Int))(j:((aA (GDag.mk v2_0 v2_1 v2_2 v2_3 v2_4 a) (GRun.mk c (GSpan.mk d e) f b) v5).2)=true)(l:(g.f0==(1:Int))=false)(m:(g.f0==(2:Int))=false)(n:(g.f0==(4:Int))=false)(o:(g.f0==(0:Int))=true):az (am q0 v2_0 v2_1 v2_2 v2_3 v2_4 a c d e f b v5) .ret (aC q0 false):=
 RP [N2 (b.length:Int),.b true,.row (GState.t g),rT,.row ((GTask.t q0) g1),rT,rT,.no,.no,.b false,rT,.ret [NX ((aA (GDag.mk v2_0 v2_1 v2_2 v2_3 v2_4 a) (GRun.mk c (GSpan.mk d e) f b) v5).1),NX true],.b false,.b false,.b false,.b true] (ALn b GState.t<|AC p<|AR GState.t q<|AD (NV (ah g.f0 0 4) r)<|AR (GTask.t q0) s<|AD (NV (ah g.f1 0 (inc g1.f2)) u)<|AD (NV (ah g.f2 0 1000000000) v)<|AC w<|AD (NV (ah g.f3 0 68374179) x)<|AV (ψ:=fun k=>E.C k 40 [.agg (GDag.t .far q0 (GDag.mk v2_0 v2_1 v2_2 v2_3 v2_4 a)),.agg (GRun.t .far (GRun.mk c (GSpan.mk d e) f b)),NZ v5]=some [NX ((aA (GDag.mk v2_0 v2_1 v2_2 v2_3 v2_4 a) (GRun.mk c (GSpan.mk d e) f b) v5).1),NX true]) (NT (bD (GDag.mk v2_0 v2_1 v2_2 v2_3 v2_4 a) (GRun.mk c (GSpan.mk d e) f b) v5 y z h i) (by rw[j]))<|AC l<|AC m<|AC n<|AC o<|AN)
theorem AY {q0:Kd}(v2_0 v2_1:ByteArray)(v2_2 v2_3:Int)(v2_4:Bool)(a:List GTask)(c:ByteArray)(d e f:Int)(b:List GState)(v5:Int)(g:GState)(g1:GTask)(p:(decide (v5<(b.length:Int)))=true)(q:ap b v5=some g)(r:(ag g.f0 0 (4:Int))=true)(s:ap a v5=some g1)(u:(ag g.f1 0 (inc g1.f2))=true)(v:(ag g.f2 0 (1000000000:Int))=true)(w:(!((decide (g.f2>(0:Int)))==(g.f0==(1:Int))))=false)(x:(ag g.f3 0 (68374179:Int))=true)(y:ae.sm (GDag.mk v2_0 v2_1 v2_2 v2_3 v2_4 a))(z:aR (GDag.mk v2_0 v2_1 v2_2 v2_3 v2_4 a)=true)(h:(GRun.mk c (GSpan.mk d e) f b).f3.length=(GDag.mk v2_0 v2_1 v2_2 v2_3 v2_4 a).f5.length)(i:0≤v5∧v5<((GDag.mk v2_0 v2_1 v2_2 v2_3 v2_4 a).f5.length:Int))(j:((aA (GDag.mk v2_0 v2_1 v2_2 v2_3 v2_4 a) (GRun.mk c (GSpan.mk d e) f b) v5).2)=false)(l:(g.f0==(1:Int))=false)(m:(g.f0==(2:Int))=false)(n:(g.f0==(4:Int))=false)(o:(g.f0==(0:Int))=true):az (am q0 v2_0 v2_1 v2_2 v2_3 v2_4 a c d e f b v5) .normal (am q0 v2_0 v2_1 v2_2 v2_3 v2_4 a c d e f b (inc v5)):=
 RP [N2 (b.length:Int),.b true,.row (GState.t g),rT,.row ((GTask.t q0) g1),rT,rT,.no,.no,.b false,rT,.ret [NX ((aA (GDag.mk v2_0 v2_1 v2_2 v2_3 v2_4 a) (GRun.mk c (GSpan.mk d e) f b) v5).1),NX false],.b false,.b false,.b false,.b true] (ALn b GState.t<|AC p<|AR GState.t q<|AD (NV (ah g.f0 0 4) r)<|AR (GTask.t q0) s<|AD (NV (ah g.f1 0 (inc g1.f2)) u)<|AD (NV (ah g.f2 0 1000000000) v)<|AC w<|AD (NV (ah g.f3 0 68374179) x)<|AV (ψ:=fun k=>E.C k 40 [.agg (GDag.t .far q0 (GDag.mk v2_0 v2_1 v2_2 v2_3 v2_4 a)),.agg (GRun.t .far (GRun.mk c (GSpan.mk d e) f b)),NZ v5]=some [NX ((aA (GDag.mk v2_0 v2_1 v2_2 v2_3 v2_4 a) (GRun.mk c (GSpan.mk d e) f b) v5).1),NX false]) (NT (bD (GDag.mk v2_0 v2_1 v2_2 v2_3 v2_4 a) (GRun.mk c (GSpan.mk d e) f b) v5 y z h i) (by rw[j]))<|AC l<|AC m<|AC n<|AC o<|AN)
theorem AZ {q0:Kd}(v2_0 v2_1:ByteArray)(v2_2 v2_3:Int)(v2_4:Bool)(a:List GTask)(c:ByteArray)(d e f:Int)(b:List GState)(v5:Int)(g:GState)(g1:GTask)(o:(decide (v5<(b.length:Int)))=true)(p:ap b v5=some g)(q:(ag g.f0 0 (4:Int))=true)(r:ap a v5=some g1)(s:(ag g.f1 0 (inc g1.f2))=true)(u:(ag g.f2 0 (1000000000:Int))=true)(v:(!((decide (g.f2>(0:Int)))==(g.f0==(1:Int))))=false)(w:(ag g.f3 0 (68374179:Int))=true)(x:ae.sm (GDag.mk v2_0 v2_1 v2_2 v2_3 v2_4 a))(y:aR (GDag.mk v2_0 v2_1 v2_2 v2_3 v2_4 a)=true)(h:(GRun.mk c (GSpan.mk d e) f b).f3.length=(GDag.mk v2_0 v2_1 v2_2 v2_3 v2_4 a).f5.length)(i:0≤v5∧v5<((GDag.mk v2_0 v2_1 v2_2 v2_3 v2_4 a).f5.length:Int))(j:(g.f0==(1:Int))=false)(l:(g.f0==(2:Int))=false)(m:(g.f0==(4:Int))=false)(n:(g.f0==(0:Int))=false):az (am q0 v2_0 v2_1 v2_2 v2_3 v2_4 a c d e f b v5) .normal (am q0 v2_0 v2_1 v2_2 v2_3 v2_4 a c d e f b (inc v5)):=
 RP [N2 (b.length:Int),.b true,.row (GState.t g),rT,.row ((GTask.t q0) g1),rT,rT,.no,.no,.b false,rT,.ret [NX ((aA (GDag.mk v2_0 v2_1 v2_2 v2_3 v2_4 a) (GRun.mk c (GSpan.mk d e) f b) v5).1),NX ((aA (GDag.mk v2_0 v2_1 v2_2 v2_3 v2_4 a) (GRun.mk c (GSpan.mk d e) f b) v5).2)],.b false,.b false,.b false,.b false] (ALn b GState.t<|AC o<|AR GState.t p<|AD (NV (ah g.f0 0 4) q)<|AR (GTask.t q0) r<|AD (NV (ah g.f1 0 (inc g1.f2)) s)<|AD (NV (ah g.f2 0 1000000000) u)<|AC v<|AD (NV (ah g.f3 0 68374179) w)<|AV (ψ:=fun k=>E.C k 40 [.agg (GDag.t .far q0 (GDag.mk v2_0 v2_1 v2_2 v2_3 v2_4 a)),.agg (GRun.t .far (GRun.mk c (GSpan.mk d e) f b)),NZ v5]=some [NX ((aA (GDag.mk v2_0 v2_1 v2_2 v2_3 v2_4 a) (GRun.mk c (GSpan.mk d e) f b) v5).1),NX ((aA (GDag.mk v2_0 v2_1 v2_2 v2_3 v2_4 a) (GRun.mk c (GSpan.mk d e) f b) v5).2)]) (bD (GDag.mk v2_0 v2_1 v2_2 v2_3 v2_4 a) (GRun.mk c (GSpan.mk d e) f b) v5 x y h i)<|AC j<|AC l<|AC m<|AC n<|AN)
theorem A0 {q0:Kd}(v2_0 v2_1:ByteArray)(v2_2 v2_3:Int)(v2_4:Bool)(c:List GTask)(d:ByteArray)(e f g:Int)(a:List GState)(v5:Int)(b:GState)(g1:GTask)(h:(decide (v5<(a.length:Int)))=true)(i:ap a v5=some b)(j:(ag b.f0 0 (4:Int))=true)(k:ap c v5=some g1)(l:(ag b.f1 0 (inc g1.f2))=true)(m:(ag b.f2 0 (1000000000:Int))=true)(n:(!((decide (b.f2>(0:Int)))==(b.f0==(1:Int))))=false)(o:(ag b.f3 0 (68374179:Int))=false):az (am q0 v2_0 v2_1 v2_2 v2_3 v2_4 c d e f g a v5) .ret (aC q0 false):=
 RP [N2 (a.length:Int),.b true,.row (GState.t b),rT,.row ((GTask.t q0) g1),rT,rT,.no,.no,.b false,rF] (ALn a GState.t<|AC h<|AR GState.t i<|AD (NV (ah b.f0 0 4) j)<|AR (GTask.t q0) k<|AD (NV (ah b.f1 0 (inc g1.f2)) l)<|AD (NV (ah b.f2 0 1000000000) m)<|AC n<|AD (NV (ah b.f3 0 68374179) o)<|AN)
theorem A1 {q0:Kd}(v2_0 v2_1:ByteArray)(v2_2 v2_3:Int)(v2_4:Bool)(b:List GTask)(d:ByteArray)(e f g:Int)(a:List GState)(v5:Int)(c:GState)(g1:GTask)(h:(decide (v5<(a.length:Int)))=true)(i:ap a v5=some c)(j:(ag c.f0 0 (4:Int))=true)(k:ap b v5=some g1)(l:(ag c.f1 0 (inc g1.f2))=true)(m:(ag c.f2 0 (1000000000:Int))=false):az (am q0 v2_0 v2_1 v2_2 v2_3 v2_4 b d e f g a v5) .ret (aC q0 false):=
 RP [N2 (a.length:Int),.b true,.row (GState.t c),rT,.row ((GTask.t q0) g1),rT,rF] (ALn a GState.t<|AC h<|AR GState.t i<|AD (NV (ah c.f0 0 4) j)<|AR (GTask.t q0) k<|AD (NV (ah c.f1 0 (inc g1.f2)) l)<|AD (NV (ah c.f2 0 1000000000) m)<|AN)
theorem A2 {q0:Kd}(v2_0 v2_1:ByteArray)(v2_2 v2_3:Int)(v2_4:Bool)(b:List GTask)(d:ByteArray)(e f g:Int)(a:List GState)(v5:Int)(c:GState)(g1:GTask)(h:(decide (v5<(a.length:Int)))=true)(i:ap a v5=some c)(j:(ag c.f0 0 (4:Int))=true)(k:ap b v5=some g1)(l:(ag c.f1 0 (inc g1.f2))=false):az (am q0 v2_0 v2_1 v2_2 v2_3 v2_4 b d e f g a v5) .ret (aC q0 false):=
 RP [N2 (a.length:Int),.b true,.row (GState.t c),rT,.row ((GTask.t q0) g1),rF] (ALn a GState.t<|AC h<|AR GState.t i<|AD (NV (ah c.f0 0 4) j)<|AR (GTask.t q0) k<|AD (NV (ah c.f1 0 (inc g1.f2)) l)<|AN)
theorem A3 {q0:Kd}(v2_0 v2_1:ByteArray)(v2_2 v2_3:Int)(v2_4:Bool)(b:List GTask)(c:ByteArray)(d e f:Int)(a:List GState)(v5:Int)(g:GState)(h:(decide (v5<(a.length:Int)))=true)(i:ap a v5=some g)(j:(ag g.f0 0 (4:Int))=false):az (am q0 v2_0 v2_1 v2_2 v2_3 v2_4 b c d e f a v5) .ret (aC q0 false):=
 RP [N2 (a.length:Int),.b true,.row (GState.t g),rF] (ALn a GState.t<|AC h<|AR GState.t i<|AD (NV (ah g.f0 0 4) j)<|AN)
theorem A4 {q0:Kd}(v2_0 v2_1:ByteArray)(v2_2 v2_3:Int)(v2_4:Bool)(b:List GTask)(c:ByteArray)(d e f:Int)(a:List GState)(v5:Int)(g:(decide (v5<(a.length:Int)))=false):az (am q0 v2_0 v2_1 v2_2 v2_3 v2_4 b c d e f a v5) (.exit 0) (mj q0):=
 RP [N2 (a.length:Int),.b false] (ALn a GState.t<|AC g<|AN)
noncomputable def cu (v2_0 v2_1:ByteArray)(v2_2 v2_3:Int)(a:List GTask)(b:ByteArray)(c d e:Int)(f:List GState):List GState→Nat→Bool→Option xD|[],i,v2_4=>some (.x0)|hd::rest,i,v2_4=>cond (ag hd.f0 0 4) ((ap a (i:Int)).bind fun g1=>cond (ag hd.f1 0 (inc g1.f2)) (cond (ag hd.f2 0 1000000000) (cond (!((decide (hd.f2>(0:Int)))==(hd.f0==(1:Int)))) (some (.ret false)) (cond (ag hd.f3 0 68374179) (if ae.sm (GDag.mk v2_0 v2_1 v2_2 v2_3 v2_4 a)then if aR (GDag.mk v2_0 v2_1 v2_2 v2_3 v2_4 a)=true then if(GRun.mk b (GSpan.mk c d) e f).f3.length=(GDag.mk v2_0 v2_1 v2_2 v2_3 v2_4 a).f5.length then if 0≤(i:Int)∧(i:Int)<((GDag.mk v2_0 v2_1 v2_2 v2_3 v2_4 a).f5.length:Int)then cond (hd.f0==(1:Int)) (cond ((aA (GDag.mk v2_0 v2_1 v2_2 v2_3 v2_4 a) (GRun.mk b (GSpan.mk c d) e f) (i:Int)).1) (cond (hd.f0==(4:Int)) (cond ((aA (GDag.mk v2_0 v2_1 v2_2 v2_3 v2_4 a) (GRun.mk b (GSpan.mk c d) e f) (i:Int)).2) (cond (hd.f0==(0:Int)) (some (.ret false)) (cu v2_0 v2_1 v2_2 v2_3 a b c d e f rest (i+1) v2_4)) (some (.ret false))) (cond (hd.f0==(0:Int)) (cond ((aA (GDag.mk v2_0 v2_1 v2_2 v2_3 v2_4 a) (GRun.mk b (GSpan.mk c d) e f) (i:Int)).2) (some (.ret false)) (cu v2_0 v2_1 v2_2 v2_3 a b c d e f rest (i+1) v2_4)) (cu v2_0 v2_1 v2_2 v2_3 a b c d e f rest (i+1) v2_4))) (some (.ret false))) (cond (hd.f0==(2:Int)) (cond ((aA (GDag.mk v2_0 v2_1 v2_2 v2_3 v2_4 a) (GRun.mk b (GSpan.mk c d) e f) (i:Int)).1) (cond (hd.f0==(4:Int)) (cond ((aA (GDag.mk v2_0 v2_1 v2_2 v2_3 v2_4 a) (GRun.mk b (GSpan.mk c d) e f) (i:Int)).2) (cond (hd.f0==(0:Int)) (some (.ret false)) (cu v2_0 v2_1 v2_2 v2_3 a b c d e f rest (i+1) v2_4)) (some (.ret false))) (cond (hd.f0==(0:Int)) (cond ((aA (GDag.mk v2_0 v2_1 v2_2 v2_3 v2_4 a) (GRun.mk b (GSpan.mk c d) e f) (i:Int)).2) (some (.ret false)) (cu v2_0 v2_1 v2_2 v2_3 a b c d e f rest (i+1) v2_4)) (cu v2_0 v2_1 v2_2 v2_3 a b c d e f rest (i+1) v2_4))) (some (.ret false))) (cond (hd.f0==(4:Int)) (cond ((aA (GDag.mk v2_0 v2_1 v2_2 v2_3 v2_4 a) (GRun.mk b (GSpan.mk c d) e f) (i:Int)).2) (cond (hd.f0==(0:Int)) (some (.ret false)) (cu v2_0 v2_1 v2_2 v2_3 a b c d e f rest (i+1) v2_4)) (some (.ret false))) (cond (hd.f0==(0:Int)) (cond ((aA (GDag.mk v2_0 v2_1 v2_2 v2_3 v2_4 a) (GRun.mk b (GSpan.mk c d) e f) (i:Int)).2) (some (.ret false)) (cu v2_0 v2_1 v2_2 v2_3 a b c d e f rest (i+1) v2_4)) (cu v2_0 v2_1 v2_2 v2_3 a b c d e f rest (i+1) v2_4))))else none else none else none else none) (some (.ret false)))) (some (.ret false))) (some (.ret false))) (some (.ret false))
theorem Gz {q0:Kd}(v2_0 v2_1:ByteArray)(v2_2 v2_3:Int)(b:List GTask)(c:ByteArray)(d e f:Int)(a:List GState)(rest:List GState):∀(i:Nat)(v2_4:Bool),(a).drop i=rest→a.length≤9223372036854775807→Ans (cu v2_0 v2_1 v2_2 v2_3 b c d e f a rest i v2_4) (GA (q0:=q0) v2_0 v2_1 v2_2 v2_3 v2_4 b c d e f a (i:Int)):=by
 induction rest with
 |nil =>intro i v2_4 D z;have hb:=bw D;unfold cu;exact NN (NP (show az (am q0 v2_0 v2_1 v2_2 v2_3 v2_4 b c d e f a (i:Int)) (.exit 0) (mj q0)from A4 (q0:=q0) v2_0 v2_1 v2_2 v2_3 v2_4 b c d e f a (i:Int) hb) (by intro h;cases h))
 |cons hd rest B =>
  intro i v2_4 D z;have hb:=a8 D;have C:=ba D z;have w:=aG D;have m:=bc D;unfold cu;apply NQ<;>intro n
  ·refine NR (fun g1 o => ?_);apply NQ<;>intro p
   ·apply NQ<;>intro q
    ·apply NQ<;>intro s
     ·exact NN (NP (show az (am q0 v2_0 v2_1 v2_2 v2_3 v2_4 b c d e f a (i:Int)) .ret (aC q0 false)from CB (q0:=q0) v2_0 v2_1 v2_2 v2_3 v2_4 b c d e f a (i:Int) hd g1 hb m n o p q s) (by intro h;cases h))
     ·apply NQ<;>intro t
      ·refine NS (fun u => ?_);refine NS (fun v => ?_);refine NS (fun j => ?_);refine NS (fun k => ?_);apply NQ<;>intro f1
       ·apply NQ<;>intro g
        ·apply NQ<;>intro f2
         ·apply NQ<;>intro l
          ·apply NQ<;>intro A
           ·exact NN (NP (show az (am q0 v2_0 v2_1 v2_2 v2_3 v2_4 b c d e f a (i:Int)) .ret (aC q0 false)from CC (q0:=q0) v2_0 v2_1 v2_2 v2_3 v2_4 b c d e f a (i:Int) hd g1 hb m n o p q s t u v j k g l f1 f2 A) (by intro h;cases h))
           ·exact(B (i+1) v2_4 w z).mono fun y x=>by have r:az (am q0 v2_0 v2_1 v2_2 v2_3 v2_4 b c d e f a (i:Int)) .normal (am q0 v2_0 v2_1 v2_2 v2_3 v2_4 b c d e f a (inc (i:Int))):=CD (q0:=q0) v2_0 v2_1 v2_2 v2_3 v2_4 b c d e f a (i:Int) hd g1 hb m n o p q s t u v j k g l f1 f2 A;rw[C]at r;cases y<;>exact NO r x
          ·exact NN (NP (show az (am q0 v2_0 v2_1 v2_2 v2_3 v2_4 b c d e f a (i:Int)) .ret (aC q0 false)from CE (q0:=q0) v2_0 v2_1 v2_2 v2_3 v2_4 b c d e f a (i:Int) hd g1 hb m n o p q s t u v j k g l f1 f2) (by intro h;cases h))
         ·apply NQ<;>intro f3
          ·apply NQ<;>intro l
           ·exact NN (NP (show az (am q0 v2_0 v2_1 v2_2 v2_3 v2_4 b c d e f a (i:Int)) .ret (aC q0 false)from CF (q0:=q0) v2_0 v2_1 v2_2 v2_3 v2_4 b c d e f a (i:Int) hd g1 hb m n o p q s t u v j k g l f1 f2 f3) (by intro h;cases h))
           ·exact(B (i+1) v2_4 w z).mono fun y x=>by have r:az (am q0 v2_0 v2_1 v2_2 v2_3 v2_4 b c d e f a (i:Int)) .normal (am q0 v2_0 v2_1 v2_2 v2_3 v2_4 b c d e f a (inc (i:Int))):=CG (q0:=q0) v2_0 v2_1 v2_2 v2_3 v2_4 b c d e f a (i:Int) hd g1 hb m n o p q s t u v j k g l f1 f2 f3;rw[C]at r;cases y<;>exact NO r x
          ·exact(B (i+1) v2_4 w z).mono fun y x=>by have r:az (am q0 v2_0 v2_1 v2_2 v2_3 v2_4 b c d e f a (i:Int)) .normal (am q0 v2_0 v2_1 v2_2 v2_3 v2_4 b c d e f a (inc (i:Int))):=CH (q0:=q0) v2_0 v2_1 v2_2 v2_3 v2_4 b c d e f a (i:Int) hd g1 hb m n o p q s t u v j k g f1 f2 f3;rw[C]at r;cases y<;>exact NO r x
        ·exact NN (NP (show az (am q0 v2_0 v2_1 v2_2 v2_3 v2_4 b c d e f a (i:Int)) .ret (aC q0 false)from CI (q0:=q0) v2_0 v2_1 v2_2 v2_3 v2_4 b c d e f a (i:Int) hd g1 hb m n o p q s t u v j k g f1) (by intro h;cases h))
       ·apply NQ<;>intro f4
        ·apply NQ<;>intro g
         ·apply NQ<;>intro f5
          ·apply NQ<;>intro l
           ·apply NQ<;>intro F
            ·exact NN (NP (show az (am q0 v2_0 v2_1 v2_2 v2_3 v2_4 b c d e f a (i:Int)) .ret (aC q0 false)from CJ (q0:=q0) v2_0 v2_1 v2_2 v2_3 v2_4 b c d e f a (i:Int) hd g1 hb m n o p q s t u v j k g l f1 f4 f5 F) (by intro h;cases h))
            ·exact(B (i+1) v2_4 w z).mono fun y x=>by have r:az (am q0 v2_0 v2_1 v2_2 v2_3 v2_4 b c d e f a (i:Int)) .normal (am q0 v2_0 v2_1 v2_2 v2_3 v2_4 b c d e f a (inc (i:Int))):=CK (q0:=q0) v2_0 v2_1 v2_2 v2_3 v2_4 b c d e f a (i:Int) hd g1 hb m n o p q s t u v j k g l f1 f4 f5 F;rw[C]at r;cases y<;>exact NO r x
           ·exact NN (NP (show az (am q0 v2_0 v2_1 v2_2 v2_3 v2_4 b c d e f a (i:Int)) .ret (aC q0 false)from AM (q0:=q0) v2_0 v2_1 v2_2 v2_3 v2_4 b c d e f a (i:Int) hd g1 hb m n o p q s t u v j k g l f1 f4 f5) (by intro h;cases h))
          ·apply NQ<;>intro f6
           ·apply NQ<;>intro l
            ·exact NN (NP (show az (am q0 v2_0 v2_1 v2_2 v2_3 v2_4 b c d e f a (i:Int)) .ret (aC q0 false)from AO (q0:=q0) v2_0 v2_1 v2_2 v2_3 v2_4 b c d e f a (i:Int) hd g1 hb m n o p q s t u v j k g l f1 f4 f5 f6) (by intro h;cases h))
            ·exact(B (i+1) v2_4 w z).mono fun y x=>by have r:az (am q0 v2_0 v2_1 v2_2 v2_3 v2_4 b c d e f a (i:Int)) .normal (am q0 v2_0 v2_1 v2_2 v2_3 v2_4 b c d e f a (inc (i:Int))):=AP (q0:=q0) v2_0 v2_1 v2_2 v2_3 v2_4 b c d e f a (i:Int) hd g1 hb m n o p q s t u v j k g l f1 f4 f5 f6;rw[C]at r;cases y<;>exact NO r x
           ·exact(B (i+1) v2_4 w z).mono fun y x=>by have r:az (am q0 v2_0 v2_1 v2_2 v2_3 v2_4 b c d e f a (i:Int)) .normal (am q0 v2_0 v2_1 v2_2 v2_3 v2_4 b c d e f a (inc (i:Int))):=AQ (q0:=q0) v2_0 v2_1 v2_2 v2_3 v2_4 b c d e f a (i:Int) hd g1 hb m n o p q s t u v j k g f1 f4 f5 f6;rw[C]at r;cases y<;>exact NO r x
         ·exact NN (NP (show az (am q0 v2_0 v2_1 v2_2 v2_3 v2_4 b c d e f a (i:Int)) .ret (aC q0 false)from AS (q0:=q0) v2_0 v2_1 v2_2 v2_3 v2_4 b c d e f a (i:Int) hd g1 hb m n o p q s t u v j k g f1 f4) (by intro h;cases h))
        ·apply NQ<;>intro f7
         ·apply NQ<;>intro g
          ·apply NQ<;>intro A
           ·exact NN (NP (show az (am q0 v2_0 v2_1 v2_2 v2_3 v2_4 b c d e f a (i:Int)) .ret (aC q0 false)from AT (q0:=q0) v2_0 v2_1 v2_2 v2_3 v2_4 b c d e f a (i:Int) hd g1 hb m n o p q s t u v j k g f1 f4 f7 A) (by intro h;cases h))
           ·exact(B (i+1) v2_4 w z).mono fun y x=>by have r:az (am q0 v2_0 v2_1 v2_2 v2_3 v2_4 b c d e f a (i:Int)) .normal (am q0 v2_0 v2_1 v2_2 v2_3 v2_4 b c d e f a (inc (i:Int))):=AU (q0:=q0) v2_0 v2_1 v2_2 v2_3 v2_4 b c d e f a (i:Int) hd g1 hb m n o p q s t u v j k g f1 f4 f7 A;rw[C]at r;cases y<;>exact NO r x
          ·exact NN (NP (show az (am q0 v2_0 v2_1 v2_2 v2_3 v2_4 b c d e f a (i:Int)) .ret (aC q0 false)from AW (q0:=q0) v2_0 v2_1 v2_2 v2_3 v2_4 b c d e f a (i:Int) hd g1 hb m n o p q s t u v j k g f1 f4 f7) (by intro h;cases h))
         ·apply NQ<;>intro f8
          ·apply NQ<;>intro g
           ·exact NN (NP (show az (am q0 v2_0 v2_1 v2_2 v2_3 v2_4 b c d e f a (i:Int)) .ret (aC q0 false)from AX (q0:=q0) v2_0 v2_1 v2_2 v2_3 v2_4 b c d e f a (i:Int) hd g1 hb m n o p q s t u v j k g f1 f4 f7 f8) (by intro h;cases h))
           ·exact(B (i+1) v2_4 w z).mono fun y x=>by have r:az (am q0 v2_0 v2_1 v2_2 v2_3 v2_4 b c d e f a (i:Int)) .normal (am q0 v2_0 v2_1 v2_2 v2_3 v2_4 b c d e f a (inc (i:Int))):=AY (q0:=q0) v2_0 v2_1 v2_2 v2_3 v2_4 b c d e f a (i:Int) hd g1 hb m n o p q s t u v j k g f1 f4 f7 f8;rw[C]at r;cases y<;>exact NO r x
          ·exact(B (i+1) v2_4 w z).mono fun y x=>by have r:az (am q0 v2_0 v2_1 v2_2 v2_3 v2_4 b c d e f a (i:Int)) .normal (am q0 v2_0 v2_1 v2_2 v2_3 v2_4 b c d e f a (inc (i:Int))):=AZ (q0:=q0) v2_0 v2_1 v2_2 v2_3 v2_4 b c d e f a (i:Int) hd g1 hb m n o p q s t u v j k f1 f4 f7 f8;rw[C]at r;cases y<;>exact NO r x
      ·exact NN (NP (show az (am q0 v2_0 v2_1 v2_2 v2_3 v2_4 b c d e f a (i:Int)) .ret (aC q0 false)from A0 (q0:=q0) v2_0 v2_1 v2_2 v2_3 v2_4 b c d e f a (i:Int) hd g1 hb m n o p q s t) (by intro h;cases h))
    ·exact NN (NP (show az (am q0 v2_0 v2_1 v2_2 v2_3 v2_4 b c d e f a (i:Int)) .ret (aC q0 false)from A1 (q0:=q0) v2_0 v2_1 v2_2 v2_3 v2_4 b c d e f a (i:Int) hd g1 hb m n o p q) (by intro h;cases h))
   ·exact NN (NP (show az (am q0 v2_0 v2_1 v2_2 v2_3 v2_4 b c d e f a (i:Int)) .ret (aC q0 false)from A2 (q0:=q0) v2_0 v2_1 v2_2 v2_3 v2_4 b c d e f a (i:Int) hd g1 hb m n o p) (by intro h;cases h))
  ·exact NN (NP (show az (am q0 v2_0 v2_1 v2_2 v2_3 v2_4 b c d e f a (i:Int)) .ret (aC q0 false)from A3 (q0:=q0) v2_0 v2_1 v2_2 v2_3 v2_4 b c d e f a (i:Int) hd hb m n) (by intro h;cases h))
noncomputable def pN (x0:GDag)(a:GRun):Option (Bool):=
  cond (!(a.f0.toList==x0.f0.toList))
   (some (false))
   (cond (oQ a.f1)
    (cond (ag a.f2 0 1000)
     (cond ((a.f3.length:Int) != (x0.f5.length:Int))
      (some (false))
      (if a.f3.length≤9223372036854775807 then(cu x0.f0 x0.f1 x0.f2 x0.f3 x0.f5 a.f0 a.f1.f0 a.f1.f1 a.f2 a.f3 a.f3 0 x0.f4).bind fun y=>match y with
       | .ret b=>(some (b))
       | .x0=>(some (true))else none))
     (some (false)))
    (some (false)))
theorem II {q0:Kd}(x0:GDag)(a:GRun):Ans (pN x0 a) (fun r=>Does E 38 [.agg (GDag.t .far q0 x0),.agg (GRun.t .far a)] [NX r]):=by
 unfold pN;apply NQ<;>intro b
 ·exact NN (DP Tryz.f38 [.b true] (AC b<|AN))
 ·apply NQ<;>intro c
  ·apply NQ<;>intro e
   ·apply NQ<;>intro g
    ·exact NN (DP Tryz.f38 [.b false,rT,rT,N2 (a.f3.length:Int),N2 (x0.f5.length:Int),.b true] (AC b<|AD (NV (lN a.f1) c)<|AD (NV (ah a.f2 0 1000) e)<|ALn a.f3 GState.t<|ALn x0.f5 (GTask.t q0)<|AC g<|AN))
    ·refine NS (fun h => ?_);refine NR (fun y f => ?_);replace f:=Gz (q0:=q0) x0.f0 x0.f1 x0.f2 x0.f3 x0.f5 a.f0 a.f1.f0 a.f1.f1 a.f2 a.f3 a.f3 0 x0.f4 rfl h y f;cases y with
     |ret d =>have i:=f;exact NN (DP Tryz.f38 [.b false,rT,rT,N2 (a.f3.length:Int),N2 (x0.f5.length:Int),.b false,.lp .ret (aC q0 d)] (AC b<|AD (NV (lN a.f1) c)<|AD (NV (ah a.f2 0 1000) e)<|ALn a.f3 GState.t<|ALn x0.f5 (GTask.t q0)<|AC g<|AL i<|AN))
     |x0 =>have i:=f;exact NN (DP Tryz.f38 [.b false,rT,rT,N2 (a.f3.length:Int),N2 (x0.f5.length:Int),.b false,.lp (.exit 0) (mj q0)] (AC b<|AD (NV (lN a.f1) c)<|AD (NV (ah a.f2 0 1000) e)<|ALn a.f3 GState.t<|ALn x0.f5 (GTask.t q0)<|AC g<|AL i<|AN))
   ·exact NN (DP Tryz.f38 [.b false,rT,rF] (AC b<|AD (NV (lN a.f1) c)<|AD (NV (ah a.f2 0 1000) e)<|AN))
  ·exact NN (DP Tryz.f38 [.b false,rF] (AC b<|AD (NV (lN a.f1) c)<|AN))
def A6 (x:GState)(m:Int)(done a:Bool):Bool :=ag x.f0 0 4&&(ag x.f1 0 m&&(ag x.f2 0 1000000000&&((decide (x.f2>0)==(x.f0==1))&&(ag x.f3 0 68374179&&(cond (x.f0==1 ||x.f0==2) done (cond (x.f0==4) a (cond (x.f0==0) (!a) true)))))))
noncomputable def kg (d:GDag)(r:GRun)(i:Int):Bool:=match ap r.f3 i,ap d.f5 i with
 |some x,some t=>A6 x (inc t.f2) (bF d r i).1 (bq d r i).2
 |_,_=>false
theorem vY {x:Int}{a b:Int}(h:(x==a)=true)(c:a≠b):(x==b)=false:=by rw[PK]at h;rw[O3];omega
theorem Ks (d:GDag)(r:GRun)(i:Int)(h:ae.sm d)(hd:aR d=true)(a:r.f3.length=d.f5.length)(hi:0≤i∧i<(d.f5.length:Int)):ow d r i=some (kg d r i):=by
 obtain⟨t,b,_⟩:=fi hi;obtain⟨x,c,_⟩:=fi (l:=r.f3) (k:=i) (by omega);unfold ow kg A6;simp only[b,c,N4,N5 h,N5 hd,N5 a,N5 hi];cases ag x.f0 0 4<;>cases ag x.f1 0 (inc t.f2)<;>cases ag x.f2 0 1000000000<;>cases ag x.f3 0 68374179<;>cases(decide (x.f2>0)==(x.f0==1))<;>try rfl
 cases x.f0==1<;>cases x.f0==2<;>cases x.f0==4<;>cases x.f0==0<;>rfl
theorem wS {q0:Kd}(x0:GDag)(a:GRun)(x2:Int)(h:ae.sm x0)(hd:aR x0=true)(b:a.f3.length=x0.f5.length)(hi:0≤x2∧x2<(x0.f5.length:Int)):Does E 69 [.agg (GDag.t .far q0 x0),.agg (GRun.t .far a),NZ x2] [NX (kg x0 a x2)]:=by exact F1 x0 a x2 _ (Ks x0 a x2 h hd b hi)
inductive y6 where|ret (v4:Bool)|x0
def lb (q0:Kd)(v2_0 v2_1:ByteArray)(v2_2 v2_3:Int)(v2_4:Bool)(a:List GTask)(b:ByteArray)(c d e:Int)(f:List GState)(g h:Int):US:=stL 44 [(2,.box () [tS v2_0,tS v2_1,tI v2_2,tI v2_3,tB v2_4,.s .far () 5 (a.map (GTask.t q0))]),(3,.box () [tS b,tI c,tI d,tI e,.s .far () 4 (f.map GState.t)]),(34,NZ g),(35,NZ h)]
def oZ (q0:Kd)(a:Bool):US:=stL 44 [(4,N0 a)]
def qj (q0:Kd)  : US:=stL 44 []
abbrev tH:US→Exit→US→Prop:=Round E 45 (aw Tryz.f45 0)
def Ic {q0:Kd}(v2_0 v2_1:ByteArray)(v2_2 v2_3:Int)(v2_4:Bool)(a:List GTask)(b:ByteArray)(c d e:Int)(f:List GState)(g h:Int):y6→Prop| .ret i=>Loops E 45 (aw Tryz.f45 0) (lb q0 v2_0 v2_1 v2_2 v2_3 v2_4 a b c d e f g h) .ret (oZ q0 i)| .x0=>Loops E 45 (aw Tryz.f45 0) (lb q0 v2_0 v2_1 v2_2 v2_3 v2_4 a b c d e f g h) (.exit 0) (qj q0)
noncomputable def jC (v2_0 v2_1:ByteArray)(v2_2 v2_3:Int)(a:List GTask)(b:ByteArray)(c d e:Int)(f:List GState):List GState→Nat→Bool→Option y6|[],i,v2_4=>some (.x0)|hd::rest,i,v2_4=>if ae.sm (GDag.mk v2_0 v2_1 v2_2 v2_3 v2_4 a)then if aR (GDag.mk v2_0 v2_1 v2_2 v2_3 v2_4 a)=true then if(GRun.mk b (GSpan.mk c d) e f).f3.length=(GDag.mk v2_0 v2_1 v2_2 v2_3 v2_4 a).f5.length then if 0≤(i:Int)∧(i:Int)<((GDag.mk v2_0 v2_1 v2_2 v2_3 v2_4 a).f5.length:Int)then cond (kg (GDag.mk v2_0 v2_1 v2_2 v2_3 v2_4 a) (GRun.mk b (GSpan.mk c d) e f) (i:Int)) (jC v2_0 v2_1 v2_2 v2_3 a b c d e f rest (i+1) v2_4) (some (.ret false))else none else none else none else none
theorem Ib {q0:Kd}(v2_0 v2_1:ByteArray)(v2_2 v2_3:Int)(b:List GTask)(c:ByteArray)(d e f:Int)(a:List GState)(rest:List GState):∀(i:Nat)(v2_4:Bool),(a).drop i=rest→a.length≤9223372036854775807→Ans (jC v2_0 v2_1 v2_2 v2_3 b c d e f a rest i v2_4) (Ic (q0:=q0) v2_0 v2_1 v2_2 v2_3 v2_4 b c d e f a (a.length:Int) (i:Int)):=by
 induction rest with
 |nil =>intro i v2_4 g j;have hb:=bw g;unfold jC;exact NN (NP (show tH (lb q0 v2_0 v2_1 v2_2 v2_3 v2_4 b c d e f a (a.length:Int) (i:Int)) (.exit 0) (qj q0)from RP [.b false] (AC hb<|AN)) (by intro h;cases h))
 |cons hd rest s =>
  intro i v2_4 g j;have hb:=a8 g;have u:=ba g j;have l:=aG g;have w:=bc g;unfold jC;refine NS (fun m => ?_);refine NS (fun n => ?_);refine NS (fun o => ?_);refine NS (fun p => ?_);apply NQ<;>intro q
  ·exact(s (i+1) v2_4 l j).mono fun y v=>by have r:tH (lb q0 v2_0 v2_1 v2_2 v2_3 v2_4 b c d e f a (a.length:Int) (i:Int)) .normal (lb q0 v2_0 v2_1 v2_2 v2_3 v2_4 b c d e f a (a.length:Int) (inc (i:Int))):=RP [.b true,rT] (AC hb<|AV (ψ:=fun k=>E.C k 69 [.agg (GDag.t .far q0 (GDag.mk v2_0 v2_1 v2_2 v2_3 v2_4 b)),.agg (GRun.t .far (GRun.mk c (GSpan.mk d e) f a)),NZ (i:Int)]=some [NX true]) (NT (wS (GDag.mk v2_0 v2_1 v2_2 v2_3 v2_4 b) (GRun.mk c (GSpan.mk d e) f a) (i:Int) m n o p) (by rw[q]))<|AN);rw[u]at r;cases y<;>exact NO r v
  ·exact NN (NP (show tH (lb q0 v2_0 v2_1 v2_2 v2_3 v2_4 b c d e f a (a.length:Int) (i:Int)) .ret (oZ q0 false)from RP [.b true,rF] (AC hb<|AV (ψ:=fun k=>E.C k 69 [.agg (GDag.t .far q0 (GDag.mk v2_0 v2_1 v2_2 v2_3 v2_4 b)),.agg (GRun.t .far (GRun.mk c (GSpan.mk d e) f a)),NZ (i:Int)]=some [NX false]) (NT (wS (GDag.mk v2_0 v2_1 v2_2 v2_3 v2_4 b) (GRun.mk c (GSpan.mk d e) f a) (i:Int) m n o p) (by rw[q]))<|AN)) (by intro h;cases h))
noncomputable def rb (x0:GDag)(a:GRun):Option (Bool):=
  cond (!(a.f0.toList==x0.f0.toList))
   (some (false))
   (cond (oQ a.f1)
    (cond (ag a.f2 0 1000)
     (cond ((a.f3.length:Int) != (x0.f5.length:Int))
      (some (false))
      (if a.f3.length≤9223372036854775807 then(jC x0.f0 x0.f1 x0.f2 x0.f3 x0.f5 a.f0 a.f1.f0 a.f1.f1 a.f2 a.f3 a.f3 0 x0.f4).bind fun y=>match y with
       | .ret b=>(some (b))
       | .x0=>(some (true))else none))
     (some (false)))
    (some (false)))
theorem JI {q0:Kd}(x0:GDag)(a:GRun):Ans (rb x0 a) (fun r=>Does E 45 [.agg (GDag.t .far q0 x0),.agg (GRun.t .far a)] [NX r]):=by
 unfold rb;apply NQ<;>intro b
 ·exact NN (DP Tryz.f45 [.b true] (AC b<|AN))
 ·apply NQ<;>intro c
  ·apply NQ<;>intro e
   ·apply NQ<;>intro g
    ·exact NN (DP Tryz.f45 [.b false,rT,rT,N2 (a.f3.length:Int),N2 (x0.f5.length:Int),.b true] (AC b<|AD (NV (mS a.f1) c)<|AD (NV (ay a.f2 0 1000) e)<|ALn a.f3 GState.t<|ALn x0.f5 (GTask.t q0)<|AC g<|AN))
    ·refine NS (fun h => ?_);refine NR (fun y f => ?_);replace f:=Ib (q0:=q0) x0.f0 x0.f1 x0.f2 x0.f3 x0.f5 a.f0 a.f1.f0 a.f1.f1 a.f2 a.f3 a.f3 0 x0.f4 rfl h y f;cases y with
     |ret d =>have i:=f;exact NN (DP Tryz.f45 [.b false,rT,rT,N2 (a.f3.length:Int),N2 (x0.f5.length:Int),.b false,N2 (a.f3.length:Int),.lp .ret (oZ q0 d)] (AC b<|AD (NV (mS a.f1) c)<|AD (NV (ay a.f2 0 1000) e)<|ALn a.f3 GState.t<|ALn x0.f5 (GTask.t q0)<|AC g<|ALn a.f3 GState.t<|AL i<|AN))
     |x0 =>have i:=f;exact NN (DP Tryz.f45 [.b false,rT,rT,N2 (a.f3.length:Int),N2 (x0.f5.length:Int),.b false,N2 (a.f3.length:Int),.lp (.exit 0) (qj q0)] (AC b<|AD (NV (mS a.f1) c)<|AD (NV (ay a.f2 0 1000) e)<|ALn a.f3 GState.t<|ALn x0.f5 (GTask.t q0)<|AC g<|ALn a.f3 GState.t<|AL i<|AN))
   ·exact NN (DP Tryz.f45 [.b false,rT,rF] (AC b<|AD (NV (mS a.f1) c)<|AD (NV (ay a.f2 0 1000) e)<|AN))
  ·exact NN (DP Tryz.f45 [.b false,rF] (AC b<|AD (NV (mS a.f1) c)<|AN))
noncomputable def fH (d:GDag)(r:GRun):List GState→Nat→Bool|[],_=>true|_::l,i=>kg d r (i:Int)&&fH d r l (i+1)
noncomputable def eC (d:GDag)(r:GRun):Bool :=(r.f0.toList==d.f0.toList)&&(oQ r.f1&&(ag r.f2 0 1000&&(((r.f3.length:Int)==(d.f5.length:Int))&&fH d r r.f3 0)))
theorem Hb (d:GDag)(r:GRun)(h:ae.sm d)(hd:aR d=true)(b:r.f3.length=d.f5.length):∀(l:List GState)(i:Nat),r.f3.drop i=l→cu d.f0 d.f1 d.f2 d.f3 d.f5 r.f0 r.f1.f0 r.f1.f1 r.f2 r.f3 l i d.f4=some (cond (fH d r l i) .x0 (.ret false))
 |[],i,_=>rfl
 |x::l,i,a=>by
  have e:GDag.mk d.f0 d.f1 d.f2 d.f3 d.f4 d.f5=d:=rfl;have g:GRun.mk r.f0 (GSpan.mk r.f1.f0 r.f1.f1) r.f2 r.f3=r:=rfl;have j:=bc a;have k:=m5 a;have hi:0≤(i:Int)∧(i:Int)<(d.f5.length:Int):=by omega
  obtain⟨t,c,_⟩:=fi hi;have m:=Hb d r h hd b l (i+1) (aG a);have n:kg d r (i:Int)=A6 x (inc t.f2) (bF d r (i:Int)).1 (bq d r (i:Int)).2:=by unfold kg;rw[j,c]
  have o:aA d r (i:Int)=((bF d r (i:Int)).1,(bq d r (i:Int)).2):=rfl;unfold cu fH;rw[n];unfold A6;simp only[c,N4,e,g,N5 h,N5 hd,N5 b,N5 hi,m,o];cases ag x.f0 0 4<;>cases ag x.f1 0 (inc t.f2)<;>cases ag x.f2 0 1000000000<;>cases ag x.f3 0 68374179<;>cases(decide (x.f2>0)==(x.f0==1))<;>try rfl
  cases q1:x.f0==1
  ·cases f:x.f0==2
   ·cases p:x.f0==4
    ·cases x.f0==0<;>cases(bq d r (i:Int)).2<;>rfl
    ·rw[vY p (by decide:(4:Int)≠0)];cases(bq d r (i:Int)).2<;>rfl
   ·rw[vY f (by decide:(2:Int)≠4),vY f (by decide:(2:Int)≠0)];cases(bF d r (i:Int)).1<;>rfl
  ·rw[vY q1 (by decide:(1:Int)≠4),vY q1 (by decide:(1:Int)≠0)];cases(bF d r (i:Int)).1<;>rfl
theorem Ha (d:GDag)(r:GRun)(h:ae.sm d)(hd:aR d=true)(b:r.f3.length=d.f5.length):∀(l:List GState)(i:Nat),r.f3.drop i=l→jC d.f0 d.f1 d.f2 d.f3 d.f5 r.f0 r.f1.f0 r.f1.f1 r.f2 r.f3 l i d.f4=some (cond (fH d r l i) .x0 (.ret false))
 |[],i,_=>rfl
 |x::l,i,a=>by
  have e:GDag.mk d.f0 d.f1 d.f2 d.f3 d.f4 d.f5=d:=rfl;have c:GRun.mk r.f0 (GSpan.mk r.f1.f0 r.f1.f1) r.f2 r.f3=r:=rfl;have f:=m5 a;have hi:0≤(i:Int)∧(i:Int)<(d.f5.length:Int):=by omega
  unfold jC fH;simp only[e,c,N5 h,N5 hd,N5 b,N5 hi,Ha d r h hd b l (i+1) (aG a)];cases kg d r (i:Int)<;>rfl
theorem xw (d:GDag)(r:GRun)(h:ae.sm d)(hd:aR d=true):pN d r=some (eC d r)∧rb d r=some (eC d r):=by
 have b:=(nN hd).1;unfold pN rb eC;cases r.f0.toList==d.f0.toList<;>cases oQ r.f1<;>cases ag r.f2 0 1000<;>try exact⟨rfl,rfl⟩
 have e:((r.f3.length:Int) != (d.f5.length:Int))= !((r.f3.length:Int)==(d.f5.length:Int)):=rfl;rw[e];cases q:((r.f3.length:Int)==(d.f5.length:Int))with
 |false=>exact⟨rfl,rfl⟩
 |true =>
  have a:r.f3.length=d.f5.length:=by rw[PK]at q;omega
  simp only[Pq,Ou,Om,Qp,OG,N5 (show r.f3.length≤9223372036854775807 by omega),Hb d r h hd a r.f3 0 rfl,Ha d r h hd a r.f3 0 rfl];cases fH d r r.f3 0<;>exact⟨rfl,rfl⟩
theorem qx {d:GDag}{r:GRun}(h:eC d r=true):r.f3.length=d.f5.length:=by unfold eC at h;simp only[Ow,PK]at h;omega
theorem Hs {q0:Kd}(x0:GDag)(a:GRun)(h:ae.sm x0)(hd:aR x0=true):Does E 38 [.agg (GDag.t .far q0 x0),.agg (GRun.t .far a)] [NX (eC x0 a)]:=by exact II x0 a _ (xw x0 a h hd).1
theorem I4 {q0:Kd}(x0:GDag)(a:GRun)(h:ae.sm x0)(hd:aR x0=true):Does E 45 [.agg (GDag.t .far q0 x0),.agg (GRun.t .far a)] [NX (eC x0 a)]:=by exact JI x0 a _ (xw x0 a h hd).2
noncomputable def rm (x0:GDag)(a:GRun):Option (Bool):=if ae.sm x0 then cond (aR x0) (if aR x0=true then some (eC x0 a)else none) (some (false))else none
theorem Kj {q0:Kd}(x0:GDag)(a:GRun):Ans (rm x0 a) (fun r=>Does E 17 [.agg (GDag.t .far q0 x0),.agg (GRun.t .far a)] [NX r]):=by
 unfold rm;refine NS (fun b => ?_);apply NQ<;>intro c
 ·refine NS (fun d => ?_);exact NN (DP Tryz.f17 [rT,.ret [NX (eC x0 a)]] (AV (ψ:=fun k=>E.C k 37 [.agg (GDag.t .far q0 x0)]=some [NX true]) (NT (oH x0 b) (by rw[c]))<|AV (ψ:=fun k=>E.C k 38 [.agg (GDag.t .far q0 x0),.agg (GRun.t .far a)]=some [NX (eC x0 a)]) (Hs x0 a b d)<|AN))
 ·exact NN (DP Tryz.f17 [rF] (AV (ψ:=fun k=>E.C k 37 [.agg (GDag.t .far q0 x0)]=some [NX false]) (NT (oH x0 b) (by rw[c]))<|AN))
noncomputable def qY (x0:GDag)(a:GRun):Option (Bool):=if ae.sm x0 then cond (aR x0) (if aR x0=true then some (eC x0 a)else none) (some (false))else none
theorem JF {q0:Kd}(x0:GDag)(a:GRun):Ans (qY x0 a) (fun r=>Does E 27 [.agg (GDag.t .far q0 x0),.agg (GRun.t .far a)] [NX r]):=by
 unfold qY;refine NS (fun b => ?_);apply NQ<;>intro c
 ·refine NS (fun d => ?_);exact NN (DP Tryz.f27 [rT,.ret [NX (eC x0 a)]] (AV (ψ:=fun k=>E.C k 44 [.agg (GDag.t .far q0 x0)]=some [NX true]) (NT (Be x0 b) (by rw[c]))<|AV (ψ:=fun k=>E.C k 45 [.agg (GDag.t .far q0 x0),.agg (GRun.t .far a)]=some [NX (eC x0 a)]) (I4 x0 a b d)<|AN))
 ·exact NN (DP Tryz.f27 [rF] (AV (ψ:=fun k=>E.C k 44 [.agg (GDag.t .far q0 x0)]=some [NX false]) (NT (Be x0 b) (by rw[c]))<|AN))
noncomputable def ii (d:GDag)(r:GRun):Bool:=aR d&&eC d r
theorem EL (d:GDag)(r:GRun)(h:ae.sm d):rm d r=some (ii d r)∧qY d r=some (ii d r):=by
 unfold rm qY ii;cases aR d
 ·refine⟨?_,?_⟩<;>simp only[N5 h]<;>rfl
 ·refine⟨?_,?_⟩<;>simp only[N5 h,OH]<;>rfl
theorem eF {q0:Kd}(x0:GDag)(a:GRun)(h:ae.sm x0):Does E 17 [.agg (GDag.t .far q0 x0),.agg (GRun.t .far a)] [NX (ii x0 a)]:=by exact Kj x0 a _ (EL x0 a h).1
theorem uW {q0:Kd}(x0:GDag)(a:GRun)(h:ae.sm x0):Does E 27 [.agg (GDag.t .far q0 x0),.agg (GRun.t .far a)] [NX (ii x0 a)]:=by exact JF x0 a _ (EL x0 a h).2
end
end Go.Proofs.YtkgecjmfkcohkaaGreatDoor.Am
