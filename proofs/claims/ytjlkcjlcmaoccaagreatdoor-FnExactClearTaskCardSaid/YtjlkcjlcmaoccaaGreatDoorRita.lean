/- Right runs, a part. -/
import Derived.Test.YtjlkcjlcmaoccaaGreatDoorUps
namespace Go.Proofs.YtjlkcjlcmaoccaaGreatDoor.Am
open Go
set_option linter.unusedVariables false
set_option linter.unusedSimpArgs false
section
open Go.Proofs Classical
set_option maxRecDepth 100000
noncomputable def sQ (x0:GSpan):Option (Bool):=cond (decide (x0.f0≥(0:Int))) (cond (decide (x0.f0<x0.f1)) (some (decide (x0.f1≤(68374079:Int)))) (some (false))) (some (false))
theorem HD (x0:GSpan):Ans (sQ x0) (fun r=>Does E 63 [.agg (GSpan.t x0)] [OY r]):=by
 unfold sQ;apply OR<;>intro a
 ·apply OR<;>intro b
  ·exact OO (DP Tryz.f63 [.b true,.b true] (AC a<|AC b<|AN))
  ·exact OO (DP Tryz.f63 [.b true,.b false] (AC a<|AC b<|AN))
 ·exact OO (DP Tryz.f63 [.b false] (AC a<|AN))
def pz (s:GSpan):Bool:=decide (s.f0≥0)&&(decide (s.f0<s.f1)&&decide (s.f1≤68374079))
theorem mn (x0:GSpan):Does E 63 [.agg (GSpan.t x0)] [OY (pz x0)]:=by exact HD x0 _ (by unfold sQ pz;cases decide (x0.f0≥0)<;>cases decide (x0.f0<x0.f1)<;>rfl)
noncomputable def uu (x0:GSpan):Option (Bool):=cond (decide (x0.f0≥(0:Int))) (cond (decide (x0.f0<x0.f1)) (some (decide (x0.f1≤(68374079:Int)))) (some (false))) (some (false))
theorem Jl (x0:GSpan):Ans (uu x0) (fun r=>Does E 71 [.agg (GSpan.t x0)] [OY r]):=by
 unfold uu;apply OR<;>intro a
 ·apply OR<;>intro b
  ·exact OO (DP Tryz.f71 [.b true,.b true] (AC a<|AC b<|AN))
  ·exact OO (DP Tryz.f71 [.b true,.b false] (AC a<|AC b<|AN))
 ·exact OO (DP Tryz.f71 [.b false] (AC a<|AN))
theorem ny (x0:GSpan):Does E 71 [.agg (GSpan.t x0)] [OY (pz x0)]:=by exact Jl x0 _ (by unfold uu pz;cases decide (x0.f0≥0)<;>cases decide (x0.f0<x0.f1)<;>rfl)
noncomputable def wx (x0:GState):Option (Bool):=cond (x0.f0==(3:Int)) (some (true)) (some (x0.f0==(4:Int)))
theorem KI (x0:GState):Ans (wx x0) (fun r=>Does E 29 [.agg (GState.t x0)] [OY r]):=by
 unfold wx;apply OR<;>intro a
 ·exact OO (DP Tryz.f29 [.b true] (AC a<|AN))
 ·exact OO (DP Tryz.f29 [.b false] (AC a<|AN))
noncomputable def zN (x0:GState):Option (Bool):=some (x0.f0==(2:Int))
theorem Jh (x0:GState):Ans (zN x0) (fun r=>Does E 89 [.agg (GState.t x0)] [OY r]):=by unfold zN;exact OO (DP Tryz.f89 [] AN)
def fh (x:GState):Bool:=x.f0==3 ||x.f0==4
def dX (x:GState):Bool:=x.f0==2
theorem rA (x0:GState):Does E 29 [.agg (GState.t x0)] [OY (fh x0)]:=by exact KI x0 _ (by unfold wx fh;cases x0.f0==3<;>rfl)
theorem p8 (x0:GState):Does E 89 [.agg (GState.t x0)] [OY (dX x0)]:=by exact Jh x0 _ rfl
inductive yk where|x0 (v8 v9:Bool)
def ca (q0:Kd)(a:ByteArray)(b c d:Int)(e:List GState)(v8 v9:Bool)(v10:List Int)(v11:Int):US:=stL 47 [(4,.box () [tS a,tI b,tI c,tI d,.s .far () 4 (e.map GState.t)]),(8,O1 v8),(9,O1 v9),(10,.one (.s .own () 1 (v10.map etI))),(11,O0 v11)]
def iG (q0:Kd)(a b:Bool):US:=stL 47 [(8,O1 a),(9,O1 b)]
abbrev fb:US→Exit→US→Prop:=Round E 19 (av Tryz.f19 0)
def HF {q0:Kd}(a:ByteArray)(b c d:Int)(e:List GState)(v8 v9:Bool)(v10:List Int)(v11:Int):yk→Prop| .x0 f g=>Loops E 19 (av Tryz.f19 0) (ca q0 a b c d e v8 v9 v10 v11) (.exit 0) (iG q0 f g)
noncomputable def dO (a:List GState)(v10:List Int):Nat→Bool→Bool→Int→Option yk
 | 0,_,_,_=>none
 |n+1,v8,v9,v11=>match v8 with
  |true=>match v9 with
   |true=>cond (decide (v11<(v10.length:Int)))
    ((am v10 v11).bind fun b=>(am a b).bind fun g1=>dO a v10 n (g1.f0==(2:Int)) true (inc v11))
    (some (.x0 v8 v9))
   |false=>cond (decide (v11<(v10.length:Int)))
    ((am v10 v11).bind fun b=>(am a b).bind fun g1=>cond (g1.f0==(3:Int))
     (dO a v10 n (g1.f0==(2:Int)) true (inc v11))
     (dO a v10 n (g1.f0==(2:Int)) (g1.f0==(4:Int)) (inc v11)))
    (some (.x0 v8 v9))
  |false=>match v9 with
   |true=>cond (decide (v11<(v10.length:Int)))
    ((am v10 v11).bind fun b=>(am a b).bind fun g1=>dO a v10 n false true (inc v11))
    (some (.x0 v8 v9))
   |false=>cond (decide (v11<(v10.length:Int)))
    ((am v10 v11).bind fun b=>(am a b).bind fun g1=>cond (g1.f0==(3:Int))
     (dO a v10 n false true (inc v11))
     (dO a v10 n false (g1.f0==(4:Int)) (inc v11)))
    (some (.x0 v8 v9))
theorem HE {q0:Kd}(b:ByteArray)(c d e:Int)(a:List GState)(v10:List Int)(n:Nat):∀(v8 v9:Bool)(v11:Int),Ans (dO a v10 n v8 v9 v11) (HF (q0:=q0) b c d e a v8 v9 v10 v11):=by
 induction n with
 |zero=>intros;exact Ans.none
 |succ n l =>
  intro v8 v9 v11;unfold dO;cases v8 with
  |true =>
   cases v9 with
   |true =>
    apply OR<;>intro f
    ·refine OS (fun i j => ?_);refine OS (fun g1 k => ?_);have r:fb (ca q0 b c d e a true true v10 v11) .normal (ca q0 b c d e a (g1.f0==(2:Int)) true v10 (inc v11)):=RP [O3 (v10.length:Int),.b true,.row (etI i),.row (GState.t g1)] (ALn v10 etI<|AC f<|AG etI j<|AR GState.t k<|AN);exact(l (g1.f0==(2:Int)) true (inc v11)).mono fun y g=>by cases y<;>exact OP r g
    ·exact OO (OQ (show fb (ca q0 b c d e a true true v10 v11) (.exit 0) (iG q0 true true)from RP [O3 (v10.length:Int),.b false] (ALn v10 etI<|AC f<|AN)) (by intro h;cases h))
   |false =>
    apply OR<;>intro f
    ·refine OS (fun i j => ?_);refine OS (fun g1 k => ?_);apply OR<;>intro m
     ·have r:fb (ca q0 b c d e a true false v10 v11) .normal (ca q0 b c d e a (g1.f0==(2:Int)) true v10 (inc v11)):=RP [O3 (v10.length:Int),.b true,.row (etI i),.row (GState.t g1),.no,.b true] (ALn v10 etI<|AC f<|AG etI j<|AR GState.t k<|AC m<|AN);exact(l (g1.f0==(2:Int)) true (inc v11)).mono fun y g=>by cases y<;>exact OP r g
     ·have r:fb (ca q0 b c d e a true false v10 v11) .normal (ca q0 b c d e a (g1.f0==(2:Int)) (g1.f0==(4:Int)) v10 (inc v11)):=RP [O3 (v10.length:Int),.b true,.row (etI i),.row (GState.t g1),.no,.b false] (ALn v10 etI<|AC f<|AG etI j<|AR GState.t k<|AC m<|AN);exact(l (g1.f0==(2:Int)) (g1.f0==(4:Int)) (inc v11)).mono fun y g=>by cases y<;>exact OP r g
    ·exact OO (OQ (show fb (ca q0 b c d e a true false v10 v11) (.exit 0) (iG q0 true false)from RP [O3 (v10.length:Int),.b false] (ALn v10 etI<|AC f<|AN)) (by intro h;cases h))
  |false =>
   cases v9 with
   |true =>
    apply OR<;>intro f
    ·refine OS (fun i j => ?_);refine OS (fun g1 k => ?_);have r:fb (ca q0 b c d e a false true v10 v11) .normal (ca q0 b c d e a false true v10 (inc v11)):=RP [O3 (v10.length:Int),.b true,.row (etI i),.row (GState.t g1)] (ALn v10 etI<|AC f<|AG etI j<|AR GState.t k<|AN);exact(l false true (inc v11)).mono fun y g=>by cases y<;>exact OP r g
    ·exact OO (OQ (show fb (ca q0 b c d e a false true v10 v11) (.exit 0) (iG q0 false true)from RP [O3 (v10.length:Int),.b false] (ALn v10 etI<|AC f<|AN)) (by intro h;cases h))
   |false =>
    apply OR<;>intro f
    ·refine OS (fun i j => ?_);refine OS (fun g1 k => ?_);apply OR<;>intro m
     ·have r:fb (ca q0 b c d e a false false v10 v11) .normal (ca q0 b c d e a false true v10 (inc v11)):=RP [O3 (v10.length:Int),.b true,.row (etI i),.row (GState.t g1),.b true] (ALn v10 etI<|AC f<|AG etI j<|AR GState.t k<|AC m<|AN);exact(l false true (inc v11)).mono fun y g=>by cases y<;>exact OP r g
     ·have r:fb (ca q0 b c d e a false false v10 v11) .normal (ca q0 b c d e a false (g1.f0==(4:Int)) v10 (inc v11)):=RP [O3 (v10.length:Int),.b true,.row (etI i),.row (GState.t g1),.b false] (ALn v10 etI<|AC f<|AG etI j<|AR GState.t k<|AC m<|AN);exact(l false (g1.f0==(4:Int)) (inc v11)).mono fun y g=>by cases y<;>exact OP r g
    ·exact OO (OQ (show fb (ca q0 b c d e a false false v10 v11) (.exit 0) (iG q0 false false)from RP [O3 (v10.length:Int),.b false] (ALn v10 etI<|AC f<|AN)) (by intro h;cases h))
noncomputable def qu (x0:GDag)(c:GRun)(x2:Int):Option (Bool×Bool):=
  if ae.sm x0 then if aN x0=true then if 0≤x2∧x2<(x0.f5.length:Int)then(dO c.f3 (ups x0 x2) 9223372036854775808 true false 0).bind fun y=>match y with
   | .x0 a b=>(some (a,b))else none else none else none
theorem JP {q0:Kd}(x0:GDag)(a:GRun)(x2:Int):Ans (qu x0 a x2) (fun r=>Does E 19 [.agg (GDag.t .far q0 x0),.agg (GRun.t .far a),O0 x2] [OY r.1,OY r.2]):=by
 unfold qu;refine OT (fun e => ?_);refine OT (fun f => ?_);refine OT (fun g => ?_);refine OS (fun y d => ?_);replace d:=HE (q0:=q0) a.f0 a.f1.f0 a.f1.f1 a.f2 a.f3 (ups x0 x2) 9223372036854775808 true false 0 y d;cases y with
 |x0 b c =>have h:=d;exact OO (DP Tryz.f19 [.ret [(false,[.s .own () 1 ((ups x0 x2).map etI)])],.lp (.exit 0) (iG q0 b c)] (AV (ψ:=fun k=>E.C k 42 [.agg (GDag.t .far q0 x0),O0 x2]=some [(false,[.s .own () 1 ((ups x0 x2).map etI)])]) (zf x0 x2 e f g)<|AL h<|AN))
inductive nQ where|x0 (v10 v11:Bool)
def bj (q0:Kd)(a:ByteArray)(b c d:Int)(v5_4:List GState)(v10 v11:Bool)(e:List Int)(f g:Int):US:=stL 41 [(3,.fni 89 []),(5,.box () [tS a,tI b,tI c,tI d,.s .far () 4 (v5_4.map GState.t)]),(10,O1 v10),(11,O1 v11),(17,.one (.s .own () 1 (e.map etI))),(18,O0 f),(19,O0 g)]
def di (q0:Kd)(a b:Bool):US:=stL 41 [(10,O1 a),(11,O1 b)]
abbrev cr:US→Exit→US→Prop:=Round E 28 (av Tryz.f28 0)
def uw {q0:Kd}(a:ByteArray)(b c d:Int)(v5_4:List GState)(v10 v11:Bool)(g:List Int)(h i:Int):nQ→Prop| .x0 e f=>Loops E 28 (av Tryz.f28 0) (bj q0 a b c d v5_4 v10 v11 g h i) (.exit 0) (di q0 e f)
noncomputable def bP (v5_4:List GState)(b:List Int)(c:Int):Nat→Bool→Bool→Int→Option nQ
 | 0,_,_,_=>none
 |n+1,v10,v11,a=>match v10 with
  |true=>match v11 with
   |true=>cond (decide (a<c))
    ((am b a).bind fun d=>(am v5_4 d).bind fun g1=>bP v5_4 b c n (dX g1) true (inc a))
    (some (.x0 v10 v11))
   |false=>cond (decide (a<c))
    ((am b a).bind fun d=>(am v5_4 d).bind fun g1=>bP v5_4 b c n (dX g1) (dX g1) (inc a))
    (some (.x0 v10 v11))
  |false=>match v11 with
   |true=>cond (decide (a<c))
    ((am b a).bind fun d=>(am v5_4 d).bind fun g1=>bP v5_4 b c n false true (inc a))
    (some (.x0 v10 v11))
   |false=>cond (decide (a<c))
    ((am b a).bind fun d=>(am v5_4 d).bind fun g1=>bP v5_4 b c n false (dX g1) (inc a))
    (some (.x0 v10 v11))
theorem uv {q0:Kd}(a:ByteArray)(b c d:Int)(v5_4:List GState)(f:List Int)(g:Int)(n:Nat):∀(v10 v11:Bool)(e:Int),Ans (bP v5_4 f g n v10 v11 e) (uw (q0:=q0) a b c d v5_4 v10 v11 f g e):=by
 induction n with
 |zero=>intros;exact Ans.none
 |succ n o =>
  intro v10 v11 e;unfold bP;cases v10 with
  |true =>
   cases v11 with
   |true =>
    apply OR<;>intro i
    ·refine OS (fun j k => ?_);refine OS (fun g1 l => ?_);have r:cr (bj q0 a b c d v5_4 true true f g e) .normal (bj q0 a b c d v5_4 (dX g1) true f g (inc e)):=RP [.b true,.row (etI j),.row (GState.t g1),.ret [OY (dX g1)]] (AC i<|AG etI k<|AR GState.t l<|AD (p8 g1)<|AN);exact(o (dX g1) true (inc e)).mono fun y m=>by cases y<;>exact OP r m
    ·exact OO (OQ (show cr (bj q0 a b c d v5_4 true true f g e) (.exit 0) (di q0 true true)from RP [.b false] (AC i<|AN)) (by intro h;cases h))
   |false =>
    apply OR<;>intro i
    ·refine OS (fun j k => ?_);refine OS (fun g1 l => ?_);have r:cr (bj q0 a b c d v5_4 true false f g e) .normal (bj q0 a b c d v5_4 (dX g1) (dX g1) f g (inc e)):=RP [.b true,.row (etI j),.row (GState.t g1),.ret [OY (dX g1)]] (AC i<|AG etI k<|AR GState.t l<|AD (p8 g1)<|AN);exact(o (dX g1) (dX g1) (inc e)).mono fun y m=>by cases y<;>exact OP r m
    ·exact OO (OQ (show cr (bj q0 a b c d v5_4 true false f g e) (.exit 0) (di q0 true false)from RP [.b false] (AC i<|AN)) (by intro h;cases h))
  |false =>
   cases v11 with
   |true =>
    apply OR<;>intro i
    ·refine OS (fun j k => ?_);refine OS (fun g1 l => ?_);have r:cr (bj q0 a b c d v5_4 false true f g e) .normal (bj q0 a b c d v5_4 false true f g (inc e)):=RP [.b true,.row (etI j),.row (GState.t g1),.ret [OY (dX g1)]] (AC i<|AG etI k<|AR GState.t l<|AD (p8 g1)<|AN);exact(o false true (inc e)).mono fun y m=>by cases y<;>exact OP r m
    ·exact OO (OQ (show cr (bj q0 a b c d v5_4 false true f g e) (.exit 0) (di q0 false true)from RP [.b false] (AC i<|AN)) (by intro h;cases h))
   |false =>
    apply OR<;>intro i
    ·refine OS (fun j k => ?_);refine OS (fun g1 l => ?_);have r:cr (bj q0 a b c d v5_4 false false f g e) .normal (bj q0 a b c d v5_4 false (dX g1) f g (inc e)):=RP [.b true,.row (etI j),.row (GState.t g1),.ret [OY (dX g1)]] (AC i<|AG etI k<|AR GState.t l<|AD (p8 g1)<|AN);exact(o false (dX g1) (inc e)).mono fun y m=>by cases y<;>exact OP r m
    ·exact OO (OQ (show cr (bj q0 a b c d v5_4 false false f g e) (.exit 0) (di q0 false false)from RP [.b false] (AC i<|AN)) (by intro h;cases h))
noncomputable def iv (x0:GDag)(c:GRun)(x2:Int):Option (Bool×Bool):=
  if ae.sm x0 then if aN x0=true then if 0≤x2∧x2<(x0.f5.length:Int)then(bP c.f3 (ups x0 x2) ((ups x0 x2).length:Int) 9223372036854775808 true false 0).bind fun y=>match y with
   | .x0 a b=>(some (a,b))else none else none else none
theorem vy {q0:Kd}(x0:GDag)(a:GRun)(x2:Int):Ans (iv x0 a x2) (fun r=>Does E 28 [.agg (GDag.t .far q0 x0),.agg (GRun.t .far a),O0 x2,.fni 89 []] [OY r.1,OY r.2]):=by
 unfold iv;refine OT (fun e => ?_);refine OT (fun f => ?_);refine OT (fun g => ?_);refine OS (fun y d => ?_);replace d:=uv (q0:=q0) a.f0 a.f1.f0 a.f1.f1 a.f2 a.f3 (ups x0 x2) ((ups x0 x2).length:Int) 9223372036854775808 true false 0 y d;cases y with
 |x0 b c =>have h:=d;exact OO (DP Tryz.f28 [.ret [(false,[.s .own () 1 ((ups x0 x2).map etI)])],O3 ((ups x0 x2).length:Int),.lp (.exit 0) (di q0 b c)] (AV (ψ:=fun k=>E.C k 49 [.agg (GDag.t .far q0 x0),O0 x2]=some [(false,[.s .own () 1 ((ups x0 x2).map etI)])]) (AI x0 x2 e f g)<|ALn (ups x0 x2) etI<|AL h<|AN))
inductive ow where|x0 (v10 v11:Bool)
def bv (q0:Kd)(a:ByteArray)(b c d:Int)(v5_4:List GState)(v10 v11:Bool)(e:List Int)(f g:Int):US:=stL 41 [(3,.fni 29 []),(5,.box () [tS a,tI b,tI c,tI d,.s .far () 4 (v5_4.map GState.t)]),(10,O1 v10),(11,O1 v11),(17,.one (.s .own () 1 (e.map etI))),(18,O0 f),(19,O0 g)]
def dz (q0:Kd)(a b:Bool):US:=stL 41 [(10,O1 a),(11,O1 b)]
abbrev cH:US→Exit→US→Prop:=Round E 28 (av Tryz.f28 0)
def vx {q0:Kd}(a:ByteArray)(b c d:Int)(v5_4:List GState)(v10 v11:Bool)(g:List Int)(h i:Int):ow→Prop| .x0 e f=>Loops E 28 (av Tryz.f28 0) (bv q0 a b c d v5_4 v10 v11 g h i) (.exit 0) (dz q0 e f)
noncomputable def bX (v5_4:List GState)(b:List Int)(c:Int):Nat→Bool→Bool→Int→Option ow
 | 0,_,_,_=>none
 |n+1,v10,v11,a=>match v10 with
  |true=>match v11 with
   |true=>cond (decide (a<c))
    ((am b a).bind fun d=>(am v5_4 d).bind fun g1=>bX v5_4 b c n (fh g1) true (inc a))
    (some (.x0 v10 v11))
   |false=>cond (decide (a<c))
    ((am b a).bind fun d=>(am v5_4 d).bind fun g1=>bX v5_4 b c n (fh g1) (fh g1) (inc a))
    (some (.x0 v10 v11))
  |false=>match v11 with
   |true=>cond (decide (a<c))
    ((am b a).bind fun d=>(am v5_4 d).bind fun g1=>bX v5_4 b c n false true (inc a))
    (some (.x0 v10 v11))
   |false=>cond (decide (a<c))
    ((am b a).bind fun d=>(am v5_4 d).bind fun g1=>bX v5_4 b c n false (fh g1) (inc a))
    (some (.x0 v10 v11))
theorem vw {q0:Kd}(a:ByteArray)(b c d:Int)(v5_4:List GState)(f:List Int)(g:Int)(n:Nat):∀(v10 v11:Bool)(e:Int),Ans (bX v5_4 f g n v10 v11 e) (vx (q0:=q0) a b c d v5_4 v10 v11 f g e):=by
 induction n with
 |zero=>intros;exact Ans.none
 |succ n o =>
  intro v10 v11 e;unfold bX;cases v10 with
  |true =>
   cases v11 with
   |true =>
    apply OR<;>intro i
    ·refine OS (fun j k => ?_);refine OS (fun g1 l => ?_);have r:cH (bv q0 a b c d v5_4 true true f g e) .normal (bv q0 a b c d v5_4 (fh g1) true f g (inc e)):=RP [.b true,.row (etI j),.row (GState.t g1),.ret [OY (fh g1)]] (AC i<|AG etI k<|AR GState.t l<|AD (rA g1)<|AN);exact(o (fh g1) true (inc e)).mono fun y m=>by cases y<;>exact OP r m
    ·exact OO (OQ (show cH (bv q0 a b c d v5_4 true true f g e) (.exit 0) (dz q0 true true)from RP [.b false] (AC i<|AN)) (by intro h;cases h))
   |false =>
    apply OR<;>intro i
    ·refine OS (fun j k => ?_);refine OS (fun g1 l => ?_);have r:cH (bv q0 a b c d v5_4 true false f g e) .normal (bv q0 a b c d v5_4 (fh g1) (fh g1) f g (inc e)):=RP [.b true,.row (etI j),.row (GState.t g1),.ret [OY (fh g1)]] (AC i<|AG etI k<|AR GState.t l<|AD (rA g1)<|AN);exact(o (fh g1) (fh g1) (inc e)).mono fun y m=>by cases y<;>exact OP r m
    ·exact OO (OQ (show cH (bv q0 a b c d v5_4 true false f g e) (.exit 0) (dz q0 true false)from RP [.b false] (AC i<|AN)) (by intro h;cases h))
  |false =>
   cases v11 with
   |true =>
    apply OR<;>intro i
    ·refine OS (fun j k => ?_);refine OS (fun g1 l => ?_);have r:cH (bv q0 a b c d v5_4 false true f g e) .normal (bv q0 a b c d v5_4 false true f g (inc e)):=RP [.b true,.row (etI j),.row (GState.t g1),.ret [OY (fh g1)]] (AC i<|AG etI k<|AR GState.t l<|AD (rA g1)<|AN);exact(o false true (inc e)).mono fun y m=>by cases y<;>exact OP r m
    ·exact OO (OQ (show cH (bv q0 a b c d v5_4 false true f g e) (.exit 0) (dz q0 false true)from RP [.b false] (AC i<|AN)) (by intro h;cases h))
   |false =>
    apply OR<;>intro i
    ·refine OS (fun j k => ?_);refine OS (fun g1 l => ?_);have r:cH (bv q0 a b c d v5_4 false false f g e) .normal (bv q0 a b c d v5_4 false (fh g1) f g (inc e)):=RP [.b true,.row (etI j),.row (GState.t g1),.ret [OY (fh g1)]] (AC i<|AG etI k<|AR GState.t l<|AD (rA g1)<|AN);exact(o false (fh g1) (inc e)).mono fun y m=>by cases y<;>exact OP r m
    ·exact OO (OQ (show cH (bv q0 a b c d v5_4 false false f g e) (.exit 0) (dz q0 false false)from RP [.b false] (AC i<|AN)) (by intro h;cases h))
noncomputable def iS (x0:GDag)(c:GRun)(x2:Int):Option (Bool×Bool):=
  if ae.sm x0 then if aN x0=true then if 0≤x2∧x2<(x0.f5.length:Int)then(bX c.f3 (ups x0 x2) ((ups x0 x2).length:Int) 9223372036854775808 true false 0).bind fun y=>match y with
   | .x0 a b=>(some (a,b))else none else none else none
theorem wA {q0:Kd}(x0:GDag)(a:GRun)(x2:Int):Ans (iS x0 a x2) (fun r=>Does E 28 [.agg (GDag.t .far q0 x0),.agg (GRun.t .far a),O0 x2,.fni 29 []] [OY r.1,OY r.2]):=by
 unfold iS;refine OT (fun e => ?_);refine OT (fun f => ?_);refine OT (fun g => ?_);refine OS (fun y d => ?_);replace d:=vw (q0:=q0) a.f0 a.f1.f0 a.f1.f1 a.f2 a.f3 (ups x0 x2) ((ups x0 x2).length:Int) 9223372036854775808 true false 0 y d;cases y with
 |x0 b c =>have h:=d;exact OO (DP Tryz.f28 [.ret [(false,[.s .own () 1 ((ups x0 x2).map etI)])],O3 ((ups x0 x2).length:Int),.lp (.exit 0) (dz q0 b c)] (AV (ψ:=fun k=>E.C k 49 [.agg (GDag.t .far q0 x0),O0 x2]=some [(false,[.s .own () 1 ((ups x0 x2).map etI)])]) (AI x0 x2 e f g)<|ALn (ups x0 x2) etI<|AL h<|AN))
def qE (p:GState→Bool)(ts:List GState)(l:List Int):Bool:=l.all fun u=>match am ts u with|some x=>p x|none=>false
def oU (p:GState→Bool)(ts:List GState)(l:List Int):Bool:=l.any fun u=>match am ts u with|some x=>p x|none=>false
noncomputable def Lv (p:GState→Bool)(d:GDag)(r:GRun)(i:Int):Bool×Bool:=(qE p r.f3 (ups d i),oU p r.f3 (ups d i))
noncomputable def bE (d:GDag)(r:GRun)(i:Int):Bool×Bool:=Lv dX d r i
noncomputable def aR (d:GDag)(r:GRun)(i:Int):Bool×Bool:=Lv fh d r i
noncomputable def aq (d:GDag)(r:GRun)(i:Int):Bool×Bool:=((bE d r i).1,(aR d r i).2)
theorem CI (ts:List GState)(aC:List Int)(hf:∀x∈aC,0≤x∧x<(ts.length:Int))(i:aC.length≤1000):∀(m k n:Nat)(a b:Bool),k+m=aC.length→m<n →
  dO ts aC n a b (k:Int)=some (.x0 (a&&qE dX ts (aC.drop k)) (b ||oU fh ts (aC.drop k))) ∧
  bP ts aC (aC.length:Int) n a b (k:Int)=some (.x0 (a&&qE dX ts (aC.drop k)) (b ||oU dX ts (aC.drop k))) ∧
  bX ts aC (aC.length:Int) n a b (k:Int)=some (.x0 (a&&qE fh ts (aC.drop k)) (b ||oU fh ts (aC.drop k)))
 |m,k,0,a,b,_,g=>by omega
 | 0,k,n+1,a,b,j,g=>by have hd:aC.drop k=[]:=PW (by omega);have hc:decide ((k:Int)<(aC.length:Int))=false:=Pg (by omega);rw[hd];unfold dO bP bX;rw[hc];cases a<;>cases b<;>exact⟨rfl,rfl,rfl⟩
 |m+1,k,n+1,a,b,j,g=>by
  have c:k<aC.length:=by omega
  have hd:aC.drop k=aC[k]::aC.drop (k+1):=Qq c;have hc:decide ((k:Int)<(aC.length:Int))=true:=Ph (by omega);have l:am aC (k:Int)=some aC[k]:=by rw[dZ];exact Pb c
  obtain⟨x,d,_⟩:=eO (hf aC[k] (Qv _));have e:inc (k:Int)=((k+1:Nat):Int):=by rw[fH _ (by omega) (by omega)];omega
  have f:=fun a b=>CI ts aC hf i m (k+1) n a b (by omega) (by omega)
  have h:∀p,qE p ts (aC.drop k)=(p x&&qE p ts (aC.drop (k+1))):=fun p=>by rw[hd];unfold qE;rw[QJ,d]
  have hs:∀p,oU p ts (aC.drop k)=(p x ||oU p ts (aC.drop (k+1))):=fun p=>by rw[hd];unfold oU;rw[Rv,d]
  rw[h,h,hs,hs];have o:dX x=(x.f0==2):=rfl;have q:fh x=(x.f0==3 ||x.f0==4):=rfl;unfold dO bP bX;cases a<;>cases b<;>simp only[hc,l,d,e,O5,Pk,(f _ _).1,(f _ _).2.1,(f _ _).2.2,o,q]<;>cases x.f0==2<;>cases x.f0==3<;>cases x.f0==4<;>simp
theorem Gj (d:GDag)(r:GRun)(i:Int)(h:ae.sm d)(hd:aN d=true)(b:r.f3.length=d.f5.length)(hi:0≤i∧i<(d.f5.length:Int)):
  qu d r i=some (aq d r i)∧iv d r i=some (bE d r i)∧iS d r i=some (aR d r i):=by
 obtain⟨c,f⟩:=Lw hd hi;obtain⟨a,a2,a3⟩:=CI r.f3 (ups d i) (fun x e=>by rw[b];exact c x e) (by omega) (ups d i).length 0 9223372036854775808 true false (by omega) (by omega);rw[PQ,PJ,Rf]at a a2 a3;unfold qu iv iS;refine⟨?_,?_,?_⟩
 ·rw[O6 h,O6 hd,O6 hi];exact(Pw (Option.bind · _) a).trans rfl
 ·rw[O6 h,O6 hd,O6 hi];exact(Pw (Option.bind · _) a2).trans rfl
 ·rw[O6 h,O6 hd,O6 hi];exact(Pw (Option.bind · _) a3).trans rfl
theorem bh {q0:Kd}(x0:GDag)(a:GRun)(x2:Int)(h:ae.sm x0)(hd:aN x0=true)(b:a.f3.length=x0.f5.length)(hi:0≤x2∧x2<(x0.f5.length:Int)):Does E 19 [.agg (GDag.t .far q0 x0),.agg (GRun.t .far a),O0 x2] [OY ((aq x0 a x2).1),OY ((aq x0 a x2).2)]:=by exact JP x0 a x2 _ (Gj x0 a x2 h hd b hi).1
theorem fF {q0:Kd}(x0:GDag)(a:GRun)(x2:Int)(h:ae.sm x0)(hd:aN x0=true)(b:a.f3.length=x0.f5.length)(hi:0≤x2∧x2<(x0.f5.length:Int)):Does E 28 [.agg (GDag.t .far q0 x0),.agg (GRun.t .far a),O0 x2,.fni 89 []] [OY ((bE x0 a x2).1),OY ((bE x0 a x2).2)]:=by exact vy x0 a x2 _ (Gj x0 a x2 h hd b hi).2.1
theorem b9 {q0:Kd}(x0:GDag)(a:GRun)(x2:Int)(h:ae.sm x0)(hd:aN x0=true)(b:a.f3.length=x0.f5.length)(hi:0≤x2∧x2<(x0.f5.length:Int)):Does E 28 [.agg (GDag.t .far q0 x0),.agg (GRun.t .far a),O0 x2,.fni 29 []] [OY ((aR x0 a x2).1),OY ((aR x0 a x2).2)]:=by exact wA x0 a x2 _ (Gj x0 a x2 h hd b hi).2.2
noncomputable def o9 (x0:GDag)(b:GRun)(x2:Int):Option (Bool):=(am b.f3 x2).bind fun a=>cond (ah a.f0 0 4) ((am x0.f5 x2).bind fun g1=>cond (ah a.f1 0 (inc g1.f2)) (cond (ah a.f3 0 68374179) (cond (ah a.f2 0 1000000000) (cond (!((decide (a.f2>(0:Int)))==(a.f0==(1:Int)))) (some (false)) (if ae.sm x0 then if aN x0=true then if b.f3.length=x0.f5.length then if 0≤x2∧x2<(x0.f5.length:Int)then cond (a.f0==(1:Int)) (some ((bE x0 b x2).1)) (cond (a.f0==(2:Int)) (some ((bE x0 b x2).1)) (cond (a.f0==(4:Int)) (some ((aR x0 b x2).2)) (cond (a.f0==(0:Int)) (some (!((aR x0 b x2).2))) (some (true)))))else none else none else none else none)) (some (false))) (some (false))) (some (false))) (some (false))
theorem G4 {q0:Kd}(x0:GDag)(a:GRun)(x2:Int):Ans (o9 x0 a x2) (fun r=>Does E 72 [.agg (GDag.t .far q0 x0),.agg (GRun.t .far a),O0 x2] [OY r]):=by
 unfold o9;refine OS (fun b e => ?_);apply OR<;>intro f
 ·refine OS (fun g1 j => ?_);apply OR<;>intro l
  ·apply OR<;>intro n
   ·apply OR<;>intro o
    ·apply OR<;>intro q
     ·exact OO (DP Tryz.f72 [.row (GState.t b),rT,.row ((GTask.t q0) g1),rT,rT,rT,.no,.no,.b true] (AR GState.t e<|AD (OW (aA b.f0 0 4) f)<|AR (GTask.t q0) j<|AD (OW (aA b.f1 0 (inc g1.f2)) l)<|AD (OW (aA b.f3 0 68374179) n)<|AD (OW (aA b.f2 0 1000000000) o)<|AC q<|AN))
     ·refine OT (fun g => ?_);refine OT (fun h => ?_);refine OT (fun i => ?_);refine OT (fun c => ?_);apply OR<;>intro d
      ·exact OO (DP Tryz.f72 [.row (GState.t b),rT,.row ((GTask.t q0) g1),rT,rT,rT,.no,.no,.b false,.ret [OY ((bE x0 a x2).1),OY ((bE x0 a x2).2)],.ret [OY ((aR x0 a x2).1),OY ((aR x0 a x2).2)],.b true] (AR GState.t e<|AD (OW (aA b.f0 0 4) f)<|AR (GTask.t q0) j<|AD (OW (aA b.f1 0 (inc g1.f2)) l)<|AD (OW (aA b.f3 0 68374179) n)<|AD (OW (aA b.f2 0 1000000000) o)<|AC q<|AV (ψ:=fun k=>E.C k 28 [.agg (GDag.t .far q0 x0),.agg (GRun.t .far a),O0 x2,.fni 89 []]=some [OY ((bE x0 a x2).1),OY ((bE x0 a x2).2)]) (fF x0 a x2 g h i c)<|AV (ψ:=fun k=>E.C k 28 [.agg (GDag.t .far q0 x0),.agg (GRun.t .far a),O0 x2,.fni 29 []]=some [OY ((aR x0 a x2).1),OY ((aR x0 a x2).2)]) (b9 x0 a x2 g h i c)<|AC d<|AN))
      ·apply OR<;>intro m
       ·exact OO (DP Tryz.f72 [.row (GState.t b),rT,.row ((GTask.t q0) g1),rT,rT,rT,.no,.no,.b false,.ret [OY ((bE x0 a x2).1),OY ((bE x0 a x2).2)],.ret [OY ((aR x0 a x2).1),OY ((aR x0 a x2).2)],.b false,.b true] (AR GState.t e<|AD (OW (aA b.f0 0 4) f)<|AR (GTask.t q0) j<|AD (OW (aA b.f1 0 (inc g1.f2)) l)<|AD (OW (aA b.f3 0 68374179) n)<|AD (OW (aA b.f2 0 1000000000) o)<|AC q<|AV (ψ:=fun k=>E.C k 28 [.agg (GDag.t .far q0 x0),.agg (GRun.t .far a),O0 x2,.fni 89 []]=some [OY ((bE x0 a x2).1),OY ((bE x0 a x2).2)]) (fF x0 a x2 g h i c)<|AV (ψ:=fun k=>E.C k 28 [.agg (GDag.t .far q0 x0),.agg (GRun.t .far a),O0 x2,.fni 29 []]=some [OY ((aR x0 a x2).1),OY ((aR x0 a x2).2)]) (b9 x0 a x2 g h i c)<|AC d<|AC m<|AN))
       ·apply OR<;>intro p
        ·exact OO (DP Tryz.f72 [.row (GState.t b),rT,.row ((GTask.t q0) g1),rT,rT,rT,.no,.no,.b false,.ret [OY ((bE x0 a x2).1),OY ((bE x0 a x2).2)],.ret [OY ((aR x0 a x2).1),OY ((aR x0 a x2).2)],.b false,.b false,.b true] (AR GState.t e<|AD (OW (aA b.f0 0 4) f)<|AR (GTask.t q0) j<|AD (OW (aA b.f1 0 (inc g1.f2)) l)<|AD (OW (aA b.f3 0 68374179) n)<|AD (OW (aA b.f2 0 1000000000) o)<|AC q<|AV (ψ:=fun k=>E.C k 28 [.agg (GDag.t .far q0 x0),.agg (GRun.t .far a),O0 x2,.fni 89 []]=some [OY ((bE x0 a x2).1),OY ((bE x0 a x2).2)]) (fF x0 a x2 g h i c)<|AV (ψ:=fun k=>E.C k 28 [.agg (GDag.t .far q0 x0),.agg (GRun.t .far a),O0 x2,.fni 29 []]=some [OY ((aR x0 a x2).1),OY ((aR x0 a x2).2)]) (b9 x0 a x2 g h i c)<|AC d<|AC m<|AC p<|AN))
        ·apply OR<;>intro s
         ·exact OO (DP Tryz.f72 [.row (GState.t b),rT,.row ((GTask.t q0) g1),rT,rT,rT,.no,.no,.b false,.ret [OY ((bE x0 a x2).1),OY ((bE x0 a x2).2)],.ret [OY ((aR x0 a x2).1),OY ((aR x0 a x2).2)],.b false,.b false,.b false,.b true] (AR GState.t e<|AD (OW (aA b.f0 0 4) f)<|AR (GTask.t q0) j<|AD (OW (aA b.f1 0 (inc g1.f2)) l)<|AD (OW (aA b.f3 0 68374179) n)<|AD (OW (aA b.f2 0 1000000000) o)<|AC q<|AV (ψ:=fun k=>E.C k 28 [.agg (GDag.t .far q0 x0),.agg (GRun.t .far a),O0 x2,.fni 89 []]=some [OY ((bE x0 a x2).1),OY ((bE x0 a x2).2)]) (fF x0 a x2 g h i c)<|AV (ψ:=fun k=>E.C k 28 [.agg (GDag.t .far q0 x0),.agg (GRun.t .far a),O0 x2,.fni 29 []]=some [OY ((aR x0 a x2).1),OY ((aR x0 a x2).2)]) (b9 x0 a x2 g h i c)<|AC d<|AC m<|AC p<|AC s<|AN))
         ·exact OO (DP Tryz.f72 [.row (GState.t b),rT,.row ((GTask.t q0) g1),rT,rT,rT,.no,.no,.b false,.ret [OY ((bE x0 a x2).1),OY ((bE x0 a x2).2)],.ret [OY ((aR x0 a x2).1),OY ((aR x0 a x2).2)],.b false,.b false,.b false,.b false] (AR GState.t e<|AD (OW (aA b.f0 0 4) f)<|AR (GTask.t q0) j<|AD (OW (aA b.f1 0 (inc g1.f2)) l)<|AD (OW (aA b.f3 0 68374179) n)<|AD (OW (aA b.f2 0 1000000000) o)<|AC q<|AV (ψ:=fun k=>E.C k 28 [.agg (GDag.t .far q0 x0),.agg (GRun.t .far a),O0 x2,.fni 89 []]=some [OY ((bE x0 a x2).1),OY ((bE x0 a x2).2)]) (fF x0 a x2 g h i c)<|AV (ψ:=fun k=>E.C k 28 [.agg (GDag.t .far q0 x0),.agg (GRun.t .far a),O0 x2,.fni 29 []]=some [OY ((aR x0 a x2).1),OY ((aR x0 a x2).2)]) (b9 x0 a x2 g h i c)<|AC d<|AC m<|AC p<|AC s<|AN))
    ·exact OO (DP Tryz.f72 [.row (GState.t b),rT,.row ((GTask.t q0) g1),rT,rT,rF] (AR GState.t e<|AD (OW (aA b.f0 0 4) f)<|AR (GTask.t q0) j<|AD (OW (aA b.f1 0 (inc g1.f2)) l)<|AD (OW (aA b.f3 0 68374179) n)<|AD (OW (aA b.f2 0 1000000000) o)<|AN))
   ·exact OO (DP Tryz.f72 [.row (GState.t b),rT,.row ((GTask.t q0) g1),rT,rF] (AR GState.t e<|AD (OW (aA b.f0 0 4) f)<|AR (GTask.t q0) j<|AD (OW (aA b.f1 0 (inc g1.f2)) l)<|AD (OW (aA b.f3 0 68374179) n)<|AN))
  ·exact OO (DP Tryz.f72 [.row (GState.t b),rT,.row ((GTask.t q0) g1),rF] (AR GState.t e<|AD (OW (aA b.f0 0 4) f)<|AR (GTask.t q0) j<|AD (OW (aA b.f1 0 (inc g1.f2)) l)<|AN))
 ·exact OO (DP Tryz.f72 [.row (GState.t b),rF] (AR GState.t e<|AD (OW (aA b.f0 0 4) f)<|AN))
inductive yj where|ret (v4:Bool)|x0
def an (q0:Kd)(v2_0 v2_1:ByteArray)(v2_2 v2_3:Int)(v2_4:Bool)(a:List GTask)(b:ByteArray)(c d e:Int)(f:List GState)(v5:Int):US:=stL 121 [(2,.box () [tS v2_0,tS v2_1,tI v2_2,tI v2_3,tB v2_4,.s .far () 5 (a.map (GTask.t q0))]),(3,.box () [tS b,tI c,tI d,tI e,.s .far () 4 (f.map GState.t)]),(5,O0 v5)]
def aD (q0:Kd)(a:Bool):US:=stL 121 [(4,O1 a)]
def mT (q0:Kd)  : US:=stL 121 []
abbrev az:US→Exit→US→Prop:=Round E 41 (av Tryz.f41 0)
def HC {q0:Kd}(v2_0 v2_1:ByteArray)(v2_2 v2_3:Int)(v2_4:Bool)(a:List GTask)(b:ByteArray)(c d e:Int)(f:List GState)(v5:Int):yj→Prop| .ret g=>Loops E 41 (av Tryz.f41 0) (an q0 v2_0 v2_1 v2_2 v2_3 v2_4 a b c d e f v5) .ret (aD q0 g)| .x0=>Loops E 41 (av Tryz.f41 0) (an q0 v2_0 v2_1 v2_2 v2_3 v2_4 a b c d e f v5) (.exit 0) (mT q0)
end
end Go.Proofs.YtjlkcjlcmaoccaaGreatDoor.Am
