/- Right runs, a part. -/
import Derived.Test.YtoanlngmbcnglaaGreatDoorUps
namespace Go.Proofs.YtoanlngmbcnglaaGreatDoor.Am
open Go
set_option linter.unusedVariables false
set_option linter.unusedSimpArgs false
section
open Go.Proofs Classical
set_option maxRecDepth 100000
noncomputable def vE (x0:GSpan):Option (Bool):=cond (decide (x0.f0≥(0:Int))) (cond (decide (x0.f0<x0.f1)) (some (decide (x0.f1≤(68374079:Int)))) (some (false))) (some (false))
theorem L7 (x0:GSpan):Ans (vE x0) (fun r=>Does E 61 [.agg (GSpan.t x0)] [T3 r]):=by
 unfold vE;apply TW<;>intro a
 ·apply TW<;>intro b
  ·exact TT (DP Tryz.f61 [.b true,.b true] (AC a<|AC b<|AN))
  ·exact TT (DP Tryz.f61 [.b true,.b false] (AC a<|AC b<|AN))
 ·exact TT (DP Tryz.f61 [.b false] (AC a<|AN))
def rG (s:GSpan):Bool:=decide (s.f0≥0)&&(decide (s.f0<s.f1)&&decide (s.f1≤68374079))
theorem nt (x0:GSpan):Does E 61 [.agg (GSpan.t x0)] [T3 (rG x0)]:=by exact L7 x0 _ (by unfold vE rG;cases decide (x0.f0≥0)<;>cases decide (x0.f0<x0.f1)<;>rfl)
noncomputable def xa (x0:GSpan):Option (Bool):=cond (decide (x0.f0≥(0:Int))) (cond (decide (x0.f0<x0.f1)) (some (decide (x0.f1≤(68374079:Int)))) (some (false))) (some (false))
theorem NJ (x0:GSpan):Ans (xa x0) (fun r=>Does E 73 [.agg (GSpan.t x0)] [T3 r]):=by
 unfold xa;apply TW<;>intro a
 ·apply TW<;>intro b
  ·exact TT (DP Tryz.f73 [.b true,.b true] (AC a<|AC b<|AN))
  ·exact TT (DP Tryz.f73 [.b true,.b false] (AC a<|AC b<|AN))
 ·exact TT (DP Tryz.f73 [.b false] (AC a<|AN))
theorem oR (x0:GSpan):Does E 73 [.agg (GSpan.t x0)] [T3 (rG x0)]:=by exact NJ x0 _ (by unfold xa rG;cases decide (x0.f0≥0)<;>cases decide (x0.f0<x0.f1)<;>rfl)
noncomputable def zo (x0:GState):Option (Bool):=cond (x0.f0==(3:Int)) (some (true)) (some (x0.f0==(4:Int)))
theorem Pn (x0:GState):Ans (zo x0) (fun r=>Does E 100 [.agg (GState.t x0)] [T3 r]):=by
 unfold zo;apply TW<;>intro a
 ·exact TT (DP Tryz.f100 [.b true] (AC a<|AN))
 ·exact TT (DP Tryz.f100 [.b false] (AC a<|AN))
noncomputable def C3 (x0:GState):Option (Bool):=some (x0.f0==(2:Int))
theorem NF (x0:GState):Ans (C3 x0) (fun r=>Does E 99 [.agg (GState.t x0)] [T3 r]):=by unfold C3;exact TT (DP Tryz.f99 [] AN)
def fx (x:GState):Bool:=x.f0==3 ||x.f0==4
def en (x:GState):Bool:=x.f0==2
theorem ur (x0:GState):Does E 100 [.agg (GState.t x0)] [T3 (fx x0)]:=by exact Pn x0 _ (by unfold zo fx;cases x0.f0==3<;>rfl)
theorem sC (x0:GState):Does E 99 [.agg (GState.t x0)] [T3 (en x0)]:=by exact NF x0 _ rfl
inductive BF where|x0 (v8 v9:Bool)
def cj (q0:Kd)(a:ByteArray)(b c d:Int)(e:List GState)(v8 v9:Bool)(v10:List Int)(v11:Int):US:=stL 47 [(4,.box () [tS a,tI b,tI c,tI d,.s .far () 4 (e.map GState.t)]),(8,T6 v8),(9,T6 v9),(10,.one (.s .own () 1 (v10.map etI))),(11,T5 v11)]
def jy (q0:Kd)(a b:Bool):US:=stL 47 [(8,T6 a),(9,T6 b)]
abbrev fk:US→Exit→US→Prop:=Round E 62 (am Tryz.f62 0)
def L9 {q0:Kd}(a:ByteArray)(b c d:Int)(e:List GState)(v8 v9:Bool)(v10:List Int)(v11:Int):BF→Prop| .x0 f g=>Loops E 62 (am Tryz.f62 0) (cj q0 a b c d e v8 v9 v10 v11) (.exit 0) (jy q0 f g)
noncomputable def d7 (a:List GState)(v10:List Int):Nat→Bool→Bool→Int→Option BF
 | 0,_,_,_=>none
 |n+1,v8,v9,v11=>match v8 with
  |true=>match v9 with
   |true=>cond (decide (v11<(v10.length:Int)))
    ((ak v10 v11).bind fun b=>(ak a b).bind fun g1=>d7 a v10 n (g1.f0==(2:Int)) true (inc v11))
    (some (.x0 v8 v9))
   |false=>cond (decide (v11<(v10.length:Int)))
    ((ak v10 v11).bind fun b=>(ak a b).bind fun g1=>cond (g1.f0==(3:Int))
     (d7 a v10 n (g1.f0==(2:Int)) true (inc v11))
     (d7 a v10 n (g1.f0==(2:Int)) (g1.f0==(4:Int)) (inc v11)))
    (some (.x0 v8 v9))
  |false=>match v9 with
   |true=>cond (decide (v11<(v10.length:Int)))
    ((ak v10 v11).bind fun b=>(ak a b).bind fun g1=>d7 a v10 n false true (inc v11))
    (some (.x0 v8 v9))
   |false=>cond (decide (v11<(v10.length:Int)))
    ((ak v10 v11).bind fun b=>(ak a b).bind fun g1=>cond (g1.f0==(3:Int))
     (d7 a v10 n false true (inc v11))
     (d7 a v10 n false (g1.f0==(4:Int)) (inc v11)))
    (some (.x0 v8 v9))
theorem L8 {q0:Kd}(b:ByteArray)(c d e:Int)(a:List GState)(v10:List Int)(n:Nat):∀(v8 v9:Bool)(v11:Int),Ans (d7 a v10 n v8 v9 v11) (L9 (q0:=q0) b c d e a v8 v9 v10 v11):=by
 induction n with
 |zero=>intros;exact Ans.none
 |succ n l =>
  intro v8 v9 v11;unfold d7;cases v8 with
  |true =>
   cases v9 with
   |true =>
    apply TW<;>intro f
    ·refine TX (fun i j => ?_);refine TX (fun g1 k => ?_);have r:fk (cj q0 b c d e a true true v10 v11) .normal (cj q0 b c d e a (g1.f0==(2:Int)) true v10 (inc v11)):=RP [T8 (v10.length:Int),.b true,.row (etI i),.row (GState.t g1)] (ALn v10 etI<|AC f<|AG etI j<|AR GState.t k<|AN);exact(l (g1.f0==(2:Int)) true (inc v11)).mono fun y g=>by cases y<;>exact TU r g
    ·exact TT (TV (show fk (cj q0 b c d e a true true v10 v11) (.exit 0) (jy q0 true true)from RP [T8 (v10.length:Int),.b false] (ALn v10 etI<|AC f<|AN)) (by intro h;cases h))
   |false =>
    apply TW<;>intro f
    ·refine TX (fun i j => ?_);refine TX (fun g1 k => ?_);apply TW<;>intro m
     ·have r:fk (cj q0 b c d e a true false v10 v11) .normal (cj q0 b c d e a (g1.f0==(2:Int)) true v10 (inc v11)):=RP [T8 (v10.length:Int),.b true,.row (etI i),.row (GState.t g1),.no,.b true] (ALn v10 etI<|AC f<|AG etI j<|AR GState.t k<|AC m<|AN);exact(l (g1.f0==(2:Int)) true (inc v11)).mono fun y g=>by cases y<;>exact TU r g
     ·have r:fk (cj q0 b c d e a true false v10 v11) .normal (cj q0 b c d e a (g1.f0==(2:Int)) (g1.f0==(4:Int)) v10 (inc v11)):=RP [T8 (v10.length:Int),.b true,.row (etI i),.row (GState.t g1),.no,.b false] (ALn v10 etI<|AC f<|AG etI j<|AR GState.t k<|AC m<|AN);exact(l (g1.f0==(2:Int)) (g1.f0==(4:Int)) (inc v11)).mono fun y g=>by cases y<;>exact TU r g
    ·exact TT (TV (show fk (cj q0 b c d e a true false v10 v11) (.exit 0) (jy q0 true false)from RP [T8 (v10.length:Int),.b false] (ALn v10 etI<|AC f<|AN)) (by intro h;cases h))
  |false =>
   cases v9 with
   |true =>
    apply TW<;>intro f
    ·refine TX (fun i j => ?_);refine TX (fun g1 k => ?_);have r:fk (cj q0 b c d e a false true v10 v11) .normal (cj q0 b c d e a false true v10 (inc v11)):=RP [T8 (v10.length:Int),.b true,.row (etI i),.row (GState.t g1)] (ALn v10 etI<|AC f<|AG etI j<|AR GState.t k<|AN);exact(l false true (inc v11)).mono fun y g=>by cases y<;>exact TU r g
    ·exact TT (TV (show fk (cj q0 b c d e a false true v10 v11) (.exit 0) (jy q0 false true)from RP [T8 (v10.length:Int),.b false] (ALn v10 etI<|AC f<|AN)) (by intro h;cases h))
   |false =>
    apply TW<;>intro f
    ·refine TX (fun i j => ?_);refine TX (fun g1 k => ?_);apply TW<;>intro m
     ·have r:fk (cj q0 b c d e a false false v10 v11) .normal (cj q0 b c d e a false true v10 (inc v11)):=RP [T8 (v10.length:Int),.b true,.row (etI i),.row (GState.t g1),.b true] (ALn v10 etI<|AC f<|AG etI j<|AR GState.t k<|AC m<|AN);exact(l false true (inc v11)).mono fun y g=>by cases y<;>exact TU r g
     ·have r:fk (cj q0 b c d e a false false v10 v11) .normal (cj q0 b c d e a false (g1.f0==(4:Int)) v10 (inc v11)):=RP [T8 (v10.length:Int),.b true,.row (etI i),.row (GState.t g1),.b false] (ALn v10 etI<|AC f<|AG etI j<|AR GState.t k<|AC m<|AN);exact(l false (g1.f0==(4:Int)) (inc v11)).mono fun y g=>by cases y<;>exact TU r g
    ·exact TT (TV (show fk (cj q0 b c d e a false false v10 v11) (.exit 0) (jy q0 false false)from RP [T8 (v10.length:Int),.b false] (ALn v10 etI<|AC f<|AN)) (by intro h;cases h))
noncomputable def sZ (x0:GDag)(c:GRun)(x2:Int):Option (Bool×Bool):=
  if ac.sm x0 then if aO x0=true then if 0≤x2∧x2<(x0.f5.length:Int)then(d7 c.f3 (ups x0 x2) 9223372036854775808 true false 0).bind fun y=>match y with
   | .x0 a b=>(some (a,b))else none else none else none
theorem Oq {q0:Kd}(x0:GDag)(a:GRun)(x2:Int):Ans (sZ x0 a x2) (fun r=>Does E 62 [.agg (GDag.t .far q0 x0),.agg (GRun.t .far a),T5 x2] [T3 r.1,T3 r.2]):=by
 unfold sZ;refine TY (fun e => ?_);refine TY (fun f => ?_);refine TY (fun g => ?_);refine TX (fun y d => ?_);replace d:=L8 (q0:=q0) a.f0 a.f1.f0 a.f1.f1 a.f2 a.f3 (ups x0 x2) 9223372036854775808 true false 0 y d;cases y with
 |x0 b c =>have h:=d;exact TT (DP Tryz.f62 [.ret [(false,[.s .own () 1 ((ups x0 x2).map etI)])],.lp (.exit 0) (jy q0 b c)] (AV (ψ:=fun k=>E.C k 89 [.agg (GDag.t .far q0 x0),T5 x2]=some [(false,[.s .own () 1 ((ups x0 x2).map etI)])]) (MZ x0 x2 e f g)<|AL h<|AN))
inductive pA where|x0 (v10 v11:Bool)
def bj (q0:Kd)(a:ByteArray)(b c d:Int)(e:List GState)(v10 v11:Bool)(f:List Int)(g h:Int):US:=stL 41 [(3,.fni 99 []),(5,.box () [tS a,tI b,tI c,tI d,.s .far () 4 (e.map GState.t)]),(10,T6 v10),(11,T6 v11),(17,.one (.s .own () 1 (f.map etI))),(18,T5 g),(19,T5 h)]
def dv (q0:Kd)(a b:Bool):US:=stL 41 [(10,T6 a),(11,T6 b)]
abbrev cC:US→Exit→US→Prop:=Round E 98 (am Tryz.f98 0)
def xc {q0:Kd}(a:ByteArray)(b c d:Int)(e:List GState)(v10 v11:Bool)(h:List Int)(i j:Int):pA→Prop| .x0 f g=>Loops E 98 (am Tryz.f98 0) (bj q0 a b c d e v10 v11 h i j) (.exit 0) (dv q0 f g)
noncomputable def bY (a:List GState)(c:List Int)(d:Int):Nat→Bool→Bool→Int→Option pA
 | 0,_,_,_=>none
 |n+1,v10,v11,b=>match v10 with
  |true=>match v11 with
   |true=>cond (decide (b<d))
    ((ak c b).bind fun e=>(ak a e).bind fun g1=>bY a c d n (en g1) true (inc b))
    (some (.x0 v10 v11))
   |false=>cond (decide (b<d))
    ((ak c b).bind fun e=>(ak a e).bind fun g1=>bY a c d n (en g1) (en g1) (inc b))
    (some (.x0 v10 v11))
  |false=>match v11 with
   |true=>cond (decide (b<d))
    ((ak c b).bind fun e=>(ak a e).bind fun g1=>bY a c d n false true (inc b))
    (some (.x0 v10 v11))
   |false=>cond (decide (b<d))
    ((ak c b).bind fun e=>(ak a e).bind fun g1=>bY a c d n false (en g1) (inc b))
    (some (.x0 v10 v11))
theorem xb {q0:Kd}(b:ByteArray)(c d e:Int)(a:List GState)(g:List Int)(i:Int)(n:Nat):∀(v10 v11:Bool)(f:Int),Ans (bY a g i n v10 v11 f) (xc (q0:=q0) b c d e a v10 v11 g i f):=by
 induction n with
 |zero=>intros;exact Ans.none
 |succ n p =>
  intro v10 v11 f;unfold bY;cases v10 with
  |true =>
   cases v11 with
   |true =>
    apply TW<;>intro j
    ·refine TX (fun k l => ?_);refine TX (fun g1 m => ?_);have r:cC (bj q0 b c d e a true true g i f) .normal (bj q0 b c d e a (en g1) true g i (inc f)):=RP [.b true,.row (etI k),.row (GState.t g1),.ret [T3 (en g1)]] (AC j<|AG etI l<|AR GState.t m<|AD (sC g1)<|AN);exact(p (en g1) true (inc f)).mono fun y o=>by cases y<;>exact TU r o
    ·exact TT (TV (show cC (bj q0 b c d e a true true g i f) (.exit 0) (dv q0 true true)from RP [.b false] (AC j<|AN)) (by intro h;cases h))
   |false =>
    apply TW<;>intro j
    ·refine TX (fun k l => ?_);refine TX (fun g1 m => ?_);have r:cC (bj q0 b c d e a true false g i f) .normal (bj q0 b c d e a (en g1) (en g1) g i (inc f)):=RP [.b true,.row (etI k),.row (GState.t g1),.ret [T3 (en g1)]] (AC j<|AG etI l<|AR GState.t m<|AD (sC g1)<|AN);exact(p (en g1) (en g1) (inc f)).mono fun y o=>by cases y<;>exact TU r o
    ·exact TT (TV (show cC (bj q0 b c d e a true false g i f) (.exit 0) (dv q0 true false)from RP [.b false] (AC j<|AN)) (by intro h;cases h))
  |false =>
   cases v11 with
   |true =>
    apply TW<;>intro j
    ·refine TX (fun k l => ?_);refine TX (fun g1 m => ?_);have r:cC (bj q0 b c d e a false true g i f) .normal (bj q0 b c d e a false true g i (inc f)):=RP [.b true,.row (etI k),.row (GState.t g1),.ret [T3 (en g1)]] (AC j<|AG etI l<|AR GState.t m<|AD (sC g1)<|AN);exact(p false true (inc f)).mono fun y o=>by cases y<;>exact TU r o
    ·exact TT (TV (show cC (bj q0 b c d e a false true g i f) (.exit 0) (dv q0 false true)from RP [.b false] (AC j<|AN)) (by intro h;cases h))
   |false =>
    apply TW<;>intro j
    ·refine TX (fun k l => ?_);refine TX (fun g1 m => ?_);have r:cC (bj q0 b c d e a false false g i f) .normal (bj q0 b c d e a false (en g1) g i (inc f)):=RP [.b true,.row (etI k),.row (GState.t g1),.ret [T3 (en g1)]] (AC j<|AG etI l<|AR GState.t m<|AD (sC g1)<|AN);exact(p false (en g1) (inc f)).mono fun y o=>by cases y<;>exact TU r o
    ·exact TT (TV (show cC (bj q0 b c d e a false false g i f) (.exit 0) (dv q0 false false)from RP [.b false] (AC j<|AN)) (by intro h;cases h))
noncomputable def jk (x0:GDag)(c:GRun)(x2:Int):Option (Bool×Bool):=
  if ac.sm x0 then if aO x0=true then if 0≤x2∧x2<(x0.f5.length:Int)then(bY c.f3 (ups x0 x2) ((ups x0 x2).length:Int) 9223372036854775808 true false 0).bind fun y=>match y with
   | .x0 a b=>(some (a,b))else none else none else none
theorem yA {q0:Kd}(x0:GDag)(a:GRun)(x2:Int):Ans (jk x0 a x2) (fun r=>Does E 98 [.agg (GDag.t .far q0 x0),.agg (GRun.t .far a),T5 x2,.fni 99 []] [T3 r.1,T3 r.2]):=by
 unfold jk;refine TY (fun e => ?_);refine TY (fun f => ?_);refine TY (fun g => ?_);refine TX (fun y d => ?_);replace d:=xb (q0:=q0) a.f0 a.f1.f0 a.f1.f1 a.f2 a.f3 (ups x0 x2) ((ups x0 x2).length:Int) 9223372036854775808 true false 0 y d;cases y with
 |x0 b c =>have h:=d;exact TT (DP Tryz.f98 [.ret [(false,[.s .own () 1 ((ups x0 x2).map etI)])],T8 ((ups x0 x2).length:Int),.lp (.exit 0) (dv q0 b c)] (AV (ψ:=fun k=>E.C k 118 [.agg (GDag.t .far q0 x0),T5 x2]=some [(false,[.s .own () 1 ((ups x0 x2).map etI)])]) (Mi x0 x2 e f g)<|ALn (ups x0 x2) etI<|AL h<|AN))
inductive qd where|x0 (v10 v11:Bool)
def bz (q0:Kd)(a:ByteArray)(b c d:Int)(e:List GState)(v10 v11:Bool)(f:List Int)(g h:Int):US:=stL 41 [(3,.fni 100 []),(5,.box () [tS a,tI b,tI c,tI d,.s .far () 4 (e.map GState.t)]),(10,T6 v10),(11,T6 v11),(17,.one (.s .own () 1 (f.map etI))),(18,T5 g),(19,T5 h)]
def dN (q0:Kd)(a b:Bool):US:=stL 41 [(10,T6 a),(11,T6 b)]
abbrev cQ:US→Exit→US→Prop:=Round E 98 (am Tryz.f98 0)
def yz {q0:Kd}(a:ByteArray)(b c d:Int)(e:List GState)(v10 v11:Bool)(h:List Int)(i j:Int):qd→Prop| .x0 f g=>Loops E 98 (am Tryz.f98 0) (bz q0 a b c d e v10 v11 h i j) (.exit 0) (dN q0 f g)
noncomputable def cb (a:List GState)(c:List Int)(d:Int):Nat→Bool→Bool→Int→Option qd
 | 0,_,_,_=>none
 |n+1,v10,v11,b=>match v10 with
  |true=>match v11 with
   |true=>cond (decide (b<d))
    ((ak c b).bind fun e=>(ak a e).bind fun g1=>cb a c d n (fx g1) true (inc b))
    (some (.x0 v10 v11))
   |false=>cond (decide (b<d))
    ((ak c b).bind fun e=>(ak a e).bind fun g1=>cb a c d n (fx g1) (fx g1) (inc b))
    (some (.x0 v10 v11))
  |false=>match v11 with
   |true=>cond (decide (b<d))
    ((ak c b).bind fun e=>(ak a e).bind fun g1=>cb a c d n false true (inc b))
    (some (.x0 v10 v11))
   |false=>cond (decide (b<d))
    ((ak c b).bind fun e=>(ak a e).bind fun g1=>cb a c d n false (fx g1) (inc b))
    (some (.x0 v10 v11))
theorem yy {q0:Kd}(b:ByteArray)(c d e:Int)(a:List GState)(g:List Int)(i:Int)(n:Nat):∀(v10 v11:Bool)(f:Int),Ans (cb a g i n v10 v11 f) (yz (q0:=q0) b c d e a v10 v11 g i f):=by
 induction n with
 |zero=>intros;exact Ans.none
 |succ n p =>
  intro v10 v11 f;unfold cb;cases v10 with
  |true =>
   cases v11 with
   |true =>
    apply TW<;>intro j
    ·refine TX (fun k l => ?_);refine TX (fun g1 m => ?_);have r:cQ (bz q0 b c d e a true true g i f) .normal (bz q0 b c d e a (fx g1) true g i (inc f)):=RP [.b true,.row (etI k),.row (GState.t g1),.ret [T3 (fx g1)]] (AC j<|AG etI l<|AR GState.t m<|AD (ur g1)<|AN);exact(p (fx g1) true (inc f)).mono fun y o=>by cases y<;>exact TU r o
    ·exact TT (TV (show cQ (bz q0 b c d e a true true g i f) (.exit 0) (dN q0 true true)from RP [.b false] (AC j<|AN)) (by intro h;cases h))
   |false =>
    apply TW<;>intro j
    ·refine TX (fun k l => ?_);refine TX (fun g1 m => ?_);have r:cQ (bz q0 b c d e a true false g i f) .normal (bz q0 b c d e a (fx g1) (fx g1) g i (inc f)):=RP [.b true,.row (etI k),.row (GState.t g1),.ret [T3 (fx g1)]] (AC j<|AG etI l<|AR GState.t m<|AD (ur g1)<|AN);exact(p (fx g1) (fx g1) (inc f)).mono fun y o=>by cases y<;>exact TU r o
    ·exact TT (TV (show cQ (bz q0 b c d e a true false g i f) (.exit 0) (dN q0 true false)from RP [.b false] (AC j<|AN)) (by intro h;cases h))
  |false =>
   cases v11 with
   |true =>
    apply TW<;>intro j
    ·refine TX (fun k l => ?_);refine TX (fun g1 m => ?_);have r:cQ (bz q0 b c d e a false true g i f) .normal (bz q0 b c d e a false true g i (inc f)):=RP [.b true,.row (etI k),.row (GState.t g1),.ret [T3 (fx g1)]] (AC j<|AG etI l<|AR GState.t m<|AD (ur g1)<|AN);exact(p false true (inc f)).mono fun y o=>by cases y<;>exact TU r o
    ·exact TT (TV (show cQ (bz q0 b c d e a false true g i f) (.exit 0) (dN q0 false true)from RP [.b false] (AC j<|AN)) (by intro h;cases h))
   |false =>
    apply TW<;>intro j
    ·refine TX (fun k l => ?_);refine TX (fun g1 m => ?_);have r:cQ (bz q0 b c d e a false false g i f) .normal (bz q0 b c d e a false (fx g1) g i (inc f)):=RP [.b true,.row (etI k),.row (GState.t g1),.ret [T3 (fx g1)]] (AC j<|AG etI l<|AR GState.t m<|AD (ur g1)<|AN);exact(p false (fx g1) (inc f)).mono fun y o=>by cases y<;>exact TU r o
    ·exact TT (TV (show cQ (bz q0 b c d e a false false g i f) (.exit 0) (dN q0 false false)from RP [.b false] (AC j<|AN)) (by intro h;cases h))
noncomputable def jI (x0:GDag)(c:GRun)(x2:Int):Option (Bool×Bool):=
  if ac.sm x0 then if aO x0=true then if 0≤x2∧x2<(x0.f5.length:Int)then(cb c.f3 (ups x0 x2) ((ups x0 x2).length:Int) 9223372036854775808 true false 0).bind fun y=>match y with
   | .x0 a b=>(some (a,b))else none else none else none
theorem zu {q0:Kd}(x0:GDag)(a:GRun)(x2:Int):Ans (jI x0 a x2) (fun r=>Does E 98 [.agg (GDag.t .far q0 x0),.agg (GRun.t .far a),T5 x2,.fni 100 []] [T3 r.1,T3 r.2]):=by
 unfold jI;refine TY (fun e => ?_);refine TY (fun f => ?_);refine TY (fun g => ?_);refine TX (fun y d => ?_);replace d:=yy (q0:=q0) a.f0 a.f1.f0 a.f1.f1 a.f2 a.f3 (ups x0 x2) ((ups x0 x2).length:Int) 9223372036854775808 true false 0 y d;cases y with
 |x0 b c =>have h:=d;exact TT (DP Tryz.f98 [.ret [(false,[.s .own () 1 ((ups x0 x2).map etI)])],T8 ((ups x0 x2).length:Int),.lp (.exit 0) (dN q0 b c)] (AV (ψ:=fun k=>E.C k 118 [.agg (GDag.t .far q0 x0),T5 x2]=some [(false,[.s .own () 1 ((ups x0 x2).map etI)])]) (Mi x0 x2 e f g)<|ALn (ups x0 x2) etI<|AL h<|AN))
def tp (p:GState→Bool)(ts:List GState)(l:List Int):Bool:=l.all fun u=>match ak ts u with|some x=>p x|none=>false
def qP (p:GState→Bool)(ts:List GState)(l:List Int):Bool:=l.any fun u=>match ak ts u with|some x=>p x|none=>false
noncomputable def Qj (p:GState→Bool)(d:GDag)(r:GRun)(i:Int):Bool×Bool:=(tp p r.f3 (ups d i),qP p r.f3 (ups d i))
noncomputable def bO (d:GDag)(r:GRun)(i:Int):Bool×Bool:=Qj en d r i
noncomputable def ck (d:GDag)(r:GRun)(i:Int):Bool×Bool:=Qj fx d r i
noncomputable def aE (d:GDag)(r:GRun)(i:Int):Bool×Bool:=((bO d r i).1,(ck d r i).2)
theorem Gd (ts:List GState)(ay:List Int)(hf:∀x∈ay,0≤x∧x<(ts.length:Int))(i:ay.length≤1000):∀(m k n:Nat)(a b:Bool),k+m=ay.length→m<n →
  d7 ts ay n a b (k:Int)=some (.x0 (a&&tp en ts (ay.drop k)) (b ||qP fx ts (ay.drop k))) ∧
  bY ts ay (ay.length:Int) n a b (k:Int)=some (.x0 (a&&tp en ts (ay.drop k)) (b ||qP en ts (ay.drop k))) ∧
  cb ts ay (ay.length:Int) n a b (k:Int)=some (.x0 (a&&tp fx ts (ay.drop k)) (b ||qP fx ts (ay.drop k)))
 |m,k,0,a,b,_,g=>by omega
 | 0,k,n+1,a,b,j,g=>by have hd:ay.drop k=[]:=U0 (by omega);have hc:decide ((k:Int)<(ay.length:Int))=false:=Uk (by omega);rw[hd];unfold d7 bY cb;rw[hc];cases a<;>cases b<;>exact⟨rfl,rfl,rfl⟩
 |m+1,k,n+1,a,b,j,g=>by
  have c:k<ay.length:=by omega
  have hd:ay.drop k=ay[k]::ay.drop (k+1):=VK c;have hc:decide ((k:Int)<(ay.length:Int))=true:=Uj (by omega);have l:ak ay (k:Int)=some ay[k]:=by rw[ct];exact Ug c
  obtain⟨x,d,_⟩:=gU (hf ay[k] (VA _));have e:inc (k:Int)=((k+1:Nat):Int):=by rw[rD _ (by omega) (by omega)];omega
  have f:=fun a b=>Gd ts ay hf i m (k+1) n a b (by omega) (by omega)
  have h:∀p,tp p ts (ay.drop k)=(p x&&tp p ts (ay.drop (k+1))):=fun p=>by rw[hd];unfold tp;rw[Vl,d]
  have hs:∀p,qP p ts (ay.drop k)=(p x ||qP p ts (ay.drop (k+1))):=fun p=>by rw[hd];unfold qP;rw[Xj,d]
  rw[h,h,hs,hs];have o:en x=(x.f0==2):=rfl;have q:fx x=(x.f0==3 ||x.f0==4):=rfl;unfold d7 bY cb;cases a<;>cases b<;>simp only[hc,l,d,e,Ua,Uo,(f _ _).1,(f _ _).2.1,(f _ _).2.2,o,q]<;>cases x.f0==2<;>cases x.f0==3<;>cases x.f0==4<;>simp
theorem Kq (d:GDag)(r:GRun)(i:Int)(h:ac.sm d)(hd:aO d=true)(b:r.f3.length=d.f5.length)(hi:0≤i∧i<(d.f5.length:Int)):
  sZ d r i=some (aE d r i)∧jk d r i=some (bO d r i)∧jI d r i=some (ck d r i):=by
 obtain⟨c,f⟩:=SB hd hi;obtain⟨a,a2,a3⟩:=Gd r.f3 (ups d i) (fun x e=>by rw[b];exact c x e) (by omega) (ups d i).length 0 9223372036854775808 true false (by omega) (by omega);rw[UM,UJ,W2]at a a2 a3;unfold sZ jk jI;refine⟨?_,?_,?_⟩
 ·rw[Ub h,Ub hd,Ub hi];exact(Uz (Option.bind · _) a).trans rfl
 ·rw[Ub h,Ub hd,Ub hi];exact(Uz (Option.bind · _) a2).trans rfl
 ·rw[Ub h,Ub hd,Ub hi];exact(Uz (Option.bind · _) a3).trans rfl
theorem b7 {q0:Kd}(x0:GDag)(a:GRun)(x2:Int)(h:ac.sm x0)(hd:aO x0=true)(b:a.f3.length=x0.f5.length)(hi:0≤x2∧x2<(x0.f5.length:Int)):Does E 62 [.agg (GDag.t .far q0 x0),.agg (GRun.t .far a),T5 x2] [T3 ((aE x0 a x2).1),T3 ((aE x0 a x2).2)]:=by exact Oq x0 a x2 _ (Kq x0 a x2 h hd b hi).1
theorem fY {q0:Kd}(x0:GDag)(a:GRun)(x2:Int)(h:ac.sm x0)(hd:aO x0=true)(b:a.f3.length=x0.f5.length)(hi:0≤x2∧x2<(x0.f5.length:Int)):Does E 98 [.agg (GDag.t .far q0 x0),.agg (GRun.t .far a),T5 x2,.fni 99 []] [T3 ((bO x0 a x2).1),T3 ((bO x0 a x2).2)]:=by exact yA x0 a x2 _ (Kq x0 a x2 h hd b hi).2.1
theorem gB {q0:Kd}(x0:GDag)(a:GRun)(x2:Int)(h:ac.sm x0)(hd:aO x0=true)(b:a.f3.length=x0.f5.length)(hi:0≤x2∧x2<(x0.f5.length:Int)):Does E 98 [.agg (GDag.t .far q0 x0),.agg (GRun.t .far a),T5 x2,.fni 100 []] [T3 ((ck x0 a x2).1),T3 ((ck x0 a x2).2)]:=by exact zu x0 a x2 _ (Kq x0 a x2 h hd b hi).2.2
noncomputable def rb (x0:GDag)(b:GRun)(x2:Int):Option (Bool):=(ak b.f3 x2).bind fun a=>cond (ae a.f0 0 4) ((ak x0.f5 x2).bind fun g1=>cond (ae a.f1 0 (inc g1.f2)) (cond (ae a.f3 0 68374179) (cond (ae a.f2 0 1000000000) (cond (!((decide (a.f2>(0:Int)))==(a.f0==(1:Int)))) (some (false)) (if ac.sm x0 then if aO x0=true then if b.f3.length=x0.f5.length then if 0≤x2∧x2<(x0.f5.length:Int)then cond (a.f0==(1:Int)) (some ((bO x0 b x2).1)) (cond (a.f0==(2:Int)) (some ((bO x0 b x2).1)) (cond (a.f0==(4:Int)) (some ((ck x0 b x2).2)) (cond (a.f0==(0:Int)) (some (!((ck x0 b x2).2))) (some (true)))))else none else none else none else none)) (some (false))) (some (false))) (some (false))) (some (false))
theorem Lg {q0:Kd}(x0:GDag)(a:GRun)(x2:Int):Ans (rb x0 a x2) (fun r=>Does E 74 [.agg (GDag.t .far q0 x0),.agg (GRun.t .far a),T5 x2] [T3 r]):=by
 unfold rb;refine TX (fun b e => ?_);apply TW<;>intro f
 ·refine TX (fun g1 j => ?_);apply TW<;>intro l
  ·apply TW<;>intro n
   ·apply TW<;>intro o
    ·apply TW<;>intro q
     ·exact TT (DP Tryz.f74 [.row (GState.t b),rT,.row ((GTask.t q0) g1),rT,rT,rT,.no,.no,.b true] (AR GState.t e<|AD (T1 (an b.f0 0 4) f)<|AR (GTask.t q0) j<|AD (T1 (an b.f1 0 (inc g1.f2)) l)<|AD (T1 (an b.f3 0 68374179) n)<|AD (T1 (an b.f2 0 1000000000) o)<|AC q<|AN))
     ·refine TY (fun g => ?_);refine TY (fun h => ?_);refine TY (fun i => ?_);refine TY (fun c => ?_);apply TW<;>intro d
      ·exact TT (DP Tryz.f74 [.row (GState.t b),rT,.row ((GTask.t q0) g1),rT,rT,rT,.no,.no,.b false,.ret [T3 ((bO x0 a x2).1),T3 ((bO x0 a x2).2)],.ret [T3 ((ck x0 a x2).1),T3 ((ck x0 a x2).2)],.b true] (AR GState.t e<|AD (T1 (an b.f0 0 4) f)<|AR (GTask.t q0) j<|AD (T1 (an b.f1 0 (inc g1.f2)) l)<|AD (T1 (an b.f3 0 68374179) n)<|AD (T1 (an b.f2 0 1000000000) o)<|AC q<|AV (ψ:=fun k=>E.C k 98 [.agg (GDag.t .far q0 x0),.agg (GRun.t .far a),T5 x2,.fni 99 []]=some [T3 ((bO x0 a x2).1),T3 ((bO x0 a x2).2)]) (fY x0 a x2 g h i c)<|AV (ψ:=fun k=>E.C k 98 [.agg (GDag.t .far q0 x0),.agg (GRun.t .far a),T5 x2,.fni 100 []]=some [T3 ((ck x0 a x2).1),T3 ((ck x0 a x2).2)]) (gB x0 a x2 g h i c)<|AC d<|AN))
      ·apply TW<;>intro m
       ·exact TT (DP Tryz.f74 [.row (GState.t b),rT,.row ((GTask.t q0) g1),rT,rT,rT,.no,.no,.b false,.ret [T3 ((bO x0 a x2).1),T3 ((bO x0 a x2).2)],.ret [T3 ((ck x0 a x2).1),T3 ((ck x0 a x2).2)],.b false,.b true] (AR GState.t e<|AD (T1 (an b.f0 0 4) f)<|AR (GTask.t q0) j<|AD (T1 (an b.f1 0 (inc g1.f2)) l)<|AD (T1 (an b.f3 0 68374179) n)<|AD (T1 (an b.f2 0 1000000000) o)<|AC q<|AV (ψ:=fun k=>E.C k 98 [.agg (GDag.t .far q0 x0),.agg (GRun.t .far a),T5 x2,.fni 99 []]=some [T3 ((bO x0 a x2).1),T3 ((bO x0 a x2).2)]) (fY x0 a x2 g h i c)<|AV (ψ:=fun k=>E.C k 98 [.agg (GDag.t .far q0 x0),.agg (GRun.t .far a),T5 x2,.fni 100 []]=some [T3 ((ck x0 a x2).1),T3 ((ck x0 a x2).2)]) (gB x0 a x2 g h i c)<|AC d<|AC m<|AN))
       ·apply TW<;>intro p
        ·exact TT (DP Tryz.f74 [.row (GState.t b),rT,.row ((GTask.t q0) g1),rT,rT,rT,.no,.no,.b false,.ret [T3 ((bO x0 a x2).1),T3 ((bO x0 a x2).2)],.ret [T3 ((ck x0 a x2).1),T3 ((ck x0 a x2).2)],.b false,.b false,.b true] (AR GState.t e<|AD (T1 (an b.f0 0 4) f)<|AR (GTask.t q0) j<|AD (T1 (an b.f1 0 (inc g1.f2)) l)<|AD (T1 (an b.f3 0 68374179) n)<|AD (T1 (an b.f2 0 1000000000) o)<|AC q<|AV (ψ:=fun k=>E.C k 98 [.agg (GDag.t .far q0 x0),.agg (GRun.t .far a),T5 x2,.fni 99 []]=some [T3 ((bO x0 a x2).1),T3 ((bO x0 a x2).2)]) (fY x0 a x2 g h i c)<|AV (ψ:=fun k=>E.C k 98 [.agg (GDag.t .far q0 x0),.agg (GRun.t .far a),T5 x2,.fni 100 []]=some [T3 ((ck x0 a x2).1),T3 ((ck x0 a x2).2)]) (gB x0 a x2 g h i c)<|AC d<|AC m<|AC p<|AN))
        ·apply TW<;>intro s
         ·exact TT (DP Tryz.f74 [.row (GState.t b),rT,.row ((GTask.t q0) g1),rT,rT,rT,.no,.no,.b false,.ret [T3 ((bO x0 a x2).1),T3 ((bO x0 a x2).2)],.ret [T3 ((ck x0 a x2).1),T3 ((ck x0 a x2).2)],.b false,.b false,.b false,.b true] (AR GState.t e<|AD (T1 (an b.f0 0 4) f)<|AR (GTask.t q0) j<|AD (T1 (an b.f1 0 (inc g1.f2)) l)<|AD (T1 (an b.f3 0 68374179) n)<|AD (T1 (an b.f2 0 1000000000) o)<|AC q<|AV (ψ:=fun k=>E.C k 98 [.agg (GDag.t .far q0 x0),.agg (GRun.t .far a),T5 x2,.fni 99 []]=some [T3 ((bO x0 a x2).1),T3 ((bO x0 a x2).2)]) (fY x0 a x2 g h i c)<|AV (ψ:=fun k=>E.C k 98 [.agg (GDag.t .far q0 x0),.agg (GRun.t .far a),T5 x2,.fni 100 []]=some [T3 ((ck x0 a x2).1),T3 ((ck x0 a x2).2)]) (gB x0 a x2 g h i c)<|AC d<|AC m<|AC p<|AC s<|AN))
         ·exact TT (DP Tryz.f74 [.row (GState.t b),rT,.row ((GTask.t q0) g1),rT,rT,rT,.no,.no,.b false,.ret [T3 ((bO x0 a x2).1),T3 ((bO x0 a x2).2)],.ret [T3 ((ck x0 a x2).1),T3 ((ck x0 a x2).2)],.b false,.b false,.b false,.b false] (AR GState.t e<|AD (T1 (an b.f0 0 4) f)<|AR (GTask.t q0) j<|AD (T1 (an b.f1 0 (inc g1.f2)) l)<|AD (T1 (an b.f3 0 68374179) n)<|AD (T1 (an b.f2 0 1000000000) o)<|AC q<|AV (ψ:=fun k=>E.C k 98 [.agg (GDag.t .far q0 x0),.agg (GRun.t .far a),T5 x2,.fni 99 []]=some [T3 ((bO x0 a x2).1),T3 ((bO x0 a x2).2)]) (fY x0 a x2 g h i c)<|AV (ψ:=fun k=>E.C k 98 [.agg (GDag.t .far q0 x0),.agg (GRun.t .far a),T5 x2,.fni 100 []]=some [T3 ((ck x0 a x2).1),T3 ((ck x0 a x2).2)]) (gB x0 a x2 g h i c)<|AC d<|AC m<|AC p<|AC s<|AN))
    ·exact TT (DP Tryz.f74 [.row (GState.t b),rT,.row ((GTask.t q0) g1),rT,rT,rF] (AR GState.t e<|AD (T1 (an b.f0 0 4) f)<|AR (GTask.t q0) j<|AD (T1 (an b.f1 0 (inc g1.f2)) l)<|AD (T1 (an b.f3 0 68374179) n)<|AD (T1 (an b.f2 0 1000000000) o)<|AN))
   ·exact TT (DP Tryz.f74 [.row (GState.t b),rT,.row ((GTask.t q0) g1),rT,rF] (AR GState.t e<|AD (T1 (an b.f0 0 4) f)<|AR (GTask.t q0) j<|AD (T1 (an b.f1 0 (inc g1.f2)) l)<|AD (T1 (an b.f3 0 68374179) n)<|AN))
  ·exact TT (DP Tryz.f74 [.row (GState.t b),rT,.row ((GTask.t q0) g1),rF] (AR GState.t e<|AD (T1 (an b.f0 0 4) f)<|AR (GTask.t q0) j<|AD (T1 (an b.f1 0 (inc g1.f2)) l)<|AN))
 ·exact TT (DP Tryz.f74 [.row (GState.t b),rF] (AR GState.t e<|AD (T1 (an b.f0 0 4) f)<|AN))
inductive BE where|ret (v4:Bool)|x0
def ao (q0:Kd)(v2_0 v2_1:ByteArray)(v2_2 v2_3:Int)(v2_4:Bool)(a:List GTask)(b:ByteArray)(c d e:Int)(f:List GState)(v5:Int):US:=stL 121 [(2,.box () [tS v2_0,tS v2_1,tI v2_2,tI v2_3,tB v2_4,.s .far () 5 (a.map (GTask.t q0))]),(3,.box () [tS b,tI c,tI d,tI e,.s .far () 4 (f.map GState.t)]),(5,T5 v5)]
def aH (q0:Kd)(a:Bool):US:=stL 121 [(4,T6 a)]
def of (q0:Kd)  : US:=stL 121 []
abbrev ax:US→Exit→US→Prop:=Round E 38 (am Tryz.f38 0)
def L6 {q0:Kd}(v2_0 v2_1:ByteArray)(v2_2 v2_3:Int)(v2_4:Bool)(a:List GTask)(b:ByteArray)(c d e:Int)(f:List GState)(v5:Int):BE→Prop| .ret g=>Loops E 38 (am Tryz.f38 0) (ao q0 v2_0 v2_1 v2_2 v2_3 v2_4 a b c d e f v5) .ret (aH q0 g)| .x0=>Loops E 38 (am Tryz.f38 0) (ao q0 v2_0 v2_1 v2_2 v2_3 v2_4 a b c d e f v5) (.exit 0) (of q0)
end
end Go.Proofs.YtoanlngmbcnglaaGreatDoor.Am
