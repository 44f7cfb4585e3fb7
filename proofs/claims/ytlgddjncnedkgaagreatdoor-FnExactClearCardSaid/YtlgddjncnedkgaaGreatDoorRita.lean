/- Right runs, a part. -/
import Derived.Test.YtlgddjncnedkgaaGreatDoorUps
namespace Go.Proofs.YtlgddjncnedkgaaGreatDoor.Am
open Go
set_option linter.unusedVariables false
set_option linter.unusedSimpArgs false
section
open Go.Proofs Classical
set_option maxRecDepth 100000
noncomputable def xr (a:GSpan):Option (Bool):=cond (decide (a.f0≥(0:Int))) (cond (decide (a.f0<a.f1)) (some (decide (a.f1≤(68374079:Int)))) (some (false))) (some (false))
theorem Oc (b:GSpan):Ans (xr b) (fun r=>Does E 95 [.agg (Wh b)] [Wp r]):=by
 unfold xr;apply V4<;>intro a
 ·apply V4<;>intro c
  ·exact VZ (DP Tryz.f95 [.b true,.b true] (AC a<|AC c<|AN))
  ·exact VZ (DP Tryz.f95 [.b true,.b false] (AC a<|AC c<|AN))
 ·exact VZ (DP Tryz.f95 [.b false] (AC a<|AN))
def sW (s:GSpan):Bool:=decide (s.f0≥0)&&(decide (s.f0<s.f1)&&decide (s.f1≤68374079))
theorem oM (a:GSpan):Does E 95 [.agg (Wh a)] [Wp (sW a)]:=by exact Oc a _ (by unfold xr sW;cases decide (a.f0≥0)<;>cases decide (a.f0<a.f1)<;>rfl)
noncomputable def zc (a:GSpan):Option (Bool):=cond (decide (a.f0≥(0:Int))) (cond (decide (a.f0<a.f1)) (some (decide (a.f1≤(68374079:Int)))) (some (false))) (some (false))
theorem PZ (b:GSpan):Ans (zc b) (fun r=>Does E 118 [.agg (Wh b)] [Wp r]):=by
 unfold zc;apply V4<;>intro a
 ·apply V4<;>intro c
  ·exact VZ (DP Tryz.f118 [.b true,.b true] (AC a<|AC c<|AN))
  ·exact VZ (DP Tryz.f118 [.b true,.b false] (AC a<|AC c<|AN))
 ·exact VZ (DP Tryz.f118 [.b false] (AC a<|AN))
theorem qm (a:GSpan):Does E 118 [.agg (Wh a)] [Wp (sW a)]:=by exact PZ a _ (by unfold zc sW;cases decide (a.f0≥0)<;>cases decide (a.f0<a.f1)<;>rfl)
noncomputable def Bw (a:GState):Option (Bool):=cond (a.f0==(3:Int)) (some (true)) (some (a.f0==(4:Int)))
theorem RD (a:GState):Ans (Bw a) (fun r=>Does E 80 [.agg (Wi a)] [Wp r]):=by
 unfold Bw;apply V4<;>intro b
 ·exact VZ (DP Tryz.f80 [.b true] (AC b<|AN))
 ·exact VZ (DP Tryz.f80 [.b false] (AC b<|AN))
noncomputable def Fa (a:GState):Option (Bool):=some (a.f0==(2:Int))
theorem PV (a:GState):Ans (Fa a) (fun r=>Does E 135 [.agg (Wi a)] [Wp r]):=by unfold Fa;exact VZ (DP Tryz.f135 [] AN)
def gw (x:GState):Bool:=x.f0==3 ||x.f0==4
def eW (x:GState):Bool:=x.f0==2
theorem vC (a:GState):Does E 80 [.agg (Wi a)] [Wp (gw a)]:=by exact RD a _ (by unfold Bw gw;cases a.f0==3<;>rfl)
theorem tV (a:GState):Does E 135 [.agg (Wi a)] [Wp (eW a)]:=by exact PV a _ rfl
inductive Dx where|x0 (v8 v9:Bool)
def cB (q0:Kd)(a:Zz)(b c d:Int)(e:List GState)(v8 v9:Bool)(v10:List Int)(v11:Int):US:=stL 47 [(4,.box () [tS a,tI b,tI c,tI d,Wx 4 (e.map Wi)]),(8,Ws v8),(9,Ws v9),(10,.one (Ww 1 (v10.map etI))),(11,Wr v11)]
def kk (q0:Kd)(a b:Bool):US:=stL 47 [(8,Ws a),(9,Ws b)]
abbrev gl:US→Exit→US→Prop:=Round E 40 (aq Tryz.f40 0)
def Oe {q0:Kd}(a:Zz)(b c d:Int)(e:List GState)(v8 v9:Bool)(v10:List Int)(v11:Int):Dx→Prop| .x0 f g=>Loops E 40 (aq Tryz.f40 0) (cB q0 a b c d e v8 v9 v10 v11) (.exit 0) (kk q0 f g)
noncomputable def eJ (a:List GState)(v10:List Int):Nat→Bool→Bool→Int→Option Dx
 | 0,_,_,_=>none
 |n+1,v8,v9,v11=>match v8 with
  |true=>match v9 with
   |true=>cond (decide (v11<(v10.length:Int)))
    ((ar v10 v11).bind fun b=>(ar a b).bind fun g1=>eJ a v10 n (g1.f0==(2:Int)) true (inc v11))
    (some (.x0 v8 v9))
   |false=>cond (decide (v11<(v10.length:Int)))
    ((ar v10 v11).bind fun b=>(ar a b).bind fun g1=>cond (g1.f0==(3:Int))
     (eJ a v10 n (g1.f0==(2:Int)) true (inc v11))
     (eJ a v10 n (g1.f0==(2:Int)) (g1.f0==(4:Int)) (inc v11)))
    (some (.x0 v8 v9))
  |false=>match v9 with
   |true=>cond (decide (v11<(v10.length:Int)))
    ((ar v10 v11).bind fun b=>(ar a b).bind fun g1=>eJ a v10 n false true (inc v11))
    (some (.x0 v8 v9))
   |false=>cond (decide (v11<(v10.length:Int)))
    ((ar v10 v11).bind fun b=>(ar a b).bind fun g1=>cond (g1.f0==(3:Int))
     (eJ a v10 n false true (inc v11))
     (eJ a v10 n false (g1.f0==(4:Int)) (inc v11)))
    (some (.x0 v8 v9))
theorem Od {q0:Kd}(b:Zz)(c d e:Int)(a:List GState)(v10:List Int)(n:Nat):∀(v8 v9:Bool)(v11:Int),Ans (eJ a v10 n v8 v9 v11) (Oe (q0:=q0) b c d e a v8 v9 v10 v11):=by
 induction n with
 |zero=>intros;exact Ans.none
 |succ n k =>
  intro v8 v9 v11;unfold eJ;cases v8 with
  |true =>
   cases v9 with
   |true =>
    apply V4<;>intro f
    ·apply V5;intro h i;apply V5;intro g1 j;have r:gl (cB q0 b c d e a true true v10 v11) .normal (cB q0 b c d e a (g1.f0==(2:Int)) true v10 (inc v11)):=RP [Wu (v10.length:Int),.b true,.row (etI h),.row (Wi g1)] (ALn v10 etI<|AC f<|AG etI i<|AR Wi j<|AN);exact(k (g1.f0==(2:Int)) true (inc v11)).mono fun y g=>by cases y<;>exact V2 r g
    ·exact VZ (V3 (show gl (cB q0 b c d e a true true v10 v11) (.exit 0) (kk q0 true true)from RP [Wu (v10.length:Int),.b false] (ALn v10 etI<|AC f<|AN)))
   |false =>
    apply V4<;>intro f
    ·apply V5;intro h i;apply V5;intro g1 j;apply V4<;>intro l
     ·have r:gl (cB q0 b c d e a true false v10 v11) .normal (cB q0 b c d e a (g1.f0==(2:Int)) true v10 (inc v11)):=RP [Wu (v10.length:Int),.b true,.row (etI h),.row (Wi g1),.no,.b true] (ALn v10 etI<|AC f<|AG etI i<|AR Wi j<|AC l<|AN);exact(k (g1.f0==(2:Int)) true (inc v11)).mono fun y g=>by cases y<;>exact V2 r g
     ·have r:gl (cB q0 b c d e a true false v10 v11) .normal (cB q0 b c d e a (g1.f0==(2:Int)) (g1.f0==(4:Int)) v10 (inc v11)):=RP [Wu (v10.length:Int),.b true,.row (etI h),.row (Wi g1),.no,.b false] (ALn v10 etI<|AC f<|AG etI i<|AR Wi j<|AC l<|AN);exact(k (g1.f0==(2:Int)) (g1.f0==(4:Int)) (inc v11)).mono fun y g=>by cases y<;>exact V2 r g
    ·exact VZ (V3 (show gl (cB q0 b c d e a true false v10 v11) (.exit 0) (kk q0 true false)from RP [Wu (v10.length:Int),.b false] (ALn v10 etI<|AC f<|AN)))
  |false =>
   cases v9 with
   |true =>
    apply V4<;>intro f
    ·apply V5;intro h i;apply V5;intro g1 j;have r:gl (cB q0 b c d e a false true v10 v11) .normal (cB q0 b c d e a false true v10 (inc v11)):=RP [Wu (v10.length:Int),.b true,.row (etI h),.row (Wi g1)] (ALn v10 etI<|AC f<|AG etI i<|AR Wi j<|AN);exact(k false true (inc v11)).mono fun y g=>by cases y<;>exact V2 r g
    ·exact VZ (V3 (show gl (cB q0 b c d e a false true v10 v11) (.exit 0) (kk q0 false true)from RP [Wu (v10.length:Int),.b false] (ALn v10 etI<|AC f<|AN)))
   |false =>
    apply V4<;>intro f
    ·apply V5;intro h i;apply V5;intro g1 j;apply V4<;>intro l
     ·have r:gl (cB q0 b c d e a false false v10 v11) .normal (cB q0 b c d e a false true v10 (inc v11)):=RP [Wu (v10.length:Int),.b true,.row (etI h),.row (Wi g1),.b true] (ALn v10 etI<|AC f<|AG etI i<|AR Wi j<|AC l<|AN);exact(k false true (inc v11)).mono fun y g=>by cases y<;>exact V2 r g
     ·have r:gl (cB q0 b c d e a false false v10 v11) .normal (cB q0 b c d e a false (g1.f0==(4:Int)) v10 (inc v11)):=RP [Wu (v10.length:Int),.b true,.row (etI h),.row (Wi g1),.b false] (ALn v10 etI<|AC f<|AG etI i<|AR Wi j<|AC l<|AN);exact(k false (g1.f0==(4:Int)) (inc v11)).mono fun y g=>by cases y<;>exact V2 r g
    ·exact VZ (V3 (show gl (cB q0 b c d e a false false v10 v11) (.exit 0) (kk q0 false false)from RP [Wu (v10.length:Int),.b false] (ALn v10 etI<|AC f<|AN)))
noncomputable def ut (c:GDag)(e:GRun)(d:Int):Option (Bool×Bool):=
  if ab.sm c then if aY c=true then if 0≤d∧d<(c.f5.length:Int)then(eJ e.f3 (ups c d) 9223372036854775808 true false 0).bind fun y=>match y with
   | .x0 a b=>(some (a,b))else none else none else none
noncomputable abbrev ZL (x0:GDag)(b:Int):=(false,[Ww 1 ((ups x0 b).map etI)])
abbrev ZM (q0:Kd)(x0:GDag):=Wc .far q0 x0
theorem QG {q0:Kd}(x0:GDag)(a:GRun)(b:Int):Ans (ut x0 a b) (fun r=>Does E 40 [.agg (ZM q0 x0),.agg (We .far a),Wr b] [Wp r.1,Wp r.2]):=by
 unfold ut;apply V6;intro f;apply V6;intro g;apply V6;intro h;apply V5;intro y e;replace e:=Od (q0:=q0) a.f0 a.f1.f0 a.f1.f1 a.f2 a.f3 (ups x0 b) 9223372036854775808 true false 0 y e;cases y with
 |x0 c d =>have i:=e;exact VZ (DP Tryz.f40 [.ret [(ZL x0 b)],.lp (.exit 0) (kk q0 c d)] (AV (ψ:=fun k=>E.C k 66 [.agg (ZM q0 x0),Wr b]=some [(ZL x0 b)]) (EE x0 b f g h)<|AL i<|AN))
inductive qG where|x0 (v10 v11:Bool)
def bD (q0:Kd)(a:Zz)(b c d:Int)(v5_4:List GState)(v10 v11:Bool)(e:List Int)(f g:Int):US:=stL 41 [(3,.fni 135 []),(5,.box () [tS a,tI b,tI c,tI d,Wx 4 (v5_4.map Wi)]),(10,Ws v10),(11,Ws v11),(17,.one (Ww 1 (e.map etI))),(18,Wr f),(19,Wr g)]
def dN (q0:Kd)(a b:Bool):US:=stL 41 [(10,Ws a),(11,Ws b)]
abbrev cU:US→Exit→US→Prop:=Round E 79 (aq Tryz.f79 0)
def zf {q0:Kd}(a:Zz)(b c d:Int)(v5_4:List GState)(v10 v11:Bool)(g:List Int)(h i:Int):qG→Prop| .x0 e f=>Loops E 79 (aq Tryz.f79 0) (bD q0 a b c d v5_4 v10 v11 g h i) (.exit 0) (dN q0 e f)
noncomputable def cg (v5_4:List GState)(b:List Int)(c:Int):Nat→Bool→Bool→Int→Option qG
 | 0,_,_,_=>none
 |n+1,v10,v11,a=>match v10 with
  |true=>match v11 with
   |true=>cond (decide (a<c))
    ((ar b a).bind fun d=>(ar v5_4 d).bind fun g1=>cg v5_4 b c n (eW g1) true (inc a))
    (some (.x0 v10 v11))
   |false=>cond (decide (a<c))
    ((ar b a).bind fun d=>(ar v5_4 d).bind fun g1=>cg v5_4 b c n (eW g1) (eW g1) (inc a))
    (some (.x0 v10 v11))
  |false=>match v11 with
   |true=>cond (decide (a<c))
    ((ar b a).bind fun d=>(ar v5_4 d).bind fun g1=>cg v5_4 b c n false true (inc a))
    (some (.x0 v10 v11))
   |false=>cond (decide (a<c))
    ((ar b a).bind fun d=>(ar v5_4 d).bind fun g1=>cg v5_4 b c n false (eW g1) (inc a))
    (some (.x0 v10 v11))
theorem zd {q0:Kd}(a:Zz)(b c d:Int)(v5_4:List GState)(f:List Int)(g:Int)(n:Nat):∀(v10 v11:Bool)(e:Int),Ans (cg v5_4 f g n v10 v11 e) (zf (q0:=q0) a b c d v5_4 v10 v11 f g e):=by
 induction n with
 |zero=>intros;exact Ans.none
 |succ n m =>
  intro v10 v11 e;unfold cg;cases v10 with
  |true =>
   cases v11 with
   |true =>
    apply V4<;>intro h
    ·apply V5;intro i j;apply V5;intro g1 k;have r:cU (bD q0 a b c d v5_4 true true f g e) .normal (bD q0 a b c d v5_4 (eW g1) true f g (inc e)):=RP [.b true,.row (etI i),.row (Wi g1),.ret [Wp (eW g1)]] (AC h<|AG etI j<|AR Wi k<|AD (tV g1)<|AN);exact(m (eW g1) true (inc e)).mono fun y l=>by cases y<;>exact V2 r l
    ·exact VZ (V3 (show cU (bD q0 a b c d v5_4 true true f g e) (.exit 0) (dN q0 true true)from RP [.b false] (AC h<|AN)))
   |false =>
    apply V4<;>intro h
    ·apply V5;intro i j;apply V5;intro g1 k;have r:cU (bD q0 a b c d v5_4 true false f g e) .normal (bD q0 a b c d v5_4 (eW g1) (eW g1) f g (inc e)):=RP [.b true,.row (etI i),.row (Wi g1),.ret [Wp (eW g1)]] (AC h<|AG etI j<|AR Wi k<|AD (tV g1)<|AN);exact(m (eW g1) (eW g1) (inc e)).mono fun y l=>by cases y<;>exact V2 r l
    ·exact VZ (V3 (show cU (bD q0 a b c d v5_4 true false f g e) (.exit 0) (dN q0 true false)from RP [.b false] (AC h<|AN)))
  |false =>
   cases v11 with
   |true =>
    apply V4<;>intro h
    ·apply V5;intro i j;apply V5;intro g1 k;have r:cU (bD q0 a b c d v5_4 false true f g e) .normal (bD q0 a b c d v5_4 false true f g (inc e)):=RP [.b true,.row (etI i),.row (Wi g1),.ret [Wp (eW g1)]] (AC h<|AG etI j<|AR Wi k<|AD (tV g1)<|AN);exact(m false true (inc e)).mono fun y l=>by cases y<;>exact V2 r l
    ·exact VZ (V3 (show cU (bD q0 a b c d v5_4 false true f g e) (.exit 0) (dN q0 false true)from RP [.b false] (AC h<|AN)))
   |false =>
    apply V4<;>intro h
    ·apply V5;intro i j;apply V5;intro g1 k;have r:cU (bD q0 a b c d v5_4 false false f g e) .normal (bD q0 a b c d v5_4 false (eW g1) f g (inc e)):=RP [.b true,.row (etI i),.row (Wi g1),.ret [Wp (eW g1)]] (AC h<|AG etI j<|AR Wi k<|AD (tV g1)<|AN);exact(m false (eW g1) (inc e)).mono fun y l=>by cases y<;>exact V2 r l
    ·exact VZ (V3 (show cU (bD q0 a b c d v5_4 false false f g e) (.exit 0) (dN q0 false false)from RP [.b false] (AC h<|AN)))
noncomputable def j6 (c:GDag)(e:GRun)(d:Int):Option (Bool×Bool):=
  if ab.sm c then if aY c=true then if 0≤d∧d<(c.f5.length:Int)then(cg e.f3 (ups c d) ((ups c d).length:Int) 9223372036854775808 true false 0).bind fun y=>match y with
   | .x0 a b=>(some (a,b))else none else none else none
theorem AA {q0:Kd}(x0:GDag)(b:GRun)(a:Int):Ans (j6 x0 b a) (fun r=>Does E 79 [.agg (ZM q0 x0),.agg (We .far b),Wr a,.fni 135 []] [Wp r.1,Wp r.2]):=by
 unfold j6;apply V6;intro f;apply V6;intro g;apply V6;intro h;apply V5;intro y e;replace e:=zd (q0:=q0) b.f0 b.f1.f0 b.f1.f1 b.f2 b.f3 (ups x0 a) ((ups x0 a).length:Int) 9223372036854775808 true false 0 y e;cases y with
 |x0 c d =>have i:=e;exact VZ (DP Tryz.f79 [.ret [(ZL x0 a)],Wu ((ups x0 a).length:Int),.lp (.exit 0) (dN q0 c d)] (AV (ψ:=fun k=>E.C k 102 [.agg (ZM q0 x0),Wr a]=some [(ZL x0 a)]) (F5 x0 a f g h)<|ALn (ups x0 a) etI<|AL i<|AN))
inductive rt where|x0 (v10 v11:Bool)
def bK (q0:Kd)(a:Zz)(b c d:Int)(v5_4:List GState)(v10 v11:Bool)(e:List Int)(f g:Int):US:=stL 41 [(3,.fni 80 []),(5,.box () [tS a,tI b,tI c,tI d,Wx 4 (v5_4.map Wi)]),(10,Ws v10),(11,Ws v11),(17,.one (Ww 1 (e.map etI))),(18,Wr f),(19,Wr g)]
def em (q0:Kd)(a b:Bool):US:=stL 41 [(10,Ws a),(11,Ws b)]
abbrev dg:US→Exit→US→Prop:=Round E 79 (aq Tryz.f79 0)
def Az {q0:Kd}(a:Zz)(b c d:Int)(v5_4:List GState)(v10 v11:Bool)(g:List Int)(h i:Int):rt→Prop| .x0 e f=>Loops E 79 (aq Tryz.f79 0) (bK q0 a b c d v5_4 v10 v11 g h i) (.exit 0) (em q0 e f)
noncomputable def cq (v5_4:List GState)(b:List Int)(c:Int):Nat→Bool→Bool→Int→Option rt
 | 0,_,_,_=>none
 |n+1,v10,v11,a=>match v10 with
  |true=>match v11 with
   |true=>cond (decide (a<c))
    ((ar b a).bind fun d=>(ar v5_4 d).bind fun g1=>cq v5_4 b c n (gw g1) true (inc a))
    (some (.x0 v10 v11))
   |false=>cond (decide (a<c))
    ((ar b a).bind fun d=>(ar v5_4 d).bind fun g1=>cq v5_4 b c n (gw g1) (gw g1) (inc a))
    (some (.x0 v10 v11))
  |false=>match v11 with
   |true=>cond (decide (a<c))
    ((ar b a).bind fun d=>(ar v5_4 d).bind fun g1=>cq v5_4 b c n false true (inc a))
    (some (.x0 v10 v11))
   |false=>cond (decide (a<c))
    ((ar b a).bind fun d=>(ar v5_4 d).bind fun g1=>cq v5_4 b c n false (gw g1) (inc a))
    (some (.x0 v10 v11))
theorem Ay {q0:Kd}(a:Zz)(b c d:Int)(v5_4:List GState)(f:List Int)(g:Int)(n:Nat):∀(v10 v11:Bool)(e:Int),Ans (cq v5_4 f g n v10 v11 e) (Az (q0:=q0) a b c d v5_4 v10 v11 f g e):=by
 induction n with
 |zero=>intros;exact Ans.none
 |succ n m =>
  intro v10 v11 e;unfold cq;cases v10 with
  |true =>
   cases v11 with
   |true =>
    apply V4<;>intro h
    ·apply V5;intro i j;apply V5;intro g1 k;have r:dg (bK q0 a b c d v5_4 true true f g e) .normal (bK q0 a b c d v5_4 (gw g1) true f g (inc e)):=RP [.b true,.row (etI i),.row (Wi g1),.ret [Wp (gw g1)]] (AC h<|AG etI j<|AR Wi k<|AD (vC g1)<|AN);exact(m (gw g1) true (inc e)).mono fun y l=>by cases y<;>exact V2 r l
    ·exact VZ (V3 (show dg (bK q0 a b c d v5_4 true true f g e) (.exit 0) (em q0 true true)from RP [.b false] (AC h<|AN)))
   |false =>
    apply V4<;>intro h
    ·apply V5;intro i j;apply V5;intro g1 k;have r:dg (bK q0 a b c d v5_4 true false f g e) .normal (bK q0 a b c d v5_4 (gw g1) (gw g1) f g (inc e)):=RP [.b true,.row (etI i),.row (Wi g1),.ret [Wp (gw g1)]] (AC h<|AG etI j<|AR Wi k<|AD (vC g1)<|AN);exact(m (gw g1) (gw g1) (inc e)).mono fun y l=>by cases y<;>exact V2 r l
    ·exact VZ (V3 (show dg (bK q0 a b c d v5_4 true false f g e) (.exit 0) (em q0 true false)from RP [.b false] (AC h<|AN)))
  |false =>
   cases v11 with
   |true =>
    apply V4<;>intro h
    ·apply V5;intro i j;apply V5;intro g1 k;have r:dg (bK q0 a b c d v5_4 false true f g e) .normal (bK q0 a b c d v5_4 false true f g (inc e)):=RP [.b true,.row (etI i),.row (Wi g1),.ret [Wp (gw g1)]] (AC h<|AG etI j<|AR Wi k<|AD (vC g1)<|AN);exact(m false true (inc e)).mono fun y l=>by cases y<;>exact V2 r l
    ·exact VZ (V3 (show dg (bK q0 a b c d v5_4 false true f g e) (.exit 0) (em q0 false true)from RP [.b false] (AC h<|AN)))
   |false =>
    apply V4<;>intro h
    ·apply V5;intro i j;apply V5;intro g1 k;have r:dg (bK q0 a b c d v5_4 false false f g e) .normal (bK q0 a b c d v5_4 false (gw g1) f g (inc e)):=RP [.b true,.row (etI i),.row (Wi g1),.ret [Wp (gw g1)]] (AC h<|AG etI j<|AR Wi k<|AD (vC g1)<|AN);exact(m false (gw g1) (inc e)).mono fun y l=>by cases y<;>exact V2 r l
    ·exact VZ (V3 (show dg (bK q0 a b c d v5_4 false false f g e) (.exit 0) (em q0 false false)from RP [.b false] (AC h<|AN)))
noncomputable def kC (c:GDag)(e:GRun)(d:Int):Option (Bool×Bool):=
  if ab.sm c then if aY c=true then if 0≤d∧d<(c.f5.length:Int)then(cq e.f3 (ups c d) ((ups c d).length:Int) 9223372036854775808 true false 0).bind fun y=>match y with
   | .x0 a b=>(some (a,b))else none else none else none
theorem Bz {q0:Kd}(x0:GDag)(b:GRun)(a:Int):Ans (kC x0 b a) (fun r=>Does E 79 [.agg (ZM q0 x0),.agg (We .far b),Wr a,.fni 80 []] [Wp r.1,Wp r.2]):=by
 unfold kC;apply V6;intro f;apply V6;intro g;apply V6;intro h;apply V5;intro y e;replace e:=Ay (q0:=q0) b.f0 b.f1.f0 b.f1.f1 b.f2 b.f3 (ups x0 a) ((ups x0 a).length:Int) 9223372036854775808 true false 0 y e;cases y with
 |x0 c d =>have i:=e;exact VZ (DP Tryz.f79 [.ret [(ZL x0 a)],Wu ((ups x0 a).length:Int),.lp (.exit 0) (em q0 c d)] (AV (ψ:=fun k=>E.C k 102 [.agg (ZM q0 x0),Wr a]=some [(ZL x0 a)]) (F5 x0 a f g h)<|ALn (ups x0 a) etI<|AL i<|AN))
def uG (p:GState→Bool)(ts:List GState)(l:List Int):Bool:=l.all fun u=>match ar ts u with|some x=>p x|none=>false
def sf (p:GState→Bool)(ts:List GState)(l:List Int):Bool:=l.any fun u=>match ar ts u with|some x=>p x|none=>false
noncomputable def Sz (p:GState→Bool)(d:GDag)(r:GRun)(i:Int):Bool×Bool:=(uG p r.f3 (ups d i),sf p r.f3 (ups d i))
noncomputable def bX (d:GDag)(r:GRun)(i:Int):Bool×Bool:=Sz eW d r i
noncomputable def bf (d:GDag)(r:GRun)(i:Int):Bool×Bool:=Sz gw d r i
noncomputable def ax (d:GDag)(r:GRun)(i:Int):Bool×Bool:=((bX d r i).1,(bf d r i).2)
theorem Ir (ts:List GState)(aL:List Int)(hf:∀x∈aL,0≤x∧x<(ts.length:Int))(i:aL.length≤1000):∀(m k n:Nat)(a b:Bool),k+m=aL.length→m<n →
  eJ ts aL n a b (k:Int)=some (.x0 (a&&uG eW ts (aL.drop k)) (b ||sf gw ts (aL.drop k))) ∧
  cg ts aL (aL.length:Int) n a b (k:Int)=some (.x0 (a&&uG eW ts (aL.drop k)) (b ||sf eW ts (aL.drop k))) ∧
  cq ts aL (aL.length:Int) n a b (k:Int)=some (.x0 (a&&uG gw ts (aL.drop k)) (b ||sf gw ts (aL.drop k)))
 |m,k,0,a,b,_,g=>by omega
 | 0,k,n+1,a,b,j,g=>by have hd:aL.drop k=[]:=Xn (by omega);have hc:decide ((k:Int)<(aL.length:Int))=false:=WH (by omega);rw[hd];unfold eJ cg cq;rw[hc];cases a<;>cases b<;>exact⟨rfl,rfl,rfl⟩
 |m+1,k,n+1,a,b,j,g=>by
  have c:k<aL.length:=by omega
  have hd:aL.drop k=aL[k]::aL.drop (k+1):=XQ c;have hc:decide ((k:Int)<(aL.length:Int))=true:=WJ (by omega);have l:ar aL (k:Int)=some aL[k]:=by rw[dA];exact WE c
  obtain⟨x,d,_⟩:=eK (hf aL[k] (XW _));have e:inc (k:Int)=((k+1:Nat):Int):=by rw[cr _ (by omega) (by omega)];omega
  have f:=fun a b=>Ir ts aL hf i m (k+1) n a b (by omega) (by omega)
  have h:∀p,uG p ts (aL.drop k)=(p x&&uG p ts (aL.drop (k+1))):=fun p=>by rw[hd];unfold uG;rw[X9,d]
  have hs:∀p,sf p ts (aL.drop k)=(p x ||sf p ts (aL.drop (k+1))):=fun p=>by rw[hd];unfold sf;rw[YW,d]
  rw[h,h,hs,hs];have o:eW x=(x.f0==2):=rfl;have q:gw x=(x.f0==3 ||x.f0==4):=rfl;unfold eJ cg cq;cases a<;>cases b<;>simp only[hc,l,d,e,Wy,WK,(f _ _).1,(f _ _).2.1,(f _ _).2.2,o,q]<;>cases x.f0==2<;>cases x.f0==3<;>cases x.f0==4<;>simp
theorem MA (d:GDag)(r:GRun)(i:Int)(h:ab.sm d)(hd:aY d=true)(b:r.f3.length=d.f5.length)(hi:0≤i∧i<(d.f5.length:Int)):
  ut d r i=some (ax d r i)∧j6 d r i=some (bX d r i)∧kC d r i=some (bf d r i):=by
 obtain⟨c,f⟩:=SA hd hi;obtain⟨a,a2,a3⟩:=Ir r.f3 (ups d i) (fun x e=>by rw[b];exact c x e) (by omega) (ups d i).length 0 9223372036854775808 true false (by omega) (by omega);rw[W9,Xa,YD]at a a2 a3;unfold ut j6 kC;refine⟨?_,?_,?_⟩
 ·rw[Wz h,Wz hd,Wz hi];exact(WV (Option.bind · _) a).trans rfl
 ·rw[Wz h,Wz hd,Wz hi];exact(WV (Option.bind · _) a2).trans rfl
 ·rw[Wz h,Wz hd,Wz hi];exact(WV (Option.bind · _) a3).trans rfl
theorem bA {q0:Kd}(a:GDag)(c:GRun)(b:Int)(h:ab.sm a)(hd:aY a=true)(d:c.f3.length=a.f5.length)(hi:0≤b∧b<(a.f5.length:Int)):Does E 40 [.agg (Wc .far q0 a),.agg (We .far c),Wr b] [Wp ((ax a c b).1),Wp ((ax a c b).2)]:=by exact QG a c b _ (MA a c b h hd d hi).1
theorem ib {q0:Kd}(a:GDag)(c:GRun)(b:Int)(h:ab.sm a)(hd:aY a=true)(d:c.f3.length=a.f5.length)(hi:0≤b∧b<(a.f5.length:Int)):Does E 79 [.agg (Wc .far q0 a),.agg (We .far c),Wr b,.fni 135 []] [Wp ((bX a c b).1),Wp ((bX a c b).2)]:=by exact AA a c b _ (MA a c b h hd d hi).2.1
theorem cA {q0:Kd}(a:GDag)(c:GRun)(b:Int)(h:ab.sm a)(hd:aY a=true)(d:c.f3.length=a.f5.length)(hi:0≤b∧b<(a.f5.length:Int)):Does E 79 [.agg (Wc .far q0 a),.agg (We .far c),Wr b,.fni 80 []] [Wp ((bf a c b).1),Wp ((bf a c b).2)]:=by exact Bz a c b _ (MA a c b h hd d hi).2.2
noncomputable def sB (b:GDag)(d:GRun)(c:Int):Option (Bool):=(ar d.f3 c).bind fun a=>cond (ak a.f0 0 4) ((ar b.f5 c).bind fun g1=>cond (ak a.f1 0 (inc g1.f2)) (cond (ak a.f3 0 68374179) (cond (ak a.f2 0 1000000000) (cond (!((decide (a.f2>(0:Int)))==(a.f0==(1:Int)))) (some (false)) (if ab.sm b then if aY b=true then if d.f3.length=b.f5.length then if 0≤c∧c<(b.f5.length:Int)then cond (a.f0==(1:Int)) (some ((bX b d c).1)) (cond (a.f0==(2:Int)) (some ((bX b d c).1)) (cond (a.f0==(4:Int)) (some ((bf b d c).2)) (cond (a.f0==(0:Int)) (some (!((bf b d c).2))) (some (true)))))else none else none else none else none)) (some (false))) (some (false))) (some (false))) (some (false))
theorem No {q0:Kd}(a:GDag)(b:GRun)(c:Int):Ans (sB a b c) (fun r=>Does E 119 [.agg (ZM q0 a),.agg (We .far b),Wr c] [Wp r]):=by
 unfold sB;apply V5;intro d g;apply V4<;>intro h
 ·apply V5;intro g1 m;apply V4<;>intro n
  ·apply V4<;>intro p
   ·apply V4<;>intro q
    ·apply V4<;>intro t
     ·exact VZ (DP Tryz.f119 [.row (Wi d),rT,.row ((Wj q0) g1),rT,rT,rT,.no,.no,.b true] (AR Wi g<|AD (V9 (aG d.f0 0 4) h)<|AR (Wj q0) m<|AD (V9 (aG d.f1 0 (inc g1.f2)) n)<|AD (V9 (aG d.f3 0 68374179) p)<|AD (V9 (aG d.f2 0 1000000000) q)<|AC t<|AN))
     ·apply V6;intro i;apply V6;intro j;apply V6;intro l;apply V6;intro e;apply V4<;>intro f
      ·exact VZ (DP Tryz.f119 [.row (Wi d),rT,.row ((Wj q0) g1),rT,rT,rT,.no,.no,.b false,.ret [Wp ((bX a b c).1),Wp ((bX a b c).2)],.ret [Wp ((bf a b c).1),Wp ((bf a b c).2)],.b true] (AR Wi g<|AD (V9 (aG d.f0 0 4) h)<|AR (Wj q0) m<|AD (V9 (aG d.f1 0 (inc g1.f2)) n)<|AD (V9 (aG d.f3 0 68374179) p)<|AD (V9 (aG d.f2 0 1000000000) q)<|AC t<|AV (ψ:=fun k=>E.C k 79 [.agg (ZM q0 a),.agg (We .far b),Wr c,.fni 135 []]=some [Wp ((bX a b c).1),Wp ((bX a b c).2)]) (ib a b c i j l e)<|AV (ψ:=fun k=>E.C k 79 [.agg (ZM q0 a),.agg (We .far b),Wr c,.fni 80 []]=some [Wp ((bf a b c).1),Wp ((bf a b c).2)]) (cA a b c i j l e)<|AC f<|AN))
      ·apply V4<;>intro o
       ·exact VZ (DP Tryz.f119 [.row (Wi d),rT,.row ((Wj q0) g1),rT,rT,rT,.no,.no,.b false,.ret [Wp ((bX a b c).1),Wp ((bX a b c).2)],.ret [Wp ((bf a b c).1),Wp ((bf a b c).2)],.b false,.b true] (AR Wi g<|AD (V9 (aG d.f0 0 4) h)<|AR (Wj q0) m<|AD (V9 (aG d.f1 0 (inc g1.f2)) n)<|AD (V9 (aG d.f3 0 68374179) p)<|AD (V9 (aG d.f2 0 1000000000) q)<|AC t<|AV (ψ:=fun k=>E.C k 79 [.agg (ZM q0 a),.agg (We .far b),Wr c,.fni 135 []]=some [Wp ((bX a b c).1),Wp ((bX a b c).2)]) (ib a b c i j l e)<|AV (ψ:=fun k=>E.C k 79 [.agg (ZM q0 a),.agg (We .far b),Wr c,.fni 80 []]=some [Wp ((bf a b c).1),Wp ((bf a b c).2)]) (cA a b c i j l e)<|AC f<|AC o<|AN))
       ·apply V4<;>intro s
        ·exact VZ (DP Tryz.f119 [.row (Wi d),rT,.row ((Wj q0) g1),rT,rT,rT,.no,.no,.b false,.ret [Wp ((bX a b c).1),Wp ((bX a b c).2)],.ret [Wp ((bf a b c).1),Wp ((bf a b c).2)],.b false,.b false,.b true] (AR Wi g<|AD (V9 (aG d.f0 0 4) h)<|AR (Wj q0) m<|AD (V9 (aG d.f1 0 (inc g1.f2)) n)<|AD (V9 (aG d.f3 0 68374179) p)<|AD (V9 (aG d.f2 0 1000000000) q)<|AC t<|AV (ψ:=fun k=>E.C k 79 [.agg (ZM q0 a),.agg (We .far b),Wr c,.fni 135 []]=some [Wp ((bX a b c).1),Wp ((bX a b c).2)]) (ib a b c i j l e)<|AV (ψ:=fun k=>E.C k 79 [.agg (ZM q0 a),.agg (We .far b),Wr c,.fni 80 []]=some [Wp ((bf a b c).1),Wp ((bf a b c).2)]) (cA a b c i j l e)<|AC f<|AC o<|AC s<|AN))
        ·apply V4<;>intro u
         ·exact VZ (DP Tryz.f119 [.row (Wi d),rT,.row ((Wj q0) g1),rT,rT,rT,.no,.no,.b false,.ret [Wp ((bX a b c).1),Wp ((bX a b c).2)],.ret [Wp ((bf a b c).1),Wp ((bf a b c).2)],.b false,.b false,.b false,.b true] (AR Wi g<|AD (V9 (aG d.f0 0 4) h)<|AR (Wj q0) m<|AD (V9 (aG d.f1 0 (inc g1.f2)) n)<|AD (V9 (aG d.f3 0 68374179) p)<|AD (V9 (aG d.f2 0 1000000000) q)<|AC t<|AV (ψ:=fun k=>E.C k 79 [.agg (ZM q0 a),.agg (We .far b),Wr c,.fni 135 []]=some [Wp ((bX a b c).1),Wp ((bX a b c).2)]) (ib a b c i j l e)<|AV (ψ:=fun k=>E.C k 79 [.agg (ZM q0 a),.agg (We .far b),Wr c,.fni 80 []]=some [Wp ((bf a b c).1),Wp ((bf a b c).2)]) (cA a b c i j l e)<|AC f<|AC o<|AC s<|AC u<|AN))
         ·exact VZ (DP Tryz.f119 [.row (Wi d),rT,.row ((Wj q0) g1),rT,rT,rT,.no,.no,.b false,.ret [Wp ((bX a b c).1),Wp ((bX a b c).2)],.ret [Wp ((bf a b c).1),Wp ((bf a b c).2)],.b false,.b false,.b false,.b false] (AR Wi g<|AD (V9 (aG d.f0 0 4) h)<|AR (Wj q0) m<|AD (V9 (aG d.f1 0 (inc g1.f2)) n)<|AD (V9 (aG d.f3 0 68374179) p)<|AD (V9 (aG d.f2 0 1000000000) q)<|AC t<|AV (ψ:=fun k=>E.C k 79 [.agg (ZM q0 a),.agg (We .far b),Wr c,.fni 135 []]=some [Wp ((bX a b c).1),Wp ((bX a b c).2)]) (ib a b c i j l e)<|AV (ψ:=fun k=>E.C k 79 [.agg (ZM q0 a),.agg (We .far b),Wr c,.fni 80 []]=some [Wp ((bf a b c).1),Wp ((bf a b c).2)]) (cA a b c i j l e)<|AC f<|AC o<|AC s<|AC u<|AN))
    ·exact VZ (DP Tryz.f119 [.row (Wi d),rT,.row ((Wj q0) g1),rT,rT,rF] (AR Wi g<|AD (V9 (aG d.f0 0 4) h)<|AR (Wj q0) m<|AD (V9 (aG d.f1 0 (inc g1.f2)) n)<|AD (V9 (aG d.f3 0 68374179) p)<|AD (V9 (aG d.f2 0 1000000000) q)<|AN))
   ·exact VZ (DP Tryz.f119 [.row (Wi d),rT,.row ((Wj q0) g1),rT,rF] (AR Wi g<|AD (V9 (aG d.f0 0 4) h)<|AR (Wj q0) m<|AD (V9 (aG d.f1 0 (inc g1.f2)) n)<|AD (V9 (aG d.f3 0 68374179) p)<|AN))
  ·exact VZ (DP Tryz.f119 [.row (Wi d),rT,.row ((Wj q0) g1),rF] (AR Wi g<|AD (V9 (aG d.f0 0 4) h)<|AR (Wj q0) m<|AD (V9 (aG d.f1 0 (inc g1.f2)) n)<|AN))
 ·exact VZ (DP Tryz.f119 [.row (Wi d),rF] (AR Wi g<|AD (V9 (aG d.f0 0 4) h)<|AN))
inductive Dw where|ret (v4:Bool)|x0
def av (q0:Kd)(v2_0 v2_1:Zz)(v2_2 v2_3:Int)(v2_4:Bool)(a:List GTask)(b:Zz)(v3_1 v3_2 c:Int)(d:List GState)(v5:Int):US:=stL 121 [(2,.box () [tS v2_0,tS v2_1,tI v2_2,tI v2_3,tB v2_4,Wx 5 (a.map (Wj q0))]),(3,.box () [tS b,tI v3_1,tI v3_2,tI c,Wx 4 (d.map Wi)]),(5,Wr v5)]
def aN (q0:Kd)(a:Bool):US:=stL 121 [(4,Ws a)]
def py (q0:Kd)  : US:=stL 121 []
abbrev aE:US→Exit→US→Prop:=Round E 65 (aq Tryz.f65 0)
def Ob {q0:Kd}(v2_0 v2_1:Zz)(v2_2 v2_3:Int)(v2_4:Bool)(a:List GTask)(b:Zz)(v3_1 v3_2 c:Int)(d:List GState)(v5:Int):Dw→Prop| .ret e=>Loops E 65 (aq Tryz.f65 0) (av q0 v2_0 v2_1 v2_2 v2_3 v2_4 a b v3_1 v3_2 c d v5) .ret (aN q0 e)| .x0=>Loops E 65 (aq Tryz.f65 0) (av q0 v2_0 v2_1 v2_2 v2_3 v2_4 a b v3_1 v3_2 c d v5) (.exit 0) (py q0)
end
end Go.Proofs.YtlgddjncnedkgaaGreatDoor.Am
