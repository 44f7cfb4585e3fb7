/- Right runs, a part. -/
import Derived.Test.YtjikhkndmohepaaGreatDoorPlans
namespace Go.Proofs.YtjikhkndmohepaaGreatDoor.Am
open Go
set_option linter.unusedVariables false
set_option linter.unusedSimpArgs false
section
open Go.Proofs Classical
set_option maxRecDepth 100000
noncomputable def wF (a:GSpan):Option (Bool):=cond (decide (a.f0≥(0:Int))) (cond (decide (a.f0<a.f1)) (some (decide (a.f1≤(68374079:Int)))) (some (false))) (some (false))
theorem Ns (b:GSpan):Ans (wF b) (fun r=>Does E 89 [.agg (VO b)] [VY r]):=by
 unfold wF;apply VC<;>intro a
 ·apply VC<;>intro c
  ·exact Vz (DP Tryz.f89 [.b true,.b true] (AC a<|AC c<|AN))
  ·exact Vz (DP Tryz.f89 [.b true,.b false] (AC a<|AC c<|AN))
 ·exact Vz (DP Tryz.f89 [.b false] (AC a<|AN))
def sD (s:GSpan):Bool:=decide (s.f0≥0)&&(decide (s.f0<s.f1)&&decide (s.f1≤68374079))
theorem oi (a:GSpan):Does E 89 [.agg (VO a)] [VY (sD a)]:=by exact Ns a _ (by unfold wF sD;cases decide (a.f0≥0)<;>cases decide (a.f0<a.f1)<;>rfl)
noncomputable def x7 (a:GSpan):Option (Bool):=cond (decide (a.f0≥(0:Int))) (cond (decide (a.f0<a.f1)) (some (decide (a.f1≤(68374079:Int)))) (some (false))) (some (false))
theorem Pc (b:GSpan):Ans (x7 b) (fun r=>Does E 96 [.agg (VO b)] [VY r]):=by
 unfold x7;apply VC<;>intro a
 ·apply VC<;>intro c
  ·exact Vz (DP Tryz.f96 [.b true,.b true] (AC a<|AC c<|AN))
  ·exact Vz (DP Tryz.f96 [.b true,.b false] (AC a<|AC c<|AN))
 ·exact Vz (DP Tryz.f96 [.b false] (AC a<|AN))
theorem pF (a:GSpan):Does E 96 [.agg (VO a)] [VY (sD a)]:=by exact Pc a _ (by unfold x7 sD;cases decide (a.f0≥0)<;>cases decide (a.f0<a.f1)<;>rfl)
noncomputable def At (a:GState):Option (Bool):=cond (a.f0==(3:Int)) (some (true)) (some (a.f0==(4:Int)))
theorem QW (a:GState):Ans (At a) (fun r=>Does E 114 [.agg (VP a)] [VY r]):=by
 unfold At;apply VC<;>intro b
 ·exact Vz (DP Tryz.f114 [.b true] (AC b<|AN))
 ·exact Vz (DP Tryz.f114 [.b false] (AC b<|AN))
noncomputable def Ec (a:GState):Option (Bool):=some (a.f0==(2:Int))
theorem O7 (a:GState):Ans (Ec a) (fun r=>Does E 80 [.agg (VP a)] [VY r]):=by unfold Ec;exact Vz (DP Tryz.f80 [] AN)
def fU (x:GState):Bool:=x.f0==3 ||x.f0==4
def eQ (x:GState):Bool:=x.f0==2
theorem vj (a:GState):Does E 114 [.agg (VP a)] [VY (fU a)]:=by exact QW a _ (by unfold At fU;cases a.f0==3<;>rfl)
theorem tw (a:GState):Does E 80 [.agg (VP a)] [VY (eQ a)]:=by exact O7 a _ rfl
inductive CG where|x0 (v8 v9:Bool)
def cr (q0:Kd)(a:Y9)(b c d:Int)(e:List GState)(v8 v9:Bool)(v10:List Int)(v11:Int):US:=stL 47 [(4,.box () [tS a,tI b,tI c,tI d,V8 4 (e.map VP)]),(8,V3 v8),(9,V3 v9),(10,.one (V7 1 (v10.map etI))),(11,V2 v11)]
def jY (q0:Kd)(a b:Bool):US:=stL 47 [(8,V3 a),(9,V3 b)]
abbrev fM:US→Exit→US→Prop:=Round E 62 (an Tryz.f62 0)
def Nu {q0:Kd}(a:Y9)(b c d:Int)(e:List GState)(v8 v9:Bool)(v10:List Int)(v11:Int):CG→Prop| .x0 f g=>Loops E 62 (an Tryz.f62 0) (cr q0 a b c d e v8 v9 v10 v11) (.exit 0) (jY q0 f g)
noncomputable def eI (a:List GState)(v10:List Int):Nat→Bool→Bool→Int→Option CG
 | 0,_,_,_=>none
 |n+1,v8,v9,v11=>match v8 with
  |true=>match v9 with
   |true=>cond (decide (v11<(v10.length:Int)))
    ((ak v10 v11).bind fun b=>(ak a b).bind fun g1=>eI a v10 n (g1.f0==(2:Int)) true (inc v11))
    (some (.x0 v8 v9))
   |false=>cond (decide (v11<(v10.length:Int)))
    ((ak v10 v11).bind fun b=>(ak a b).bind fun g1=>cond (g1.f0==(3:Int))
     (eI a v10 n (g1.f0==(2:Int)) true (inc v11))
     (eI a v10 n (g1.f0==(2:Int)) (g1.f0==(4:Int)) (inc v11)))
    (some (.x0 v8 v9))
  |false=>match v9 with
   |true=>cond (decide (v11<(v10.length:Int)))
    ((ak v10 v11).bind fun b=>(ak a b).bind fun g1=>eI a v10 n false true (inc v11))
    (some (.x0 v8 v9))
   |false=>cond (decide (v11<(v10.length:Int)))
    ((ak v10 v11).bind fun b=>(ak a b).bind fun g1=>cond (g1.f0==(3:Int))
     (eI a v10 n false true (inc v11))
     (eI a v10 n false (g1.f0==(4:Int)) (inc v11)))
    (some (.x0 v8 v9))
theorem Nt {q0:Kd}(b:Y9)(c d e:Int)(a:List GState)(v10:List Int)(n:Nat):∀(v8 v9:Bool)(v11:Int),Ans (eI a v10 n v8 v9 v11) (Nu (q0:=q0) b c d e a v8 v9 v10 v11):=by
 induction n with
 |zero=>intros;exact Ans.none
 |succ n l =>
  intro v8 v9 v11;unfold eI;cases v8 with
  |true =>
   cases v9 with
   |true =>
    apply VC<;>intro f
    ·apply VD;intro i j;apply VD;intro g1 k;have r:fM (cr q0 b c d e a true true v10 v11) .normal (cr q0 b c d e a (g1.f0==(2:Int)) true v10 (inc v11)):=RP [V5 (v10.length:Int),.b true,.row (etI i),.row (VP g1)] (ALn v10 etI<|AC f<|AG etI j<|AR VP k<|AN);exact(l (g1.f0==(2:Int)) true (inc v11)).mono fun y g=>by cases y<;>exact VA r g
    ·exact Vz (VB (show fM (cr q0 b c d e a true true v10 v11) (.exit 0) (jY q0 true true)from RP [V5 (v10.length:Int),.b false] (ALn v10 etI<|AC f<|AN)) (by intro h;cases h))
   |false =>
    apply VC<;>intro f
    ·apply VD;intro i j;apply VD;intro g1 k;apply VC<;>intro m
     ·have r:fM (cr q0 b c d e a true false v10 v11) .normal (cr q0 b c d e a (g1.f0==(2:Int)) true v10 (inc v11)):=RP [V5 (v10.length:Int),.b true,.row (etI i),.row (VP g1),.no,.b true] (ALn v10 etI<|AC f<|AG etI j<|AR VP k<|AC m<|AN);exact(l (g1.f0==(2:Int)) true (inc v11)).mono fun y g=>by cases y<;>exact VA r g
     ·have r:fM (cr q0 b c d e a true false v10 v11) .normal (cr q0 b c d e a (g1.f0==(2:Int)) (g1.f0==(4:Int)) v10 (inc v11)):=RP [V5 (v10.length:Int),.b true,.row (etI i),.row (VP g1),.no,.b false] (ALn v10 etI<|AC f<|AG etI j<|AR VP k<|AC m<|AN);exact(l (g1.f0==(2:Int)) (g1.f0==(4:Int)) (inc v11)).mono fun y g=>by cases y<;>exact VA r g
    ·exact Vz (VB (show fM (cr q0 b c d e a true false v10 v11) (.exit 0) (jY q0 true false)from RP [V5 (v10.length:Int),.b false] (ALn v10 etI<|AC f<|AN)) (by intro h;cases h))
  |false =>
   cases v9 with
   |true =>
    apply VC<;>intro f
    ·apply VD;intro i j;apply VD;intro g1 k;have r:fM (cr q0 b c d e a false true v10 v11) .normal (cr q0 b c d e a false true v10 (inc v11)):=RP [V5 (v10.length:Int),.b true,.row (etI i),.row (VP g1)] (ALn v10 etI<|AC f<|AG etI j<|AR VP k<|AN);exact(l false true (inc v11)).mono fun y g=>by cases y<;>exact VA r g
    ·exact Vz (VB (show fM (cr q0 b c d e a false true v10 v11) (.exit 0) (jY q0 false true)from RP [V5 (v10.length:Int),.b false] (ALn v10 etI<|AC f<|AN)) (by intro h;cases h))
   |false =>
    apply VC<;>intro f
    ·apply VD;intro i j;apply VD;intro g1 k;apply VC<;>intro m
     ·have r:fM (cr q0 b c d e a false false v10 v11) .normal (cr q0 b c d e a false true v10 (inc v11)):=RP [V5 (v10.length:Int),.b true,.row (etI i),.row (VP g1),.b true] (ALn v10 etI<|AC f<|AG etI j<|AR VP k<|AC m<|AN);exact(l false true (inc v11)).mono fun y g=>by cases y<;>exact VA r g
     ·have r:fM (cr q0 b c d e a false false v10 v11) .normal (cr q0 b c d e a false (g1.f0==(4:Int)) v10 (inc v11)):=RP [V5 (v10.length:Int),.b true,.row (etI i),.row (VP g1),.b false] (ALn v10 etI<|AC f<|AG etI j<|AR VP k<|AC m<|AN);exact(l false (g1.f0==(4:Int)) (inc v11)).mono fun y g=>by cases y<;>exact VA r g
    ·exact Vz (VB (show fM (cr q0 b c d e a false false v10 v11) (.exit 0) (jY q0 false false)from RP [V5 (v10.length:Int),.b false] (ALn v10 etI<|AC f<|AN)) (by intro h;cases h))
noncomputable def t7 (c:GDag)(e:GRun)(d:Int):Option (Bool×Bool):=
  if ab.sm c then if aH c=true then if 0≤d∧d<(c.f5.length:Int)then(eI e.f3 (ups c d) 9223372036854775808 true false 0).bind fun y=>match y with
   | .x0 a b=>(some (a,b))else none else none else none
theorem P1 {q0:Kd}(x0:GDag)(a:GRun)(b:Int):Ans (t7 x0 a b) (fun r=>Does E 62 [.agg (VK .far q0 x0),.agg (VM .far a),V2 b] [VY r.1,VY r.2]):=by
 unfold t7;apply VE;intro f;apply VE;intro g;apply VE;intro h;apply VD;intro y e;replace e:=Nt (q0:=q0) a.f0 a.f1.f0 a.f1.f1 a.f2 a.f3 (ups x0 b) 9223372036854775808 true false 0 y e;cases y with
 |x0 c d =>have i:=e;exact Vz (DP Tryz.f62 [.ret [(false,[V7 1 ((ups x0 b).map etI)])],.lp (.exit 0) (jY q0 c d)] (AV (ψ:=fun k=>E.C k 90 [.agg (VK .far q0 x0),V2 b]=some [(false,[V7 1 ((ups x0 b).map etI)])]) (On x0 b f g h)<|AL i<|AN))
inductive qk where|x0 (v10 v11:Bool)
def br (q0:Kd)(a:Y9)(b c d:Int)(e:List GState)(v10 v11:Bool)(f:List Int)(g h:Int):US:=stL 41 [(3,.fni 80 []),(5,.box () [tS a,tI b,tI c,tI d,V8 4 (e.map VP)]),(10,V3 v10),(11,V3 v11),(17,.one (V7 1 (f.map etI))),(18,V2 g),(19,V2 h)]
def dN (q0:Kd)(a b:Bool):US:=stL 41 [(10,V3 a),(11,V3 b)]
abbrev cL:US→Exit→US→Prop:=Round E 79 (an Tryz.f79 0)
def x9 {q0:Kd}(a:Y9)(b c d:Int)(e:List GState)(v10 v11:Bool)(h:List Int)(i j:Int):qk→Prop| .x0 f g=>Loops E 79 (an Tryz.f79 0) (br q0 a b c d e v10 v11 h i j) (.exit 0) (dN q0 f g)
noncomputable def ca (a:List GState)(c:List Int)(d:Int):Nat→Bool→Bool→Int→Option qk
 | 0,_,_,_=>none
 |n+1,v10,v11,b=>match v10 with
  |true=>match v11 with
   |true=>cond (decide (b<d))
    ((ak c b).bind fun e=>(ak a e).bind fun g1=>ca a c d n (eQ g1) true (inc b))
    (some (.x0 v10 v11))
   |false=>cond (decide (b<d))
    ((ak c b).bind fun e=>(ak a e).bind fun g1=>ca a c d n (eQ g1) (eQ g1) (inc b))
    (some (.x0 v10 v11))
  |false=>match v11 with
   |true=>cond (decide (b<d))
    ((ak c b).bind fun e=>(ak a e).bind fun g1=>ca a c d n false true (inc b))
    (some (.x0 v10 v11))
   |false=>cond (decide (b<d))
    ((ak c b).bind fun e=>(ak a e).bind fun g1=>ca a c d n false (eQ g1) (inc b))
    (some (.x0 v10 v11))
theorem x8 {q0:Kd}(b:Y9)(c d e:Int)(a:List GState)(g:List Int)(i:Int)(n:Nat):∀(v10 v11:Bool)(f:Int),Ans (ca a g i n v10 v11 f) (x9 (q0:=q0) b c d e a v10 v11 g i f):=by
 induction n with
 |zero=>intros;exact Ans.none
 |succ n p =>
  intro v10 v11 f;unfold ca;cases v10 with
  |true =>
   cases v11 with
   |true =>
    apply VC<;>intro j
    ·apply VD;intro k l;apply VD;intro g1 m;have r:cL (br q0 b c d e a true true g i f) .normal (br q0 b c d e a (eQ g1) true g i (inc f)):=RP [.b true,.row (etI k),.row (VP g1),.ret [VY (eQ g1)]] (AC j<|AG etI l<|AR VP m<|AD (tw g1)<|AN);exact(p (eQ g1) true (inc f)).mono fun y o=>by cases y<;>exact VA r o
    ·exact Vz (VB (show cL (br q0 b c d e a true true g i f) (.exit 0) (dN q0 true true)from RP [.b false] (AC j<|AN)) (by intro h;cases h))
   |false =>
    apply VC<;>intro j
    ·apply VD;intro k l;apply VD;intro g1 m;have r:cL (br q0 b c d e a true false g i f) .normal (br q0 b c d e a (eQ g1) (eQ g1) g i (inc f)):=RP [.b true,.row (etI k),.row (VP g1),.ret [VY (eQ g1)]] (AC j<|AG etI l<|AR VP m<|AD (tw g1)<|AN);exact(p (eQ g1) (eQ g1) (inc f)).mono fun y o=>by cases y<;>exact VA r o
    ·exact Vz (VB (show cL (br q0 b c d e a true false g i f) (.exit 0) (dN q0 true false)from RP [.b false] (AC j<|AN)) (by intro h;cases h))
  |false =>
   cases v11 with
   |true =>
    apply VC<;>intro j
    ·apply VD;intro k l;apply VD;intro g1 m;have r:cL (br q0 b c d e a false true g i f) .normal (br q0 b c d e a false true g i (inc f)):=RP [.b true,.row (etI k),.row (VP g1),.ret [VY (eQ g1)]] (AC j<|AG etI l<|AR VP m<|AD (tw g1)<|AN);exact(p false true (inc f)).mono fun y o=>by cases y<;>exact VA r o
    ·exact Vz (VB (show cL (br q0 b c d e a false true g i f) (.exit 0) (dN q0 false true)from RP [.b false] (AC j<|AN)) (by intro h;cases h))
   |false =>
    apply VC<;>intro j
    ·apply VD;intro k l;apply VD;intro g1 m;have r:cL (br q0 b c d e a false false g i f) .normal (br q0 b c d e a false (eQ g1) g i (inc f)):=RP [.b true,.row (etI k),.row (VP g1),.ret [VY (eQ g1)]] (AC j<|AG etI l<|AR VP m<|AD (tw g1)<|AN);exact(p false (eQ g1) (inc f)).mono fun y o=>by cases y<;>exact VA r o
    ·exact Vz (VB (show cL (br q0 b c d e a false false g i f) (.exit 0) (dN q0 false false)from RP [.b false] (AC j<|AN)) (by intro h;cases h))
noncomputable def jL (c:GDag)(e:GRun)(d:Int):Option (Bool×Bool):=
  if ab.sm c then if aH c=true then if 0≤d∧d<(c.f5.length:Int)then(ca e.f3 (ups c d) ((ups c d).length:Int) 9223372036854775808 true false 0).bind fun y=>match y with
   | .x0 a b=>(some (a,b))else none else none else none
theorem zw {q0:Kd}(x0:GDag)(b:GRun)(a:Int):Ans (jL x0 b a) (fun r=>Does E 79 [.agg (VK .far q0 x0),.agg (VM .far b),V2 a,.fni 80 []] [VY r.1,VY r.2]):=by
 unfold jL;apply VE;intro f;apply VE;intro g;apply VE;intro h;apply VD;intro y e;replace e:=x8 (q0:=q0) b.f0 b.f1.f0 b.f1.f1 b.f2 b.f3 (ups x0 a) ((ups x0 a).length:Int) 9223372036854775808 true false 0 y e;cases y with
 |x0 c d =>have i:=e;exact Vz (DP Tryz.f79 [.ret [(false,[V7 1 ((ups x0 a).map etI)])],V5 ((ups x0 a).length:Int),.lp (.exit 0) (dN q0 c d)] (AV (ψ:=fun k=>E.C k 103 [.agg (VK .far q0 x0),V2 a]=some [(false,[V7 1 ((ups x0 a).map etI)])]) (NE x0 a f g h)<|ALn (ups x0 a) etI<|AL i<|AN))
inductive qW where|x0 (v10 v11:Bool)
def bH (q0:Kd)(a:Y9)(b c d:Int)(e:List GState)(v10 v11:Bool)(f:List Int)(g h:Int):US:=stL 41 [(3,.fni 114 []),(5,.box () [tS a,tI b,tI c,tI d,V8 4 (e.map VP)]),(10,V3 v10),(11,V3 v11),(17,.one (V7 1 (f.map etI))),(18,V2 g),(19,V2 h)]
def ef (q0:Kd)(a b:Bool):US:=stL 41 [(10,V3 a),(11,V3 b)]
abbrev cZ:US→Exit→US→Prop:=Round E 79 (an Tryz.f79 0)
def zu {q0:Kd}(a:Y9)(b c d:Int)(e:List GState)(v10 v11:Bool)(h:List Int)(i j:Int):qW→Prop| .x0 f g=>Loops E 79 (an Tryz.f79 0) (bH q0 a b c d e v10 v11 h i j) (.exit 0) (ef q0 f g)
noncomputable def ch (a:List GState)(c:List Int)(d:Int):Nat→Bool→Bool→Int→Option qW
 | 0,_,_,_=>none
 |n+1,v10,v11,b=>match v10 with
  |true=>match v11 with
   |true=>cond (decide (b<d))
    ((ak c b).bind fun e=>(ak a e).bind fun g1=>ch a c d n (fU g1) true (inc b))
    (some (.x0 v10 v11))
   |false=>cond (decide (b<d))
    ((ak c b).bind fun e=>(ak a e).bind fun g1=>ch a c d n (fU g1) (fU g1) (inc b))
    (some (.x0 v10 v11))
  |false=>match v11 with
   |true=>cond (decide (b<d))
    ((ak c b).bind fun e=>(ak a e).bind fun g1=>ch a c d n false true (inc b))
    (some (.x0 v10 v11))
   |false=>cond (decide (b<d))
    ((ak c b).bind fun e=>(ak a e).bind fun g1=>ch a c d n false (fU g1) (inc b))
    (some (.x0 v10 v11))
theorem zt {q0:Kd}(b:Y9)(c d e:Int)(a:List GState)(g:List Int)(i:Int)(n:Nat):∀(v10 v11:Bool)(f:Int),Ans (ch a g i n v10 v11 f) (zu (q0:=q0) b c d e a v10 v11 g i f):=by
 induction n with
 |zero=>intros;exact Ans.none
 |succ n p =>
  intro v10 v11 f;unfold ch;cases v10 with
  |true =>
   cases v11 with
   |true =>
    apply VC<;>intro j
    ·apply VD;intro k l;apply VD;intro g1 m;have r:cZ (bH q0 b c d e a true true g i f) .normal (bH q0 b c d e a (fU g1) true g i (inc f)):=RP [.b true,.row (etI k),.row (VP g1),.ret [VY (fU g1)]] (AC j<|AG etI l<|AR VP m<|AD (vj g1)<|AN);exact(p (fU g1) true (inc f)).mono fun y o=>by cases y<;>exact VA r o
    ·exact Vz (VB (show cZ (bH q0 b c d e a true true g i f) (.exit 0) (ef q0 true true)from RP [.b false] (AC j<|AN)) (by intro h;cases h))
   |false =>
    apply VC<;>intro j
    ·apply VD;intro k l;apply VD;intro g1 m;have r:cZ (bH q0 b c d e a true false g i f) .normal (bH q0 b c d e a (fU g1) (fU g1) g i (inc f)):=RP [.b true,.row (etI k),.row (VP g1),.ret [VY (fU g1)]] (AC j<|AG etI l<|AR VP m<|AD (vj g1)<|AN);exact(p (fU g1) (fU g1) (inc f)).mono fun y o=>by cases y<;>exact VA r o
    ·exact Vz (VB (show cZ (bH q0 b c d e a true false g i f) (.exit 0) (ef q0 true false)from RP [.b false] (AC j<|AN)) (by intro h;cases h))
  |false =>
   cases v11 with
   |true =>
    apply VC<;>intro j
    ·apply VD;intro k l;apply VD;intro g1 m;have r:cZ (bH q0 b c d e a false true g i f) .normal (bH q0 b c d e a false true g i (inc f)):=RP [.b true,.row (etI k),.row (VP g1),.ret [VY (fU g1)]] (AC j<|AG etI l<|AR VP m<|AD (vj g1)<|AN);exact(p false true (inc f)).mono fun y o=>by cases y<;>exact VA r o
    ·exact Vz (VB (show cZ (bH q0 b c d e a false true g i f) (.exit 0) (ef q0 false true)from RP [.b false] (AC j<|AN)) (by intro h;cases h))
   |false =>
    apply VC<;>intro j
    ·apply VD;intro k l;apply VD;intro g1 m;have r:cZ (bH q0 b c d e a false false g i f) .normal (bH q0 b c d e a false (fU g1) g i (inc f)):=RP [.b true,.row (etI k),.row (VP g1),.ret [VY (fU g1)]] (AC j<|AG etI l<|AR VP m<|AD (vj g1)<|AN);exact(p false (fU g1) (inc f)).mono fun y o=>by cases y<;>exact VA r o
    ·exact Vz (VB (show cZ (bH q0 b c d e a false false g i f) (.exit 0) (ef q0 false false)from RP [.b false] (AC j<|AN)) (by intro h;cases h))
noncomputable def kh (c:GDag)(e:GRun)(d:Int):Option (Bool×Bool):=
  if ab.sm c then if aH c=true then if 0≤d∧d<(c.f5.length:Int)then(ch e.f3 (ups c d) ((ups c d).length:Int) 9223372036854775808 true false 0).bind fun y=>match y with
   | .x0 a b=>(some (a,b))else none else none else none
theorem Ay {q0:Kd}(x0:GDag)(b:GRun)(a:Int):Ans (kh x0 b a) (fun r=>Does E 79 [.agg (VK .far q0 x0),.agg (VM .far b),V2 a,.fni 114 []] [VY r.1,VY r.2]):=by
 unfold kh;apply VE;intro f;apply VE;intro g;apply VE;intro h;apply VD;intro y e;replace e:=zt (q0:=q0) b.f0 b.f1.f0 b.f1.f1 b.f2 b.f3 (ups x0 a) ((ups x0 a).length:Int) 9223372036854775808 true false 0 y e;cases y with
 |x0 c d =>have i:=e;exact Vz (DP Tryz.f79 [.ret [(false,[V7 1 ((ups x0 a).map etI)])],V5 ((ups x0 a).length:Int),.lp (.exit 0) (ef q0 c d)] (AV (ψ:=fun k=>E.C k 103 [.agg (VK .far q0 x0),V2 a]=some [(false,[V7 1 ((ups x0 a).map etI)])]) (NE x0 a f g h)<|ALn (ups x0 a) etI<|AL i<|AN))
def un (p:GState→Bool)(ts:List GState)(l:List Int):Bool:=l.all fun u=>match ak ts u with|some x=>p x|none=>false
def rI (p:GState→Bool)(ts:List GState)(l:List Int):Bool:=l.any fun u=>match ak ts u with|some x=>p x|none=>false
noncomputable def RS (p:GState→Bool)(d:GDag)(r:GRun)(i:Int):Bool×Bool:=(un p r.f3 (ups d i),rI p r.f3 (ups d i))
noncomputable def aN (d:GDag)(r:GRun)(i:Int):Bool×Bool:=RS eQ d r i
noncomputable def ct (d:GDag)(r:GRun)(i:Int):Bool×Bool:=RS fU d r i
noncomputable def aq (d:GDag)(r:GRun)(i:Int):Bool×Bool:=((aN d r i).1,(ct d r i).2)
theorem Hm (ts:List GState)(ax:List Int)(hf:∀x∈ax,0≤x∧x<(ts.length:Int))(i:ax.length≤1000):∀(m k n:Nat)(a b:Bool),k+m=ax.length→m<n →
  eI ts ax n a b (k:Int)=some (.x0 (a&&un eQ ts (ax.drop k)) (b ||rI fU ts (ax.drop k))) ∧
  ca ts ax (ax.length:Int) n a b (k:Int)=some (.x0 (a&&un eQ ts (ax.drop k)) (b ||rI eQ ts (ax.drop k))) ∧
  ch ts ax (ax.length:Int) n a b (k:Int)=some (.x0 (a&&un fU ts (ax.drop k)) (b ||rI fU ts (ax.drop k)))
 |m,k,0,a,b,_,g=>by omega
 | 0,k,n+1,a,b,j,g=>by have hd:ax.drop k=[]:=WV (by omega);have hc:decide ((k:Int)<(ax.length:Int))=false:=Wj (by omega);rw[hd];unfold eI ca ch;rw[hc];cases a<;>cases b<;>exact⟨rfl,rfl,rfl⟩
 |m+1,k,n+1,a,b,j,g=>by
  have c:k<ax.length:=by omega
  have hd:ax.drop k=ax[k]::ax.drop (k+1):=Xk c;have hc:decide ((k:Int)<(ax.length:Int))=true:=Wi (by omega);have l:ak ax (k:Int)=some ax[k]:=by rw[cp];exact Wg c
  obtain⟨x,d,_⟩:=cA (hf ax[k] (Xs _));have e:inc (k:Int)=((k+1:Nat):Int):=by rw[mN _ (by omega) (by omega)];omega
  have f:=fun a b=>Hm ts ax hf i m (k+1) n a b (by omega) (by omega)
  have h:∀p,un p ts (ax.drop k)=(p x&&un p ts (ax.drop (k+1))):=fun p=>by rw[hd];unfold un;rw[Xh,d]
  have hs:∀p,rI p ts (ax.drop k)=(p x ||rI p ts (ax.drop (k+1))):=fun p=>by rw[hd];unfold rI;rw[Y8,d]
  rw[h,h,hs,hs];have o:eQ x=(x.f0==2):=rfl;have q:fU x=(x.f0==3 ||x.f0==4):=rfl;unfold eI ca ch;cases a<;>cases b<;>simp only[hc,l,d,e,V9,Wn,(f _ _).1,(f _ _).2.1,(f _ _).2.2,o,q]<;>cases x.f0==2<;>cases x.f0==3<;>cases x.f0==4<;>simp
theorem LG (d:GDag)(r:GRun)(i:Int)(h:ab.sm d)(hd:aH d=true)(b:r.f3.length=d.f5.length)(hi:0≤i∧i<(d.f5.length:Int)):
  t7 d r i=some (aq d r i)∧jL d r i=some (aN d r i)∧kh d r i=some (ct d r i):=by
 obtain⟨c,f⟩:=Uf hd hi;obtain⟨a,a2,a3⟩:=Hm r.f3 (ups d i) (fun x e=>by rw[b];exact c x e) (by omega) (ups d i).length 0 9223372036854775808 true false (by omega) (by omega);rw[WK,WJ,YR]at a a2 a3;unfold t7 jL kh;refine⟨?_,?_,?_⟩
 ·rw[Wa h,Wa hd,Wa hi];exact(Wy (Option.bind · _) a).trans rfl
 ·rw[Wa h,Wa hd,Wa hi];exact(Wy (Option.bind · _) a2).trans rfl
 ·rw[Wa h,Wa hd,Wa hi];exact(Wy (Option.bind · _) a3).trans rfl
theorem a7 {q0:Kd}(a:GDag)(c:GRun)(b:Int)(h:ab.sm a)(hd:aH a=true)(d:c.f3.length=a.f5.length)(hi:0≤b∧b<(a.f5.length:Int)):Does E 62 [.agg (VK .far q0 a),.agg (VM .far c),V2 b] [VY ((aq a c b).1),VY ((aq a c b).2)]:=by exact P1 a c b _ (LG a c b h hd d hi).1
theorem bF {q0:Kd}(a:GDag)(c:GRun)(b:Int)(h:ab.sm a)(hd:aH a=true)(d:c.f3.length=a.f5.length)(hi:0≤b∧b<(a.f5.length:Int)):Does E 79 [.agg (VK .far q0 a),.agg (VM .far c),V2 b,.fni 80 []] [VY ((aN a c b).1),VY ((aN a c b).2)]:=by exact zw a c b _ (LG a c b h hd d hi).2.1
theorem gX {q0:Kd}(a:GDag)(c:GRun)(b:Int)(h:ab.sm a)(hd:aH a=true)(d:c.f3.length=a.f5.length)(hi:0≤b∧b<(a.f5.length:Int)):Does E 79 [.agg (VK .far q0 a),.agg (VM .far c),V2 b,.fni 114 []] [VY ((ct a c b).1),VY ((ct a c b).2)]:=by exact Ay a c b _ (LG a c b h hd d hi).2.2
noncomputable def rU (b:GDag)(d:GRun)(c:Int):Option (Bool):=(ak d.f3 c).bind fun a=>cond (ag a.f0 0 4) ((ak b.f5 c).bind fun g1=>cond (ag a.f1 0 (inc g1.f2)) (cond (ag a.f3 0 68374179) (cond (ag a.f2 0 1000000000) (cond (!((decide (a.f2>(0:Int)))==(a.f0==(1:Int)))) (some (false)) (if ab.sm b then if aH b=true then if d.f3.length=b.f5.length then if 0≤c∧c<(b.f5.length:Int)then cond (a.f0==(1:Int)) (some ((aN b d c).1)) (cond (a.f0==(2:Int)) (some ((aN b d c).1)) (cond (a.f0==(4:Int)) (some ((ct b d c).2)) (cond (a.f0==(0:Int)) (some (!((ct b d c).2))) (some (true)))))else none else none else none else none)) (some (false))) (some (false))) (some (false))) (some (false))
theorem MA {q0:Kd}(a:GDag)(b:GRun)(c:Int):Ans (rU a b c) (fun r=>Does E 97 [.agg (VK .far q0 a),.agg (VM .far b),V2 c] [VY r]):=by
 unfold rU;apply VD;intro d g;apply VC<;>intro h
 ·apply VD;intro g1 m;apply VC<;>intro n
  ·apply VC<;>intro p
   ·apply VC<;>intro q
    ·apply VC<;>intro t
     ·exact Vz (DP Tryz.f97 [.row (VP d),rT,.row ((VQ q0) g1),rT,rT,rT,.no,.no,.b true] (AR VP g<|AD (VH (ao d.f0 0 4) h)<|AR (VQ q0) m<|AD (VH (ao d.f1 0 (inc g1.f2)) n)<|AD (VH (ao d.f3 0 68374179) p)<|AD (VH (ao d.f2 0 1000000000) q)<|AC t<|AN))
     ·apply VE;intro i;apply VE;intro j;apply VE;intro l;apply VE;intro e;apply VC<;>intro f
      ·exact Vz (DP Tryz.f97 [.row (VP d),rT,.row ((VQ q0) g1),rT,rT,rT,.no,.no,.b false,.ret [VY ((aN a b c).1),VY ((aN a b c).2)],.ret [VY ((ct a b c).1),VY ((ct a b c).2)],.b true] (AR VP g<|AD (VH (ao d.f0 0 4) h)<|AR (VQ q0) m<|AD (VH (ao d.f1 0 (inc g1.f2)) n)<|AD (VH (ao d.f3 0 68374179) p)<|AD (VH (ao d.f2 0 1000000000) q)<|AC t<|AV (ψ:=fun k=>E.C k 79 [.agg (VK .far q0 a),.agg (VM .far b),V2 c,.fni 80 []]=some [VY ((aN a b c).1),VY ((aN a b c).2)]) (bF a b c i j l e)<|AV (ψ:=fun k=>E.C k 79 [.agg (VK .far q0 a),.agg (VM .far b),V2 c,.fni 114 []]=some [VY ((ct a b c).1),VY ((ct a b c).2)]) (gX a b c i j l e)<|AC f<|AN))
      ·apply VC<;>intro o
       ·exact Vz (DP Tryz.f97 [.row (VP d),rT,.row ((VQ q0) g1),rT,rT,rT,.no,.no,.b false,.ret [VY ((aN a b c).1),VY ((aN a b c).2)],.ret [VY ((ct a b c).1),VY ((ct a b c).2)],.b false,.b true] (AR VP g<|AD (VH (ao d.f0 0 4) h)<|AR (VQ q0) m<|AD (VH (ao d.f1 0 (inc g1.f2)) n)<|AD (VH (ao d.f3 0 68374179) p)<|AD (VH (ao d.f2 0 1000000000) q)<|AC t<|AV (ψ:=fun k=>E.C k 79 [.agg (VK .far q0 a),.agg (VM .far b),V2 c,.fni 80 []]=some [VY ((aN a b c).1),VY ((aN a b c).2)]) (bF a b c i j l e)<|AV (ψ:=fun k=>E.C k 79 [.agg (VK .far q0 a),.agg (VM .far b),V2 c,.fni 114 []]=some [VY ((ct a b c).1),VY ((ct a b c).2)]) (gX a b c i j l e)<|AC f<|AC o<|AN))
       ·apply VC<;>intro s
        ·exact Vz (DP Tryz.f97 [.row (VP d),rT,.row ((VQ q0) g1),rT,rT,rT,.no,.no,.b false,.ret [VY ((aN a b c).1),VY ((aN a b c).2)],.ret [VY ((ct a b c).1),VY ((ct a b c).2)],.b false,.b false,.b true] (AR VP g<|AD (VH (ao d.f0 0 4) h)<|AR (VQ q0) m<|AD (VH (ao d.f1 0 (inc g1.f2)) n)<|AD (VH (ao d.f3 0 68374179) p)<|AD (VH (ao d.f2 0 1000000000) q)<|AC t<|AV (ψ:=fun k=>E.C k 79 [.agg (VK .far q0 a),.agg (VM .far b),V2 c,.fni 80 []]=some [VY ((aN a b c).1),VY ((aN a b c).2)]) (bF a b c i j l e)<|AV (ψ:=fun k=>E.C k 79 [.agg (VK .far q0 a),.agg (VM .far b),V2 c,.fni 114 []]=some [VY ((ct a b c).1),VY ((ct a b c).2)]) (gX a b c i j l e)<|AC f<|AC o<|AC s<|AN))
        ·apply VC<;>intro u
         ·exact Vz (DP Tryz.f97 [.row (VP d),rT,.row ((VQ q0) g1),rT,rT,rT,.no,.no,.b false,.ret [VY ((aN a b c).1),VY ((aN a b c).2)],.ret [VY ((ct a b c).1),VY ((ct a b c).2)],.b false,.b false,.b false,.b true] (AR VP g<|AD (VH (ao d.f0 0 4) h)<|AR (VQ q0) m<|AD (VH (ao d.f1 0 (inc g1.f2)) n)<|AD (VH (ao d.f3 0 68374179) p)<|AD (VH (ao d.f2 0 1000000000) q)<|AC t<|AV (ψ:=fun k=>E.C k 79 [.agg (VK .far q0 a),.agg (VM .far b),V2 c,.fni 80 []]=some [VY ((aN a b c).1),VY ((aN a b c).2)]) (bF a b c i j l e)<|AV (ψ:=fun k=>E.C k 79 [.agg (VK .far q0 a),.agg (VM .far b),V2 c,.fni 114 []]=some [VY ((ct a b c).1),VY ((ct a b c).2)]) (gX a b c i j l e)<|AC f<|AC o<|AC s<|AC u<|AN))
         ·exact Vz (DP Tryz.f97 [.row (VP d),rT,.row ((VQ q0) g1),rT,rT,rT,.no,.no,.b false,.ret [VY ((aN a b c).1),VY ((aN a b c).2)],.ret [VY ((ct a b c).1),VY ((ct a b c).2)],.b false,.b false,.b false,.b false] (AR VP g<|AD (VH (ao d.f0 0 4) h)<|AR (VQ q0) m<|AD (VH (ao d.f1 0 (inc g1.f2)) n)<|AD (VH (ao d.f3 0 68374179) p)<|AD (VH (ao d.f2 0 1000000000) q)<|AC t<|AV (ψ:=fun k=>E.C k 79 [.agg (VK .far q0 a),.agg (VM .far b),V2 c,.fni 80 []]=some [VY ((aN a b c).1),VY ((aN a b c).2)]) (bF a b c i j l e)<|AV (ψ:=fun k=>E.C k 79 [.agg (VK .far q0 a),.agg (VM .far b),V2 c,.fni 114 []]=some [VY ((ct a b c).1),VY ((ct a b c).2)]) (gX a b c i j l e)<|AC f<|AC o<|AC s<|AC u<|AN))
    ·exact Vz (DP Tryz.f97 [.row (VP d),rT,.row ((VQ q0) g1),rT,rT,rF] (AR VP g<|AD (VH (ao d.f0 0 4) h)<|AR (VQ q0) m<|AD (VH (ao d.f1 0 (inc g1.f2)) n)<|AD (VH (ao d.f3 0 68374179) p)<|AD (VH (ao d.f2 0 1000000000) q)<|AN))
   ·exact Vz (DP Tryz.f97 [.row (VP d),rT,.row ((VQ q0) g1),rT,rF] (AR VP g<|AD (VH (ao d.f0 0 4) h)<|AR (VQ q0) m<|AD (VH (ao d.f1 0 (inc g1.f2)) n)<|AD (VH (ao d.f3 0 68374179) p)<|AN))
  ·exact Vz (DP Tryz.f97 [.row (VP d),rT,.row ((VQ q0) g1),rF] (AR VP g<|AD (VH (ao d.f0 0 4) h)<|AR (VQ q0) m<|AD (VH (ao d.f1 0 (inc g1.f2)) n)<|AN))
 ·exact Vz (DP Tryz.f97 [.row (VP d),rF] (AR VP g<|AD (VH (ao d.f0 0 4) h)<|AN))
inductive CF where|ret (v4:Bool)|x0
def ar (q0:Kd)(v2_0 v2_1:Y9)(v2_2 v2_3:Int)(v2_4:Bool)(a:List GTask)(b:Y9)(c d e:Int)(f:List GState)(v5:Int):US:=stL 121 [(2,.box () [tS v2_0,tS v2_1,tI v2_2,tI v2_3,tB v2_4,V8 5 (a.map (VQ q0))]),(3,.box () [tS b,tI c,tI d,tI e,V8 4 (f.map VP)]),(5,V2 v5)]
def aJ (q0:Kd)(a:Bool):US:=stL 121 [(4,V3 a)]
def oW (q0:Kd)  : US:=stL 121 []
abbrev aB:US→Exit→US→Prop:=Round E 59 (an Tryz.f59 0)
def Nr {q0:Kd}(v2_0 v2_1:Y9)(v2_2 v2_3:Int)(v2_4:Bool)(a:List GTask)(b:Y9)(c d e:Int)(f:List GState)(v5:Int):CF→Prop| .ret g=>Loops E 59 (an Tryz.f59 0) (ar q0 v2_0 v2_1 v2_2 v2_3 v2_4 a b c d e f v5) .ret (aJ q0 g)| .x0=>Loops E 59 (an Tryz.f59 0) (ar q0 v2_0 v2_1 v2_2 v2_3 v2_4 a b c d e f v5) (.exit 0) (oW q0)
end
end Go.Proofs.YtjikhkndmohepaaGreatDoor.Am
