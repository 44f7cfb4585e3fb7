/- Right sessions and plans, a part. -/
import Derived.Test.YtjikhkndmohepaaGreatDoorPlans
namespace Go.Proofs.YtjikhkndmohepaaGreatDoor.Am
open Go
set_option linter.unusedVariables false
set_option linter.unusedSimpArgs false
section
open Go.Proofs Classical
set_option maxRecDepth 100000
inductive zc where|x2 (v5:Int)
def gy (q0:Kd)(v1:Y9)(v2_0:List GSession)(v2_1:List GPlan)(v2_2:List GRun)(v2_3 v2_4 v5 v6 v7:Int):US:=stL 50 [(1,V4 v1),(2,.box () [V8 3 (v2_0.map VN),V8 9 (v2_1.map (VL q0 q0)),V8 5 (v2_2.map (VM q0)),tI v2_3,tI v2_4]),(5,V2 v5),(6,V2 v6),(7,V2 v7)]
def qF (q0:Kd)(v1:Y9)(v2_0:List GSession)(v2_1:List GPlan)(v2_2:List GRun)(v2_3 v2_4 v6 a:Int):US:=stL 50 [(1,V4 v1),(2,.box () [V8 3 (v2_0.map VN),V8 9 (v2_1.map (VL q0 q0)),V8 5 (v2_2.map (VM q0)),tI v2_3,tI v2_4]),(5,V2 a),(6,V2 v6)]
abbrev oN:US→Exit→US→Prop:=Round E 31 (an Tryz.f31 1)
def Ig {q0:Kd}(v1:Y9)(v2_0:List GSession)(v2_1:List GPlan)(v2_2:List GRun)(v2_3 v2_4 v5 v6 v7:Int):zc→Prop| .x2 a=>Loops E 31 (an Tryz.f31 1) (gy q0 v1 v2_0 v2_1 v2_2 v2_3 v2_4 v5 v6 v7) (.exit 2) (qF q0 v1 v2_0 v2_1 v2_2 v2_3 v2_4 v6 a)
noncomputable def fu (v1:Y9)(a:GRun):List GState→Nat→Int→Option zc|[],i,v5=>some (.x2 v5)|hd::rest,i,v5=>cond (a.f0.toList==v1.toList) (cond (hd.f0==(1:Int)) (fu v1 a rest (i+1) (inc v5)) (fu v1 a rest (i+1) v5)) (fu v1 a rest (i+1) v5)
theorem Ie {q0:Kd}(v1:Y9)(v2_0:List GSession)(v2_1:List GPlan)(v2_2:List GRun)(v2_3 v2_4 v6:Int)(a:GRun)(b:ak v2_2 v6=some a)(rest:List GState):∀(i:Nat)(v5:Int),(a.f3).drop i=rest→a.f3.length≤9223372036854775807→Ans (fu v1 a rest i v5) (Ig (q0:=q0) v1 v2_0 v2_1 v2_2 v2_3 v2_4 v5 v6 (i:Int)):=by
 induction rest with
 |nil =>intro i v5 d e;have hb:=aK d;unfold fu;exact Vz (VB (show oN (gy q0 v1 v2_0 v2_1 v2_2 v2_3 v2_4 v5 v6 (i:Int)) (.exit 2) (qF q0 v1 v2_0 v2_1 v2_2 v2_3 v2_4 v6 v5)from RP [.row ((VM q0) a),V5 (a.f3.length:Int),.b false] (AR (VM q0) b<|ALn a.f3 VP<|AC hb<|AN)) (by intro h;cases h))
 |cons hd rest g =>
  intro i v5 d e;have hb:=aF d;have j:=aG d e;have c:=au d;have l:=aE d;unfold fu;apply VC<;>intro k
  ·apply VC<;>intro m
   ·exact(g (i+1) (inc v5) c e).mono fun y f=>by have r:oN (gy q0 v1 v2_0 v2_1 v2_2 v2_3 v2_4 v5 v6 (i:Int)) .normal (gy q0 v1 v2_0 v2_1 v2_2 v2_3 v2_4 (inc v5) v6 (inc (i:Int))):=RP [.row ((VM q0) a),V5 (a.f3.length:Int),.b true,.row ((VM q0) a),.b true,.row ((VM q0) a),.row (VP hd),.b true] (AR (VM q0) b<|ALn a.f3 VP<|AC hb<|AR (VM q0) b<|AC k<|AR (VM q0) b<|AR VP l<|AC m<|AN);rw[j]at r;cases y<;>exact VA r f
   ·exact(g (i+1) v5 c e).mono fun y f=>by have r:oN (gy q0 v1 v2_0 v2_1 v2_2 v2_3 v2_4 v5 v6 (i:Int)) .normal (gy q0 v1 v2_0 v2_1 v2_2 v2_3 v2_4 v5 v6 (inc (i:Int))):=RP [.row ((VM q0) a),V5 (a.f3.length:Int),.b true,.row ((VM q0) a),.b true,.row ((VM q0) a),.row (VP hd),.b false] (AR (VM q0) b<|ALn a.f3 VP<|AC hb<|AR (VM q0) b<|AC k<|AR (VM q0) b<|AR VP l<|AC m<|AN);rw[j]at r;cases y<;>exact VA r f
  ·exact(g (i+1) v5 c e).mono fun y f=>by have r:oN (gy q0 v1 v2_0 v2_1 v2_2 v2_3 v2_4 v5 v6 (i:Int)) .normal (gy q0 v1 v2_0 v2_1 v2_2 v2_3 v2_4 v5 v6 (inc (i:Int))):=RP [.row ((VM q0) a),V5 (a.f3.length:Int),.b true,.row ((VM q0) a),.b false] (AR (VM q0) b<|ALn a.f3 VP<|AC hb<|AR (VM q0) b<|AC k<|AN);rw[j]at r;cases y<;>exact VA r f
inductive zb where|x0 (v5:Int)
def oO (q0:Kd)(v1:Y9)(v2_0:List GSession)(v2_1:List GPlan)(v2_2:List GRun)(v2_3 v2_4 v5 v6:Int):US:=stL 50 [(1,V4 v1),(2,.box () [V8 3 (v2_0.map VN),V8 9 (v2_1.map (VL q0 q0)),V8 5 (v2_2.map (VM q0)),tI v2_3,tI v2_4]),(5,V2 v5),(6,V2 v6)]
def qE (q0:Kd)(a:Int):US:=stL 50 [(5,V2 a)]
abbrev za:US→Exit→US→Prop:=Round E 31 (an Tryz.f31 0)
def If {q0:Kd}(v1:Y9)(v2_0:List GSession)(v2_1:List GPlan)(v2_2:List GRun)(v2_3 v2_4 v5 v6:Int):zb→Prop| .x0 a=>Loops E 31 (an Tryz.f31 0) (oO q0 v1 v2_0 v2_1 v2_2 v2_3 v2_4 v5 v6) (.exit 0) (qE q0 a)
noncomputable def iL (v1:Y9):List GRun→Nat→Int→Option zb
 |[],i,v5=>some (.x0 v5)
 |hd::rest,i,v5=>if hd.f3.length≤9223372036854775807 then(fu v1 hd hd.f3 0 v5).bind fun y=>match y with
  | .x2 a=>(iL v1 rest (i+1) a)else none
theorem Id {q0:Kd}(v1:Y9)(v2_0:List GSession)(v2_1:List GPlan)(v2_2:List GRun)(v2_3 v2_4:Int)(rest:List GRun):∀(i:Nat)(v5:Int),(v2_2).drop i=rest→v2_2.length≤9223372036854775807→Ans (iL v1 rest i v5) (If (q0:=q0) v1 v2_0 v2_1 v2_2 v2_3 v2_4 v5 (i:Int)):=by
 induction rest with
 |nil =>intro i v5 b d;have hb:=aK b;unfold iL;exact Vz (VB (show za (oO q0 v1 v2_0 v2_1 v2_2 v2_3 v2_4 v5 (i:Int)) (.exit 0) (qE q0 v5)from RP [V5 (v2_2.length:Int),.b false] (ALn v2_2 (VM q0)<|AC hb<|AN)) (by intro h;cases h))
 |cons hd rest g =>
  intro i v5 b d;have hb:=aF b;have j:=aG b d;have e:=au b;have k:=aE b;unfold iL;apply VE;intro f;apply VD;intro y c;replace c:=Ie (q0:=q0) v1 v2_0 v2_1 v2_2 v2_3 v2_4 (i:Int) hd k hd.f3 0 v5 rfl f y c;cases y with
  |x2 a =>have l:=c;exact(g (i+1) a e d).mono fun y c=>by have r:za (oO q0 v1 v2_0 v2_1 v2_2 v2_3 v2_4 v5 (i:Int)) .normal (oO q0 v1 v2_0 v2_1 v2_2 v2_3 v2_4 a (inc (i:Int))):=RP [V5 (v2_2.length:Int),.b true,.lp (.exit 2) (qF q0 v1 v2_0 v2_1 v2_2 v2_3 v2_4 (i:Int) a)] (ALn v2_2 (VM q0)<|AC hb<|AL l<|AN);rw[j]at r;cases y<;>exact VA r c
noncomputable def kT (b:GBoard)(c:Y9):Option (Int):=
  if b.f2.length≤9223372036854775807 then(iL c b.f2 0 0).bind fun y=>match y with
   | .x0 a=>(some (a))else none
theorem K2 {q0:Kd}(x0:GBoard)(b:Y9):Ans (kT x0 b) (fun r=>Does E 31 [.agg (VI .far q0 x0),V4 b] [VX r]):=by
 unfold kT;apply VE;intro c;apply VD;intro y d;replace d:=Id (q0:=q0) b x0.f0 x0.f1 x0.f2 x0.f3 x0.f4 x0.f2 0 0 rfl c y d;cases y with
 |x0 a =>have e:=d;exact Vz (DP Tryz.f31 [.lp (.exit 0) (qE q0 a)] (AL e<|AN))
inductive yR where|x2 (v5:Int)
def gn (q0:Kd)(v1:Y9)(v5:Int)(a:Y9)(b c d:Int)(e:List GState)(v11:List GRun)(f g:Int)(h:List GState)(i v20:Int):US:=stL 38 [(1,V4 v1),(5,V2 v5),(7,.box () [tS a,tI b,tI c,tI d,V8 4 (e.map VP)]),(11,.one (V8 5 (v11.map (VM q0)))),(12,V2 f),(13,V2 g),(18,.one (V8 4 (h.map VP))),(19,V2 i),(20,V2 v20)]
def pU (q0:Kd)(v1:Y9)(v11:List GRun)(a b c:Int):US:=stL 38 [(1,V4 v1),(5,V2 c),(11,.one (V8 5 (v11.map (VM q0)))),(12,V2 a),(13,V2 b)]
abbrev oA:US→Exit→US→Prop:=Round E 44 (an Tryz.f44 1)
def HC {q0:Kd}(v1:Y9)(v5:Int)(a:Y9)(b c d:Int)(e:List GState)(v11:List GRun)(f g:Int)(h:List GState)(i v20:Int):yR→Prop| .x2 j=>Loops E 44 (an Tryz.f44 1) (gn q0 v1 v5 a b c d e v11 f g h i v20) (.exit 2) (pU q0 v1 v11 f g j)
noncomputable def fk (v1 a:Y9):List GState→Nat→Int→Option yR|[],i,v5=>some (.x2 v5)|hd::rest,i,v5=>cond (a.toList==v1.toList) (cond (hd.f0==(1:Int)) (fk v1 a rest (i+1) (inc v5)) (fk v1 a rest (i+1) v5)) (fk v1 a rest (i+1) v5)
theorem HA {q0:Kd}(v1 b:Y9)(c d e:Int)(f:List GState)(v11:List GRun)(g j:Int)(a:List GState)(rest:List GState):∀(i:Nat)(v5:Int),(a).drop i=rest→a.length≤9223372036854775807→Ans (fk v1 b rest i v5) (HC (q0:=q0) v1 v5 b c d e f v11 g j a (a.length:Int) (i:Int)):=by
 induction rest with
 |nil =>intro i v5 l m;have hb:=aK l;unfold fk;exact Vz (VB (show oA (gn q0 v1 v5 b c d e f v11 g j a (a.length:Int) (i:Int)) (.exit 2) (pU q0 v1 v11 g j v5)from RP [.b false] (AC hb<|AN)) (by intro h;cases h))
 |cons hd rest o =>
  intro i v5 l m;have hb:=aF l;have p:=aG l m;have k:=au l;have q:=aE l;unfold fk;apply VC<;>intro s
  ·apply VC<;>intro t
   ·exact(o (i+1) (inc v5) k m).mono fun y n=>by have r:oA (gn q0 v1 v5 b c d e f v11 g j a (a.length:Int) (i:Int)) .normal (gn q0 v1 (inc v5) b c d e f v11 g j a (a.length:Int) (inc (i:Int))):=RP [.b true,.row (VP hd),.b true,.b true] (AC hb<|AR VP q<|AC s<|AC t<|AN);rw[p]at r;cases y<;>exact VA r n
   ·exact(o (i+1) v5 k m).mono fun y n=>by have r:oA (gn q0 v1 v5 b c d e f v11 g j a (a.length:Int) (i:Int)) .normal (gn q0 v1 v5 b c d e f v11 g j a (a.length:Int) (inc (i:Int))):=RP [.b true,.row (VP hd),.b true,.b false] (AC hb<|AR VP q<|AC s<|AC t<|AN);rw[p]at r;cases y<;>exact VA r n
  ·exact(o (i+1) v5 k m).mono fun y n=>by have r:oA (gn q0 v1 v5 b c d e f v11 g j a (a.length:Int) (i:Int)) .normal (gn q0 v1 v5 b c d e f v11 g j a (a.length:Int) (inc (i:Int))):=RP [.b true,.row (VP hd),.b false] (AC hb<|AR VP q<|AC s<|AN);rw[p]at r;cases y<;>exact VA r n
inductive yQ where|x0 (v5:Int)
def oB (q0:Kd)(v1:Y9)(v5:Int)(v11:List GRun)(a b:Int):US:=stL 38 [(1,V4 v1),(5,V2 v5),(11,.one (V8 5 (v11.map (VM q0)))),(12,V2 a),(13,V2 b)]
def pT (q0:Kd)(a:Int):US:=stL 38 [(5,V2 a)]
abbrev yP:US→Exit→US→Prop:=Round E 44 (an Tryz.f44 0)
def HB {q0:Kd}(v1:Y9)(v5:Int)(v11:List GRun)(a b:Int):yQ→Prop| .x0 c=>Loops E 44 (an Tryz.f44 0) (oB q0 v1 v5 v11 a b) (.exit 0) (pT q0 c)
noncomputable def iE (v1:Y9):List GRun→Nat→Int→Option yQ
 |[],i,v5=>some (.x0 v5)
 |hd::rest,i,v5=>if hd.f3.length≤9223372036854775807 then(fk v1 hd.f0 hd.f3 0 v5).bind fun y=>match y with
  | .x2 a=>(iE v1 rest (i+1) a)else none
theorem Hz {q0:Kd}(v1:Y9)(v11:List GRun)(rest:List GRun):∀(i:Nat)(v5:Int),(v11).drop i=rest→v11.length≤9223372036854775807→Ans (iE v1 rest i v5) (HB (q0:=q0) v1 v5 v11 (v11.length:Int) (i:Int)):=by
 induction rest with
 |nil =>intro i v5 b d;have hb:=aK b;unfold iE;exact Vz (VB (show yP (oB q0 v1 v5 v11 (v11.length:Int) (i:Int)) (.exit 0) (pT q0 v5)from RP [.b false] (AC hb<|AN)) (by intro h;cases h))
 |cons hd rest g =>
  intro i v5 b d;have hb:=aF b;have j:=aG b d;have e:=au b;have k:=aE b;unfold iE;apply VE;intro f;apply VD;intro y c;replace c:=HA (q0:=q0) v1 hd.f0 hd.f1.f0 hd.f1.f1 hd.f2 hd.f3 v11 (v11.length:Int) (i:Int) hd.f3 hd.f3 0 v5 rfl f y c;cases y with
  |x2 a =>have l:=c;exact(g (i+1) a e d).mono fun y c=>by have r:yP (oB q0 v1 v5 v11 (v11.length:Int) (i:Int)) .normal (oB q0 v1 a v11 (v11.length:Int) (inc (i:Int))):=RP [.b true,.row ((VM q0) hd),V5 (hd.f3.length:Int),.lp (.exit 2) (pU q0 v1 v11 (v11.length:Int) (i:Int) a)] (AC hb<|AR (VM q0) k<|ALn hd.f3 VP<|AL l<|AN);rw[j]at r;cases y<;>exact VA r c
noncomputable def mJ (b:GBoard)(c:Y9):Option (Int):=
  if b.f2.length≤9223372036854775807 then(iE c b.f2 0 0).bind fun y=>match y with
   | .x0 a=>(some (a))else none
theorem JQ {q0:Kd}(x0:GBoard)(b:Y9):Ans (mJ x0 b) (fun r=>Does E 44 [.agg (VI .far q0 x0),V4 b] [VX r]):=by
 unfold mJ;apply VE;intro c;apply VD;intro y d;replace d:=Hz (q0:=q0) b x0.f2 x0.f2 0 0 rfl c y d;cases y with
 |x0 a =>have e:=d;exact Vz (DP Tryz.f44 [V5 (x0.f2.length:Int),.lp (.exit 0) (pT q0 a)] (ALn x0.f2 (VM q0)<|AL e<|AN))
noncomputable def aO (b:GBoard)(n:Y9):Int:=(kT b n).getD 0
theorem NJ (a:Y9)(g:GRun):∀(rest:List GState)(i:Nat)(v:Int),∃r,fu a g rest i v=some (.x2 r)∧fk a g.f0 rest i v=some (.x2 r)
 |[],i,v=>⟨v,rfl,rfl⟩
 |x::rest,i,v=>by have b:=NJ a g rest;unfold fu fk;cases g.f0.toList==a.toList<;>cases x.f0==1<;>exact b _ _
theorem NI (a:Y9):∀(rest:List GRun)(i:Nat)(v:Int),(∀y∈rest,ab.sm y)→∃r,iL a rest i v=some (.x0 r)∧iE a rest i v=some (.x0 r)
 |[],i,v,_=>⟨v,rfl,rfl⟩
 |x::rest,i,v,h=>by have b:=bM (h x (by simp)).2.2;obtain⟨r,c,d⟩:=NJ a x x.f3 0 v;unfold iL iE;simp only[Wa b,c,d,V9];exact NI a rest _ _ fun y e=>h y (by simp[e])
theorem GI (b:GBoard)(n:Y9)(h:ab.sm b):kT b n=some (aO b n)∧mJ b n=some (aO b n):=by
 obtain⟨r,c,d⟩:=NI n b.f2 0 0 h.2.2.2;have a:=bM h.2.2;have e:kT b n=some r:=by unfold kT;rw[Wa a,c];rfl
 have f:mJ b n=some r:=by unfold mJ;rw[Wa a,d];rfl
 have g:aO b n=r:=by unfold aO;rw[e];rfl
 rw[g];exact⟨e,f⟩
theorem gY {q0:Kd}(a:GBoard)(b:Y9)(h:ab.sm a):Does E 31 [.agg (VI .far q0 a),V4 b] [VX (aO a b)]:=by exact K2 a b _ (GI a b h).1
theorem jv {q0:Kd}(a:GBoard)(b:Y9)(h:ab.sm a):Does E 44 [.agg (VI .far q0 a),V4 b] [VX (aO a b)]:=by exact JQ a b _ (GI a b h).2
inductive Cy where|ret (v4:Int)|x0
def l5 (q0:Kd)(v1:Y9)(v2_0:List GSession)(v2_1:List GPlan)(v2_2:List GRun)(v2_3 v2_4 v5:Int):US:=stL 23 [(1,V4 v1),(2,.box () [V8 3 (v2_0.map VN),V8 9 (v2_1.map (VL q0 q0)),V8 5 (v2_2.map (VM q0)),tI v2_3,tI v2_4]),(5,V2 v5)]
def rC (q0:Kd)(a:Int):US:=stL 23 [(4,V2 a)]
def tf (q0:Kd)  : US:=stL 23 []
abbrev wC:US→Exit→US→Prop:=Round E 30 (an Tryz.f30 0)
def Nd {q0:Kd}(v1:Y9)(v2_0:List GSession)(v2_1:List GPlan)(v2_2:List GRun)(v2_3 v2_4 v5:Int):Cy→Prop| .ret a=>Loops E 30 (an Tryz.f30 0) (l5 q0 v1 v2_0 v2_1 v2_2 v2_3 v2_4 v5) .ret (rC q0 a)| .x0=>Loops E 30 (an Tryz.f30 0) (l5 q0 v1 v2_0 v2_1 v2_2 v2_3 v2_4 v5) (.exit 0) (tf q0)
noncomputable def jd (v1:Y9):List GPlan→Nat→Option Cy|[],i=>some (.x0)|hd::rest,i=>cond (hd.f0.f0.toList==v1.toList) (some (.ret (i:Int))) (jd v1 rest (i+1))
theorem Nc {q0:Kd}(v1:Y9)(v2_0:List GSession)(v2_1:List GPlan)(v2_2:List GRun)(v2_3 v2_4:Int)(rest:List GPlan):∀(i:Nat) ,(v2_1).drop i=rest→v2_1.length≤9223372036854775807→Ans (jd v1 rest i) (Nd (q0:=q0) v1 v2_0 v2_1 v2_2 v2_3 v2_4 (i:Int)):=by
 induction rest with
 |nil =>intro i a b;have hb:=aK a;unfold jd;exact Vz (VB (show wC (l5 q0 v1 v2_0 v2_1 v2_2 v2_3 v2_4 (i:Int)) (.exit 0) (tf q0)from RP [V5 (v2_1.length:Int),.b false] (ALn v2_1 (VL q0 q0)<|AC hb<|AN)) (by intro h;cases h))
 |cons hd rest f =>
  intro i a b;have hb:=aF a;have g:=aG a b;have c:=au a;have d:=aE a;unfold jd;apply VC<;>intro e
  ·exact Vz (VB (show wC (l5 q0 v1 v2_0 v2_1 v2_2 v2_3 v2_4 (i:Int)) .ret (rC q0 (i:Int))from RP [V5 (v2_1.length:Int),.b true,.row ((VL q0 q0) hd),.b true] (ALn v2_1 (VL q0 q0)<|AC hb<|AR (VL q0 q0) d<|AC e<|AN)) (by intro h;cases h))
  ·exact(f (i+1) c b).mono fun y j=>by have r:wC (l5 q0 v1 v2_0 v2_1 v2_2 v2_3 v2_4 (i:Int)) .normal (l5 q0 v1 v2_0 v2_1 v2_2 v2_3 v2_4 (inc (i:Int))):=RP [V5 (v2_1.length:Int),.b true,.row ((VL q0 q0) hd),.b false] (ALn v2_1 (VL q0 q0)<|AC hb<|AR (VL q0 q0) d<|AC e<|AN);rw[g]at r;cases y<;>exact VA r j
noncomputable def tX (b:GBoard)(c:Y9):Option (Int):=
  if b.f1.length≤9223372036854775807 then(jd c b.f1 0).bind fun y=>match y with
   | .ret a=>(some (a))
   | .x0=>(some ((-1:Int)))else none
theorem PS {q0:Kd}(x0:GBoard)(c:Y9):Ans (tX x0 c) (fun r=>Does E 30 [.agg (VI .far q0 x0),V4 c] [VX r]):=by
 unfold tX;apply VE;intro d;apply VD;intro y b;replace b:=Nc (q0:=q0) c x0.f0 x0.f1 x0.f2 x0.f3 x0.f4 x0.f1 0 rfl d y b;cases y with
 |ret a =>have e:=b;exact Vz (DP Tryz.f30 [.lp .ret (rC q0 a)] (AL e<|AN))
 |x0 =>have e:=b;exact Vz (DP Tryz.f30 [.lp (.exit 0) (tf q0)] (AL e<|AN))
noncomputable def Ap (a:GPlan)(b:Y9):Option (Bool):=some (a.f0.f0.toList==b.toList)
theorem J1 {q0:Kd}(a:GPlan)(b:Y9):Ans (Ap a b) (fun r=>Does E 74 [.agg (VL .far q0 a),.im .far () [tS b] 0] [VY r]):=by unfold Ap;exact Vz (DP Tryz.f74 [] AN)
def FM (x:GPlan)(n:Y9):Bool:=x.f0.f0.toList==n.toList
theorem zE {q0:Kd}(a:GPlan)(b:Y9):Does E 74 [.agg (VL .far q0 a),.im .far () [tS b] 0] [VY (FM a b)]:=by exact J1 a b _ rfl
inductive iB where|ret (v4:Int)|x0
def bN (q0:Kd)(v0:List GPlan)(a:Y9)(v7 v8:Int):US:=stL 19 [(0,.one (V8 9 (v0.map (VL q0 q0)))),(1,.fni 74 [((),[tS a])]),(7,V2 v7),(8,V2 v8)]
def dR (q0:Kd)(a:Int):US:=stL 19 [(4,V2 a)]
def d8 (q0:Kd)  : US:=stL 19 []
abbrev eM:US→Exit→US→Prop:=Round E 73 (an Tryz.f73 0)
def nK {q0:Kd}(v0:List GPlan)(a:Y9)(v7 v8:Int):iB→Prop| .ret b=>Loops E 73 (an Tryz.f73 0) (bN q0 v0 a v7 v8) .ret (dR q0 b)| .x0=>Loops E 73 (an Tryz.f73 0) (bN q0 v0 a v7 v8) (.exit 0) (d8 q0)
noncomputable def be (a:Y9):List GPlan→Nat→Option iB|[],i=>some (.x0)|hd::rest,i=>cond (FM hd a) (some (.ret (i:Int))) (be a rest (i+1))
theorem nJ {q0:Kd}(v0:List GPlan)(a:Y9)(rest:List GPlan):∀(i:Nat) ,(v0).drop i=rest→v0.length≤9223372036854775807→Ans (be a rest i) (nK (q0:=q0) v0 a (v0.length:Int) (i:Int)):=by
 induction rest with
 |nil =>intro i b c;have hb:=aK b;unfold be;exact Vz (VB (show eM (bN q0 v0 a (v0.length:Int) (i:Int)) (.exit 0) (d8 q0)from RP [.b false] (AC hb<|AN)) (by intro h;cases h))
 |cons hd rest g =>
  intro i b c;have hb:=aF b;have j:=aG b c;have d:=au b;have e:=aE b;unfold be;apply VC<;>intro f
  ·exact Vz (VB (show eM (bN q0 v0 a (v0.length:Int) (i:Int)) .ret (dR q0 (i:Int))from RP [.b true,.row ((VL q0 q0) hd),rT] (AC hb<|AR (VL q0 q0) e<|AV (ψ:=fun k=>E.C k 74 [.agg (VL .far q0 hd),.im .far () [tS a] 0]=some [VY true]) (VF (zE hd a) (by rw[f]))<|AN)) (by intro h;cases h))
  ·exact(g (i+1) d c).mono fun y l=>by have r:eM (bN q0 v0 a (v0.length:Int) (i:Int)) .normal (bN q0 v0 a (v0.length:Int) (inc (i:Int))):=RP [.b true,.row ((VL q0 q0) hd),rF] (AC hb<|AR (VL q0 q0) e<|AV (ψ:=fun k=>E.C k 74 [.agg (VL .far q0 hd),.im .far () [tS a] 0]=some [VY false]) (VF (zE hd a) (by rw[f]))<|AN);rw[j]at r;cases y<;>exact VA r l
noncomputable def cm (c:List GPlan)(a:Y9):Option (Int):=
  if c.length≤9223372036854775807 then(be a c 0).bind fun y=>match y with
   | .ret b=>(some (b))
   | .x0=>(some ((-1:Int)))else none
theorem oe {q0:Kd}(x0:List GPlan)(a:Y9):Ans (cm x0 a) (fun r=>Does E 73 [.one (V8 9 (x0.map (VL q0 q0))),.fni 74 [((),[tS a])]] [VX r]):=by
 unfold cm;apply VE;intro d;apply VD;intro y c;replace c:=nJ (q0:=q0) x0 a x0 0 rfl d y c;cases y with
 |ret b =>have e:=c;exact Vz (DP Tryz.f73 [V5 (x0.length:Int),.lp .ret (dR q0 b)] (ALn x0 (VL q0 q0)<|AL e<|AN))
 |x0 =>have e:=c;exact Vz (DP Tryz.f73 [V5 (x0.length:Int),.lp (.exit 0) (d8 q0)] (ALn x0 (VL q0 q0)<|AL e<|AN))
noncomputable def ue (l:List GPlan)(n:Y9):Int:=(cm l n).getD (-1)
noncomputable def ap (b:GBoard)(n:Y9):Int:=ue b.f1 n
theorem Ru (n:Y9):∀(rest:List GPlan)(i:Nat),
  (∃k:Nat,jd n rest i=some (.ret (k:Int))∧be n rest i=some (.ret (k:Int))∧k<i+rest.length)∨jd n rest i=some .x0∧be n rest i=some .x0
 |[],i=>.inr ⟨rfl,rfl⟩
 |x::rest,i=>by
  unfold jd be FM;cases x.f0.f0.toList==n.toList with
  |true=>exact .inl ⟨i,rfl,rfl,by simp⟩
  |false =>
   rcases Ru n rest (i+1)with⟨k,a,b,c⟩|h
   ·exact .inl ⟨k,a,b,by simp;omega⟩
   ·exact .inr h
theorem xm (b:GBoard)(n:Y9)(h:b.f1.length≤1050000):tX b n=some (ap b n)∧cm b.f1 n=some (ap b n) ∧ -1≤ap b n∧ap b n<(b.f1.length:Int):=by
 unfold ap ue tX cm;rw[Wa (by omega),Wa (by omega)];rcases Ru n b.f1 0 with⟨k,a,c,d⟩|⟨a,c⟩
 ·rw[a,c];exact⟨rfl,rfl,show(-1:Int)≤(k:Int) by omega,show(k:Int)<_ by omega⟩
 ·rw[a,c];exact⟨rfl,rfl,show(-1:Int) ≤ -1 by omega,show(-1:Int)<_ by omega⟩
theorem c7 {q0:Kd}(a:GBoard)(b:Y9)(h:ab.sm a):Does E 30 [.agg (VI .far q0 a),V4 b] [VX (ap a b)]:=by exact PS a b _ (xm a b h.2.1.1).1
theorem nR {q0:Kd}(b:List GPlan)(a:Y9)(h:b.length≤1050000):Does E 73 [.one (V8 9 (b.map (VL q0 q0))),.fni 74 [((),[tS a])]] [VX (ue b a)]:=by exact oe b a _ (xm ⟨[],b,[],0,0⟩ a h).2.1
noncomputable def xZ (a:GBoard)(b:Y9):Option (Int):=if a.f1.length≤1050000 then some (ue a.f1 b)else none
theorem O2 {q0:Kd}(a:GBoard)(b:Y9):Ans (xZ a b) (fun r=>Does E 47 [.agg (VI .far q0 a),V4 b] [VX r]):=by unfold xZ;apply VE;intro c;exact Vz (DP Tryz.f47 [.ret [VX (ue a.f1 b)]] (AV (ψ:=fun k=>E.C k 73 [.one (V8 9 (a.f1.map (VL q0 q0))),.fni 74 [((),[tS b])]]=some [VX (ue a.f1 b)]) (nR a.f1 b c)<|AN))
theorem dV {q0:Kd}(a:GBoard)(b:Y9)(h:ab.sm a):Does E 47 [.agg (VI .far q0 a),V4 b] [VX (ap a b)]:=by exact O2 a b _ (by unfold xZ;rw[Wa h.2.1.1];rfl)
inductive CB where|x2 (v5:Int)
def fg (q0:Kd)(v1:Y9)(v2_0:List GSession)(v2_1:List GPlan)(v2_2:List GRun)(v2_3 v2_4 v5 v6 v7 v8:Int):US:=stL 80 [(1,V4 v1),(2,.box () [V8 3 (v2_0.map VN),V8 9 (v2_1.map (VL q0 q0)),V8 5 (v2_2.map (VM q0)),tI v2_3,tI v2_4]),(5,V2 v5),(6,V2 v6),(7,V2 v7),(8,V2 v8)]
def oQ (q0:Kd)(v1:Y9)(v2_0:List GSession)(v2_1:List GPlan)(v2_2:List GRun)(v2_3 v2_4 v6 a:Int):US:=stL 80 [(1,V4 v1),(2,.box () [V8 3 (v2_0.map VN),V8 9 (v2_1.map (VL q0 q0)),V8 5 (v2_2.map (VM q0)),tI v2_3,tI v2_4]),(5,V2 a),(6,V2 v6)]
abbrev l6:US→Exit→US→Prop:=Round E 29 (an Tryz.f29 1)
def Ni {q0:Kd}(v1:Y9)(v2_0:List GSession)(v2_1:List GPlan)(v2_2:List GRun)(v2_3 v2_4 v5 v6 v7 v8:Int):CB→Prop| .x2 a=>Loops E 29 (an Tryz.f29 1) (fg q0 v1 v2_0 v2_1 v2_2 v2_3 v2_4 v5 v6 v7 v8) (.exit 2) (oQ q0 v1 v2_0 v2_1 v2_2 v2_3 v2_4 v6 a)
noncomputable def cC (v1:Y9)(v2_1:List GPlan)(v7:Int):List GState→Nat→Int→Option CB|[],i,v5=>some (.x2 v5)|hd::rest,i,v5=>cond (decide (v7≥(0:Int))) (cond (hd.f0==(1:Int)) ((ak v2_1 v7).bind fun a=>cond (decide ((i:Int)<(a.f0.f5.length:Int))) ((ak a.f0.f5 (i:Int)).bind fun g3=>cond (g3.f1.toList==v1.toList) (cC v1 v2_1 v7 rest (i+1) (inc v5)) (cC v1 v2_1 v7 rest (i+1) v5)) (cC v1 v2_1 v7 rest (i+1) v5)) (cC v1 v2_1 v7 rest (i+1) v5)) (some (.x2 v5))
theorem Ng {q0:Kd}(v1:Y9)(v2_0:List GSession)(v2_1:List GPlan)(v2_2:List GRun)(v2_3 v2_4 v6 v7:Int)(a:GRun)(b:ak v2_2 v6=some a)(rest:List GState):∀(i:Nat)(v5:Int),(a.f3).drop i=rest→a.f3.length≤9223372036854775807→Ans (cC v1 v2_1 v7 rest i v5) (Ni (q0:=q0) v1 v2_0 v2_1 v2_2 v2_3 v2_4 v5 v6 v7 (i:Int)):=by
 induction rest with
 |nil =>intro i v5 f g;have hb:=aK f;unfold cC;exact Vz (VB (show l6 (fg q0 v1 v2_0 v2_1 v2_2 v2_3 v2_4 v5 v6 v7 (i:Int)) (.exit 2) (oQ q0 v1 v2_0 v2_1 v2_2 v2_3 v2_4 v6 v5)from RP [.row ((VM q0) a),V5 (a.f3.length:Int),.b false] (AR (VM q0) b<|ALn a.f3 VP<|AC hb<|AN)) (by intro h;cases h))
 |cons hd rest l =>
  intro i v5 f g;have hb:=aF f;have m:=aG f g;have d:=au f;have n:=aE f;unfold cC;apply VC<;>intro j
  ·apply VC<;>intro o
   ·apply VD;intro c k;apply VC<;>intro p
    ·apply VD;intro g3 q;apply VC<;>intro s
     ·exact(l (i+1) (inc v5) d g).mono fun y e=>by have r:l6 (fg q0 v1 v2_0 v2_1 v2_2 v2_3 v2_4 v5 v6 v7 (i:Int)) .normal (fg q0 v1 v2_0 v2_1 v2_2 v2_3 v2_4 (inc v5) v6 v7 (inc (i:Int))):=RP [.row ((VM q0) a),V5 (a.f3.length:Int),.b true,.b true,.row ((VM q0) a),.row (VP hd),.b true,.row ((VL q0 q0) c),V5 (c.f0.f5.length:Int),.b true,.row ((VL q0 q0) c),.row ((VQ q0) g3),.b true] (AR (VM q0) b<|ALn a.f3 VP<|AC hb<|AC j<|AR (VM q0) b<|AR VP n<|AC o<|AR (VL q0 q0) k<|ALn c.f0.f5 (VQ q0)<|AC p<|AR (VL q0 q0) k<|AR (VQ q0) q<|AC s<|AN);rw[m]at r;cases y<;>exact VA r e
     ·exact(l (i+1) v5 d g).mono fun y e=>by have r:l6 (fg q0 v1 v2_0 v2_1 v2_2 v2_3 v2_4 v5 v6 v7 (i:Int)) .normal (fg q0 v1 v2_0 v2_1 v2_2 v2_3 v2_4 v5 v6 v7 (inc (i:Int))):=RP [.row ((VM q0) a),V5 (a.f3.length:Int),.b true,.b true,.row ((VM q0) a),.row (VP hd),.b true,.row ((VL q0 q0) c),V5 (c.f0.f5.length:Int),.b true,.row ((VL q0 q0) c),.row ((VQ q0) g3),.b false] (AR (VM q0) b<|ALn a.f3 VP<|AC hb<|AC j<|AR (VM q0) b<|AR VP n<|AC o<|AR (VL q0 q0) k<|ALn c.f0.f5 (VQ q0)<|AC p<|AR (VL q0 q0) k<|AR (VQ q0) q<|AC s<|AN);rw[m]at r;cases y<;>exact VA r e
    ·exact(l (i+1) v5 d g).mono fun y e=>by have r:l6 (fg q0 v1 v2_0 v2_1 v2_2 v2_3 v2_4 v5 v6 v7 (i:Int)) .normal (fg q0 v1 v2_0 v2_1 v2_2 v2_3 v2_4 v5 v6 v7 (inc (i:Int))):=RP [.row ((VM q0) a),V5 (a.f3.length:Int),.b true,.b true,.row ((VM q0) a),.row (VP hd),.b true,.row ((VL q0 q0) c),V5 (c.f0.f5.length:Int),.b false] (AR (VM q0) b<|ALn a.f3 VP<|AC hb<|AC j<|AR (VM q0) b<|AR VP n<|AC o<|AR (VL q0 q0) k<|ALn c.f0.f5 (VQ q0)<|AC p<|AN);rw[m]at r;cases y<;>exact VA r e
   ·exact(l (i+1) v5 d g).mono fun y e=>by have r:l6 (fg q0 v1 v2_0 v2_1 v2_2 v2_3 v2_4 v5 v6 v7 (i:Int)) .normal (fg q0 v1 v2_0 v2_1 v2_2 v2_3 v2_4 v5 v6 v7 (inc (i:Int))):=RP [.row ((VM q0) a),V5 (a.f3.length:Int),.b true,.b true,.row ((VM q0) a),.row (VP hd),.b false] (AR (VM q0) b<|ALn a.f3 VP<|AC hb<|AC j<|AR (VM q0) b<|AR VP n<|AC o<|AN);rw[m]at r;cases y<;>exact VA r e
  ·exact Vz (VB (show l6 (fg q0 v1 v2_0 v2_1 v2_2 v2_3 v2_4 v5 v6 v7 (i:Int)) (.exit 2) (oQ q0 v1 v2_0 v2_1 v2_2 v2_3 v2_4 v6 v5)from RP [.row ((VM q0) a),V5 (a.f3.length:Int),.b true,.b false] (AR (VM q0) b<|ALn a.f3 VP<|AC hb<|AC j<|AN)) (by intro h;cases h))
inductive CA where|x0 (v5:Int)
def r8 (q0:Kd)(v1:Y9)(v2_0:List GSession)(v2_1:List GPlan)(v2_2:List GRun)(v2_3 v2_4 v5 v6:Int):US:=stL 80 [(1,V4 v1),(2,.box () [V8 3 (v2_0.map VN),V8 9 (v2_1.map (VL q0 q0)),V8 5 (v2_2.map (VM q0)),tI v2_3,tI v2_4]),(5,V2 v5),(6,V2 v6)]
def tg (q0:Kd)(a:Int):US:=stL 80 [(5,V2 a)]
abbrev Cz:US→Exit→US→Prop:=Round E 29 (an Tryz.f29 0)
def Nh {q0:Kd}(v1:Y9)(v2_0:List GSession)(v2_1:List GPlan)(v2_2:List GRun)(v2_3 v2_4 v5 v6:Int):CA→Prop| .x0 a=>Loops E 29 (an Tryz.f29 0) (r8 q0 v1 v2_0 v2_1 v2_2 v2_3 v2_4 v5 v6) (.exit 0) (tg q0 a)
noncomputable def gU (v1:Y9)(v2_0:List GSession)(v2_1:List GPlan)(v2_2:List GRun)(v2_3 v2_4:Int):List GRun→Nat→Int→Option CA
 |[],i,v5=>some (.x0 v5)
 |hd::rest,i,v5=>if ab.sm (GBoard.mk v2_0 v2_1 v2_2 v2_3 v2_4)then if hd.f3.length≤9223372036854775807 then(cC v1 v2_1 (ap (GBoard.mk v2_0 v2_1 v2_2 v2_3 v2_4) hd.f0) hd.f3 0 v5).bind fun y=>match y with
  | .x2 a=>(gU v1 v2_0 v2_1 v2_2 v2_3 v2_4 rest (i+1) a)else none else none
theorem Nf {q0:Kd}(v1:Y9)(v2_0:List GSession)(v2_1:List GPlan)(v2_2:List GRun)(v2_3 v2_4:Int)(rest:List GRun):∀(i:Nat)(v5:Int),(v2_2).drop i=rest→v2_2.length≤9223372036854775807→Ans (gU v1 v2_0 v2_1 v2_2 v2_3 v2_4 rest i v5) (Nh (q0:=q0) v1 v2_0 v2_1 v2_2 v2_3 v2_4 v5 (i:Int)):=by
 induction rest with
 |nil =>intro i v5 b d;have hb:=aK b;unfold gU;exact Vz (VB (show Cz (r8 q0 v1 v2_0 v2_1 v2_2 v2_3 v2_4 v5 (i:Int)) (.exit 0) (tg q0 v5)from RP [V5 (v2_2.length:Int),.b false] (ALn v2_2 (VM q0)<|AC hb<|AN)) (by intro h;cases h))
 |cons hd rest j =>
  intro i v5 b d;have hb:=aF b;have l:=aG b d;have e:=au b;have g:=aE b;unfold gU;apply VE;intro m;apply VE;intro f;apply VD;intro y c;replace c:=Ng (q0:=q0) v1 v2_0 v2_1 v2_2 v2_3 v2_4 (i:Int) (ap (GBoard.mk v2_0 v2_1 v2_2 v2_3 v2_4) hd.f0) hd g hd.f3 0 v5 rfl f y c;cases y with
  |x2 a =>have n:=c;exact(j (i+1) a e d).mono fun y c=>by have r:Cz (r8 q0 v1 v2_0 v2_1 v2_2 v2_3 v2_4 v5 (i:Int)) .normal (r8 q0 v1 v2_0 v2_1 v2_2 v2_3 v2_4 a (inc (i:Int))):=RP [V5 (v2_2.length:Int),.b true,.row ((VM q0) hd),.ret [VX (ap (GBoard.mk v2_0 v2_1 v2_2 v2_3 v2_4) hd.f0)],.lp (.exit 2) (oQ q0 v1 v2_0 v2_1 v2_2 v2_3 v2_4 (i:Int) a)] (ALn v2_2 (VM q0)<|AC hb<|AR (VM q0) g<|AV (ψ:=fun k=>E.C k 30 [.agg (VI .far q0 (GBoard.mk v2_0 v2_1 v2_2 v2_3 v2_4)),V4 hd.f0]=some [VX (ap (GBoard.mk v2_0 v2_1 v2_2 v2_3 v2_4) hd.f0)]) (c7 (GBoard.mk v2_0 v2_1 v2_2 v2_3 v2_4) hd.f0 m)<|AL n<|AN);rw[l]at r;cases y<;>exact VA r c
noncomputable def lB (a:GBoard)(c:Y9):Option (Int):=
  if a.f2.length≤9223372036854775807 then(gU c a.f0 a.f1 a.f2 a.f3 a.f4 a.f2 0 0).bind fun y=>match y with
   | .x0 b=>(some (b))else none
theorem PT {q0:Kd}(x0:GBoard)(b:Y9):Ans (lB x0 b) (fun r=>Does E 29 [.agg (VI .far q0 x0),V4 b] [VX r]):=by
 unfold lB;apply VE;intro c;apply VD;intro y d;replace d:=Nf (q0:=q0) b x0.f0 x0.f1 x0.f2 x0.f3 x0.f4 x0.f2 0 0 rfl c y d;cases y with
 |x0 a =>have e:=d;exact Vz (DP Tryz.f29 [.lp (.exit 0) (tg q0 a)] (AL e<|AN))
inductive B9 where|x2 (v5:Int)
def iV (q0:Kd)(v1:Y9)(v2_0:List GSession)(v2_1:List GPlan)(v2_2:List GRun)(v2_3 v2_4 v5:Int)(v9:List GTask)(a:List GRun)(b c:Int)(d:List GState)(e f:Int):US:=stL 64 [(1,V4 v1),(2,.box () [V8 3 (v2_0.map VN),V8 9 (v2_1.map (VL q0 q0)),V8 5 (v2_2.map (VM q0)),tI v2_3,tI v2_4]),(5,V2 v5),(9,.one (V8 5 (v9.map (VQ q0)))),(13,.one (V8 5 (a.map (VM q0)))),(14,V2 b),(15,V2 c),(40,.one (V8 4 (d.map VP))),(41,V2 e),(42,V2 f)]
def sP (q0:Kd)(v1:Y9)(v2_0:List GSession)(v2_1:List GPlan)(v2_2:List GRun)(v2_3 v2_4:Int)(a:List GRun)(b c d:Int):US:=stL 64 [(1,V4 v1),(2,.box () [V8 3 (v2_0.map VN),V8 9 (v2_1.map (VL q0 q0)),V8 5 (v2_2.map (VM q0)),tI v2_3,tI v2_4]),(5,V2 d),(13,.one (V8 5 (a.map (VM q0)))),(14,V2 b),(15,V2 c)]
abbrev rQ:US→Exit→US→Prop:=Round E 45 (an Tryz.f45 1)
def Mq {q0:Kd}(v1:Y9)(v2_0:List GSession)(v2_1:List GPlan)(v2_2:List GRun)(v2_3 v2_4 v5:Int)(v9:List GTask)(a:List GRun)(b c:Int)(d:List GState)(e f:Int):B9→Prop| .x2 g=>Loops E 45 (an Tryz.f45 1) (iV q0 v1 v2_0 v2_1 v2_2 v2_3 v2_4 v5 v9 a b c d e f) (.exit 2) (sP q0 v1 v2_0 v2_1 v2_2 v2_3 v2_4 a b c g)
noncomputable def fK (v1:Y9)(v9:List GTask):List GState→Nat→Int→Option B9|[],i,v5=>some (.x2 v5)|hd::rest,i,v5=>cond (hd.f0==(1:Int)) ((ak v9 (i:Int)).bind fun g1=>cond (g1.f1.toList==v1.toList) (fK v1 v9 rest (i+1) (inc v5)) (fK v1 v9 rest (i+1) v5)) (fK v1 v9 rest (i+1) v5)
theorem Mo {q0:Kd}(v1:Y9)(v2_0:List GSession)(v2_1:List GPlan)(v2_2:List GRun)(v2_3 v2_4:Int)(v9:List GTask)(b:List GRun)(c d:Int)(a:List GState)(rest:List GState):∀(i:Nat)(v5:Int),(a).drop i=rest→a.length≤9223372036854775807→Ans (fK v1 v9 rest i v5) (Mq (q0:=q0) v1 v2_0 v2_1 v2_2 v2_3 v2_4 v5 v9 b c d a (a.length:Int) (i:Int)):=by
 induction rest with
 |nil =>intro i v5 f g;have hb:=aK f;unfold fK;exact Vz (VB (show rQ (iV q0 v1 v2_0 v2_1 v2_2 v2_3 v2_4 v5 v9 b c d a (a.length:Int) (i:Int)) (.exit 2) (sP q0 v1 v2_0 v2_1 v2_2 v2_3 v2_4 b c d v5)from RP [.b false] (AC hb<|AN)) (by intro h;cases h))
 |cons hd rest k =>
  intro i v5 f g;have hb:=aF f;have l:=aG f g;have e:=au f;have m:=aE f;unfold fK;apply VC<;>intro n
  ·apply VD;intro g1 o;apply VC<;>intro p
   ·exact(k (i+1) (inc v5) e g).mono fun y j=>by have r:rQ (iV q0 v1 v2_0 v2_1 v2_2 v2_3 v2_4 v5 v9 b c d a (a.length:Int) (i:Int)) .normal (iV q0 v1 v2_0 v2_1 v2_2 v2_3 v2_4 (inc v5) v9 b c d a (a.length:Int) (inc (i:Int))):=RP [.b true,.row (VP hd),.b true,.row ((VQ q0) g1),.b true] (AC hb<|AR VP m<|AC n<|AR (VQ q0) o<|AC p<|AN);rw[l]at r;cases y<;>exact VA r j
   ·exact(k (i+1) v5 e g).mono fun y j=>by have r:rQ (iV q0 v1 v2_0 v2_1 v2_2 v2_3 v2_4 v5 v9 b c d a (a.length:Int) (i:Int)) .normal (iV q0 v1 v2_0 v2_1 v2_2 v2_3 v2_4 v5 v9 b c d a (a.length:Int) (inc (i:Int))):=RP [.b true,.row (VP hd),.b true,.row ((VQ q0) g1),.b false] (AC hb<|AR VP m<|AC n<|AR (VQ q0) o<|AC p<|AN);rw[l]at r;cases y<;>exact VA r j
  ·exact(k (i+1) v5 e g).mono fun y j=>by have r:rQ (iV q0 v1 v2_0 v2_1 v2_2 v2_3 v2_4 v5 v9 b c d a (a.length:Int) (i:Int)) .normal (iV q0 v1 v2_0 v2_1 v2_2 v2_3 v2_4 v5 v9 b c d a (a.length:Int) (inc (i:Int))):=RP [.b true,.row (VP hd),.b false] (AC hb<|AR VP m<|AC n<|AN);rw[l]at r;cases y<;>exact VA r j
inductive B8 where|x0 (v5:Int)
def lT (q0:Kd)(v1:Y9)(v2_0:List GSession)(v2_1:List GPlan)(v2_2:List GRun)(v2_3 v2_4 v5:Int)(a:List GRun)(b c:Int):US:=stL 64 [(1,V4 v1),(2,.box () [V8 3 (v2_0.map VN),V8 9 (v2_1.map (VL q0 q0)),V8 5 (v2_2.map (VM q0)),tI v2_3,tI v2_4]),(5,V2 v5),(13,.one (V8 5 (a.map (VM q0)))),(14,V2 b),(15,V2 c)]
def sO (q0:Kd)(a:Int):US:=stL 64 [(5,V2 a)]
abbrev wc:US→Exit→US→Prop:=Round E 45 (an Tryz.f45 0)
def Mp {q0:Kd}(v1:Y9)(v2_0:List GSession)(v2_1:List GPlan)(v2_2:List GRun)(v2_3 v2_4 v5:Int)(a:List GRun)(b c:Int):B8→Prop| .x0 d=>Loops E 45 (an Tryz.f45 0) (lT q0 v1 v2_0 v2_1 v2_2 v2_3 v2_4 v5 a b c) (.exit 0) (sO q0 d)
noncomputable def iW (v1:Y9)(v2_0:List GSession)(v2_1:List GPlan)(v2_2:List GRun)(v2_3 v2_4:Int):List GRun→Nat→Int→Option B8
 |[],i,v5=>some (.x0 v5)
 |hd::rest,i,v5=>if ab.sm (GBoard.mk v2_0 v2_1 v2_2 v2_3 v2_4)then cond (decide ((ap (GBoard.mk v2_0 v2_1 v2_2 v2_3 v2_4) hd.f0)<(0:Int)))
  (iW v1 v2_0 v2_1 v2_2 v2_3 v2_4 rest (i+1) v5)
  ((ak v2_1 (ap (GBoard.mk v2_0 v2_1 v2_2 v2_3 v2_4) hd.f0)).bind fun g1=>if 0≤(0:Int)∧(0:Int)≤(mR (hd.f3.length:Int) (g1.f0.f5.length:Int))∧(mR (hd.f3.length:Int) (g1.f0.f5.length:Int))≤(hd.f3.length:Int)then if((hd.f3.drop (0:Int).toNat).take ((mR (hd.f3.length:Int) (g1.f0.f5.length:Int)).toNat-(0:Int).toNat)).length≤9223372036854775807 then(fK v1 g1.f0.f5 ((hd.f3.drop (0:Int).toNat).take ((mR (hd.f3.length:Int) (g1.f0.f5.length:Int)).toNat-(0:Int).toNat)) 0 v5).bind fun y=>match y with
   | .x2 a=>(iW v1 v2_0 v2_1 v2_2 v2_3 v2_4 rest (i+1) a)else none else none)else none
theorem Mn {q0:Kd}(v1:Y9)(v2_0:List GSession)(v2_1:List GPlan)(v2_2:List GRun)(v2_3 v2_4:Int)(a:List GRun)(rest:List GRun):∀(i:Nat)(v5:Int),(a).drop i=rest→a.length≤9223372036854775807→Ans (iW v1 v2_0 v2_1 v2_2 v2_3 v2_4 rest i v5) (Mp (q0:=q0) v1 v2_0 v2_1 v2_2 v2_3 v2_4 v5 a (a.length:Int) (i:Int)):=by
 induction rest with
 |nil =>intro i v5 d f;have hb:=aK d;unfold iW;exact Vz (VB (show wc (lT q0 v1 v2_0 v2_1 v2_2 v2_3 v2_4 v5 a (a.length:Int) (i:Int)) (.exit 0) (sO q0 v5)from RP [.b false] (AC hb<|AN)) (by intro h;cases h))
 |cons hd rest j =>
  intro i v5 d f;have hb:=aF d;have l:=aG d f;have e:=au d;have m:=aE d;unfold iW;apply VE;intro n;apply VC<;>intro o
  ·exact(j (i+1) v5 e f).mono fun y c=>by have r:wc (lT q0 v1 v2_0 v2_1 v2_2 v2_3 v2_4 v5 a (a.length:Int) (i:Int)) .normal (lT q0 v1 v2_0 v2_1 v2_2 v2_3 v2_4 v5 a (a.length:Int) (inc (i:Int))):=RP [.b true,.row ((VM q0) hd),.ret [VX (ap (GBoard.mk v2_0 v2_1 v2_2 v2_3 v2_4) hd.f0)],.b true] (AC hb<|AR (VM q0) m<|AV (ψ:=fun k=>E.C k 47 [.agg (VI .far q0 (GBoard.mk v2_0 v2_1 v2_2 v2_3 v2_4)),V4 hd.f0]=some [VX (ap (GBoard.mk v2_0 v2_1 v2_2 v2_3 v2_4) hd.f0)]) (dV (GBoard.mk v2_0 v2_1 v2_2 v2_3 v2_4) hd.f0 n)<|AC o<|AN);rw[l]at r;cases y<;>exact VA r c
  ·apply VD;intro g1 q;apply VE;intro s;apply VE;intro g;apply VD;intro y c;replace c:=Mo (q0:=q0) v1 v2_0 v2_1 v2_2 v2_3 v2_4 g1.f0.f5 a (a.length:Int) (i:Int) ((hd.f3.drop (0:Int).toNat).take ((mR (hd.f3.length:Int) (g1.f0.f5.length:Int)).toNat-(0:Int).toNat)) ((hd.f3.drop (0:Int).toNat).take ((mR (hd.f3.length:Int) (g1.f0.f5.length:Int)).toNat-(0:Int).toNat)) 0 v5 rfl g y c;cases y with
   |x2 b =>have t:=c;exact(j (i+1) b e f).mono fun y c=>by have r:wc (lT q0 v1 v2_0 v2_1 v2_2 v2_3 v2_4 v5 a (a.length:Int) (i:Int)) .normal (lT q0 v1 v2_0 v2_1 v2_2 v2_3 v2_4 b a (a.length:Int) (inc (i:Int))):=RP [.b true,.row ((VM q0) hd),.ret [VX (ap (GBoard.mk v2_0 v2_1 v2_2 v2_3 v2_4) hd.f0)],.b false,.row ((VL q0 q0) g1),V5 (hd.f3.length:Int),V5 (g1.f0.f5.length:Int),V5 (mR (hd.f3.length:Int) (g1.f0.f5.length:Int)),.rows (((hd.f3.drop (0:Int).toNat).take ((mR (hd.f3.length:Int) (g1.f0.f5.length:Int)).toNat-(0:Int).toNat)).map VP),V5 (((hd.f3.drop (0:Int).toNat).take ((mR (hd.f3.length:Int) (g1.f0.f5.length:Int)).toNat-(0:Int).toNat)).length:Int),.lp (.exit 2) (sP q0 v1 v2_0 v2_1 v2_2 v2_3 v2_4 a (a.length:Int) (i:Int) b)] (AC hb<|AR (VM q0) m<|AV (ψ:=fun k=>E.C k 47 [.agg (VI .far q0 (GBoard.mk v2_0 v2_1 v2_2 v2_3 v2_4)),V4 hd.f0]=some [VX (ap (GBoard.mk v2_0 v2_1 v2_2 v2_3 v2_4) hd.f0)]) (dV (GBoard.mk v2_0 v2_1 v2_2 v2_3 v2_4) hd.f0 n)<|AC o<|AR (VL q0 q0) q<|ALn hd.f3 VP<|ALn g1.f0.f5 (VQ q0)<|AC (p:=(if(g1.f0.f5.length:Int)<(hd.f3.length:Int)then(g1.f0.f5.length:Int)else(hd.f3.length:Int))=mR (hd.f3.length:Int) (g1.f0.f5.length:Int)) rfl<|AC (p:=0≤(0:Int)∧(0:Int)≤(mR (hd.f3.length:Int) (g1.f0.f5.length:Int))∧(mR (hd.f3.length:Int) (g1.f0.f5.length:Int))≤((hd.f3.map VP).length:Int)) (Gt s)<|AC (p:=((hd.f3.map VP).drop (0:Int).toNat).take ((mR (hd.f3.length:Int) (g1.f0.f5.length:Int)).toNat-(0:Int).toNat)=((hd.f3.drop (0:Int).toNat).take ((mR (hd.f3.length:Int) (g1.f0.f5.length:Int)).toNat-(0:Int).toNat)).map VP) Di<|ALn ((hd.f3.drop (0:Int).toNat).take ((mR (hd.f3.length:Int) (g1.f0.f5.length:Int)).toNat-(0:Int).toNat)) VP<|AL t<|AN);rw[l]at r;cases y<;>exact VA r c
noncomputable def qb (a:GBoard)(c:Y9):Option (Int):=
  if a.f2.length≤9223372036854775807 then(iW c a.f0 a.f1 a.f2 a.f3 a.f4 a.f2 0 0).bind fun y=>match y with
   | .x0 b=>(some (b))else none
theorem O4 {q0:Kd}(x0:GBoard)(b:Y9):Ans (qb x0 b) (fun r=>Does E 45 [.agg (VI .far q0 x0),V4 b] [VX r]):=by
 unfold qb;apply VE;intro c;apply VD;intro y d;replace d:=Mn (q0:=q0) b x0.f0 x0.f1 x0.f2 x0.f3 x0.f4 x0.f2 x0.f2 0 0 rfl c y d;cases y with
 |x0 a =>have e:=d;exact Vz (DP Tryz.f45 [V5 (x0.f2.length:Int),.lp (.exit 0) (sO q0 a)] (ALn x0.f2 (VM q0)<|AL e<|AN))
noncomputable def a8 (b:GBoard)(n:Y9):Int:=(lB b n).getD 0
theorem LI (n:Y9)(a:List GPlan)(k:Int)(h:k<0):∀(rest:List GState)(i:Nat)(v:Int),cC n a k rest i v=some (.x2 v)
 |[],i,v=>rfl
 |x::rest,i,v=>by unfold cC;rw[show decide (k≥(0:Int))=false from Wj (by omega)];rfl
theorem Bt (n:Y9)(a:List GPlan)(k:Int)(g:GPlan)(b:ak a k=some g):∀(rest:List GState)(i:Nat)(v:Int),g.f0.f5.length≤i→cC n a k rest i v=some (.x2 v)
 |[],i,v,_=>rfl
 |x::rest,i,v,hi=>by have c:=Bt n a k g b rest (i+1) v (by omega);unfold cC;rw[b,V9,show decide ((i:Int)<(g.f0.f5.length:Int))=false from Wj (by omega),Wu,c];cases decide (k≥(0:Int))<;>cases x.f0==(1:Int)<;>rfl
theorem Oe (n:Y9)(a:List GPlan)(k:Int)(g:GPlan)(c:0≤k)(b:ak a k=some g):∀(rest:List GState)(i:Nat)(v:Int),∃r,cC n a k rest i v=some (.x2 r)∧fK n g.f0.f5 (rest.take (g.f0.f5.length-i)) i v=some (.x2 r)
 |[],i,v=>⟨v,rfl,by simp[fK]⟩
 |x::rest,i,v=>by
  by_cases hi:i<g.f0.f5.length
  ·obtain⟨y,d⟩:∃y,ak g.f0.f5 (i:Int)=some y:=by rw[cp,Wg hi];exact⟨_,rfl⟩
   rw[show g.f0.f5.length-i=(g.f0.f5.length-(i+1))+1 by omega,List.take_succ_cons];have e:=Oe n a k g c b rest (i+1);unfold cC fK;simp only[b,d,V9,show decide ((i:Int)<(g.f0.f5.length:Int))=true from Wi (by omega),show decide (k≥(0:Int))=true from Wi c,Wn];cases x.f0==(1:Int)<;>cases y.f1.toList==n.toList<;>exact e _
  ·refine⟨v,Bt n a k g b _ i v (by omega),?_⟩;rw[show g.f0.f5.length-i=0 by omega,List.take_zero];rfl
theorem RV (n:Y9)(b:GBoard)(hb:ab.sm b):∀(rest:List GRun)(i:Nat)(v:Int),(∀y∈rest,ab.sm y)→∃r,gU n b.f0 b.f1 b.f2 b.f3 b.f4 rest i v=some (.x0 r)∧iW n b.f0 b.f1 b.f2 b.f3 b.f4 rest i v=some (.x0 r)
 |[],i,v,_=>⟨v,rfl,rfl⟩
 |x::rest,i,v,h=>by
  have e:=bM (h x (by simp)).2.2;have a:ab.sm (GBoard.mk b.f0 b.f1 b.f2 b.f3 b.f4):=hb;obtain⟨-, -,s,t⟩:=xm b x.f0 hb.2.1.1;have c:=fun v=>RV n b hb rest (i+1) v fun y f=>h y (by simp[f])
  unfold gU iW;simp only[Wa e,Wa a];rw[show(GBoard.mk b.f0 b.f1 b.f2 b.f3 b.f4)=b from rfl];by_cases q:ap b x.f0<0
  ·rw[LI n _ _ q,Wi q];exact c v
  ·obtain⟨g,d,_⟩:=cA (l:=b.f1) (k:=ap b x.f0) (by omega);obtain⟨r,j,m⟩:=Oe n b.f1 _ g (by omega) d x.f3 0 v;rw[Wj q,d,j];simp only[Wu,V9];have o:mR (x.f3.length:Int) (g.f0.f5.length:Int)=((min x.f3.length g.f0.f5.length:Nat):Int):=by unfold mR;split<;>omega
   have p:(x.f3.drop 0).take (min x.f3.length g.f0.f5.length-0)=x.f3.take (g.f0.f5.length-0):=by rw[WK,Y0,Y0,List.take_eq_take_iff];omega
   rw[o];simp only[Xv,Int.toNat_zero];rw[p,Wa (by omega),Wa (by simp;omega),m];exact c r
theorem GB (b:GBoard)(n:Y9)(h:ab.sm b):lB b n=some (a8 b n)∧qb b n=some (a8 b n):=by
 obtain⟨r,c,d⟩:=RV n b h b.f2 0 0 h.2.2.2;have a:=bM h.2.2;have e:lB b n=some r:=by unfold lB;rw[Wa a,c];rfl
 have f:qb b n=some r:=by unfold qb;rw[Wa a,d];rfl
 have g:a8 b n=r:=by unfold a8;rw[e];rfl
 rw[g];exact⟨e,f⟩
theorem j8 {q0:Kd}(a:GBoard)(b:Y9)(h:ab.sm a):Does E 29 [.agg (VI .far q0 a),V4 b] [VX (a8 a b)]:=by exact PT a b _ (GB a b h).1
theorem tv {q0:Kd}(a:GBoard)(b:Y9)(h:ab.sm a):Does E 45 [.agg (VI .far q0 a),V4 b] [VX (a8 a b)]:=by exact O4 a b _ (GB a b h).2
noncomputable def Ca (a:Int):Option (Bool):=some (ag a 0 1000000)
theorem Ms (a:Int):Ans (Ca a) (fun r=>Does E 67 [V2 a] [VY r]):=by unfold Ca;exact Vz (DP Tryz.f67 [.ret [VY (ag a 0 1000000)]] (AD (ao a 0 (1000000:Int))<|AN))
def Fw (x:Int):Bool:=ag x 0 1000000
theorem gM (a:Int):Does E 67 [V2 a] [VY (Fw a)]:=by exact Ms a _ rfl
noncomputable def Au (a:Int):Option (Bool):=some (ag a 0 68374079)
theorem J4 (a:Int):Ans (Au a) (fun r=>Does E 43 [V2 a] [VY r]):=by unfold Au;exact Vz (DP Tryz.f43 [.ret [VY (ag a 0 68374079)]] (AD (ao a 0 (68374079:Int))<|AN))
def ls (x:Int):Bool:=ag x 0 68374079
theorem uk (a:Int):Does E 43 [V2 a] [VY (ls a)]:=by exact J4 a _ rfl
inductive u5 where|ret (v2:Bool)|x0
def bd (v0:List GSession)(v3:Int):US:=stL 59 [(0,.one (V8 3 (v0.map VN))),(3,V2 v3)]
def cj (a:Bool):US:=stL 59 [(2,V3 a)]
def mX (v0:List GSession):US:=stL 59 [(0,.one (V8 3 (v0.map VN)))]
abbrev b7:US→Exit→US→Prop:=Round E 25 (an Tryz.f25 0)
def Df (v0:List GSession)(v3:Int):u5→Prop| .ret a=>Loops E 25 (an Tryz.f25 0) (bd v0 v3) .ret (cj a)| .x0=>Loops E 25 (an Tryz.f25 0) (bd v0 v3) (.exit 0) (mX v0)
noncomputable def cS (v0:List GSession):List GSession→Nat→Option u5|[],i=>some (.x0)|hd::rest,i=>cond (ag hd.f0 1 1000000) (cond (decide ((i:Int)>(0:Int))) ((ak v0 (IntKind.wrap .i64 ((i:Int)-(1:Int)))).bind fun g1=>cond (decide (g1.f0≥hd.f0)) (some (.ret false)) (cond (ag hd.f1 0 1000000) (cond (decide ((hd.f2.size:Int)>(60:Int))) (some (.ret false)) (cond (hd.f1==(0:Int)) (cond (!(hd.f2.toList==ByteArray.empty.toList)) (some (.ret false)) (cS v0 rest (i+1))) (cS v0 rest (i+1)))) (some (.ret false)))) (cond (ag hd.f1 0 1000000) (cond (decide ((hd.f2.size:Int)>(60:Int))) (some (.ret false)) (cond (hd.f1==(0:Int)) (cond (!(hd.f2.toList==ByteArray.empty.toList)) (some (.ret false)) (cS v0 rest (i+1))) (cS v0 rest (i+1)))) (some (.ret false)))) (some (.ret false))
theorem De (v0:List GSession)(rest:List GSession):∀(i:Nat) ,(v0).drop i=rest→v0.length≤9223372036854775807→Ans (cS v0 rest i) (Df v0 (i:Int)):=by
 induction rest with
 |nil =>intro i l m;have hb:=aK l;unfold cS;exact Vz (VB (show b7 (bd v0 (i:Int)) (.exit 0) (mX v0)from RP [V5 (v0.length:Int),.b false] (ALn v0 VN<|AC hb<|AN)) (by intro h;cases h))
 |cons hd rest n =>
  intro i l m;have hb:=aF l;have o:=aG l m;have f:=au l;have a:=aE l;unfold cS;apply VC<;>intro b
  ·apply VC<;>intro d
   ·apply VD;intro g1 c;apply VC<;>intro e
    ·exact Vz (VB (show b7 (bd v0 (i:Int)) .ret (cj false)from RP [V5 (v0.length:Int),.b true,.row (VN hd),rT,.b true,.row (VN g1),.b true] (ALn v0 VN<|AC hb<|AR VN a<|AD (VH (ae hd.f0 1 1000000) b)<|AC d<|AR VN c<|AC e<|AN)) (by intro h;cases h))
    ·apply VC<;>intro g
     ·apply VC<;>intro j
      ·exact Vz (VB (show b7 (bd v0 (i:Int)) .ret (cj false)from RP [V5 (v0.length:Int),.b true,.row (VN hd),rT,.b true,.row (VN g1),.b false,rT,.b true] (ALn v0 VN<|AC hb<|AR VN a<|AD (VH (ae hd.f0 1 1000000) b)<|AC d<|AR VN c<|AC e<|AD (VH (ae hd.f1 0 1000000) g)<|AC j<|AN)) (by intro h;cases h))
      ·apply VC<;>intro p
       ·apply VC<;>intro q
        ·exact Vz (VB (show b7 (bd v0 (i:Int)) .ret (cj false)from RP [V5 (v0.length:Int),.b true,.row (VN hd),rT,.b true,.row (VN g1),.b false,rT,.b false,.b true,.b true] (ALn v0 VN<|AC hb<|AR VN a<|AD (VH (ae hd.f0 1 1000000) b)<|AC d<|AR VN c<|AC e<|AD (VH (ae hd.f1 0 1000000) g)<|AC j<|AC p<|AC q<|AN)) (by intro h;cases h))
        ·exact(n (i+1) f m).mono fun y k=>by have r:b7 (bd v0 (i:Int)) .normal (bd v0 (inc (i:Int))):=RP [V5 (v0.length:Int),.b true,.row (VN hd),rT,.b true,.row (VN g1),.b false,rT,.b false,.b true,.b false] (ALn v0 VN<|AC hb<|AR VN a<|AD (VH (ae hd.f0 1 1000000) b)<|AC d<|AR VN c<|AC e<|AD (VH (ae hd.f1 0 1000000) g)<|AC j<|AC p<|AC q<|AN);rw[o]at r;cases y<;>exact VA r k
       ·exact(n (i+1) f m).mono fun y k=>by have r:b7 (bd v0 (i:Int)) .normal (bd v0 (inc (i:Int))):=RP [V5 (v0.length:Int),.b true,.row (VN hd),rT,.b true,.row (VN g1),.b false,rT,.b false,.b false] (ALn v0 VN<|AC hb<|AR VN a<|AD (VH (ae hd.f0 1 1000000) b)<|AC d<|AR VN c<|AC e<|AD (VH (ae hd.f1 0 1000000) g)<|AC j<|AC p<|AN);rw[o]at r;cases y<;>exact VA r k
     ·exact Vz (VB (show b7 (bd v0 (i:Int)) .ret (cj false)from RP [V5 (v0.length:Int),.b true,.row (VN hd),rT,.b true,.row (VN g1),.b false,rF] (ALn v0 VN<|AC hb<|AR VN a<|AD (VH (ae hd.f0 1 1000000) b)<|AC d<|AR VN c<|AC e<|AD (VH (ae hd.f1 0 1000000) g)<|AN)) (by intro h;cases h))
   ·apply VC<;>intro c
    ·apply VC<;>intro e
     ·exact Vz (VB (show b7 (bd v0 (i:Int)) .ret (cj false)from RP [V5 (v0.length:Int),.b true,.row (VN hd),rT,.b false,rT,.b true] (ALn v0 VN<|AC hb<|AR VN a<|AD (VH (ae hd.f0 1 1000000) b)<|AC d<|AD (VH (ae hd.f1 0 1000000) c)<|AC e<|AN)) (by intro h;cases h))
     ·apply VC<;>intro g
      ·apply VC<;>intro j
       ·exact Vz (VB (show b7 (bd v0 (i:Int)) .ret (cj false)from RP [V5 (v0.length:Int),.b true,.row (VN hd),rT,.b false,rT,.b false,.b true,.b true] (ALn v0 VN<|AC hb<|AR VN a<|AD (VH (ae hd.f0 1 1000000) b)<|AC d<|AD (VH (ae hd.f1 0 1000000) c)<|AC e<|AC g<|AC j<|AN)) (by intro h;cases h))
       ·exact(n (i+1) f m).mono fun y k=>by have r:b7 (bd v0 (i:Int)) .normal (bd v0 (inc (i:Int))):=RP [V5 (v0.length:Int),.b true,.row (VN hd),rT,.b false,rT,.b false,.b true,.b false] (ALn v0 VN<|AC hb<|AR VN a<|AD (VH (ae hd.f0 1 1000000) b)<|AC d<|AD (VH (ae hd.f1 0 1000000) c)<|AC e<|AC g<|AC j<|AN);rw[o]at r;cases y<;>exact VA r k
      ·exact(n (i+1) f m).mono fun y k=>by have r:b7 (bd v0 (i:Int)) .normal (bd v0 (inc (i:Int))):=RP [V5 (v0.length:Int),.b true,.row (VN hd),rT,.b false,rT,.b false,.b false] (ALn v0 VN<|AC hb<|AR VN a<|AD (VH (ae hd.f0 1 1000000) b)<|AC d<|AD (VH (ae hd.f1 0 1000000) c)<|AC e<|AC g<|AN);rw[o]at r;cases y<;>exact VA r k
    ·exact Vz (VB (show b7 (bd v0 (i:Int)) .ret (cj false)from RP [V5 (v0.length:Int),.b true,.row (VN hd),rT,.b false,rF] (ALn v0 VN<|AC hb<|AR VN a<|AD (VH (ae hd.f0 1 1000000) b)<|AC d<|AD (VH (ae hd.f1 0 1000000) c)<|AN)) (by intro h;cases h))
  ·exact Vz (VB (show b7 (bd v0 (i:Int)) .ret (cj false)from RP [V5 (v0.length:Int),.b true,.row (VN hd),rF] (ALn v0 VN<|AC hb<|AR VN a<|AD (VH (ae hd.f0 1 1000000) b)<|AN)) (by intro h;cases h))
noncomputable def mv (b:List GSession):Option (Bool):=
  if b.length≤9223372036854775807 then(cS b b 0).bind fun y=>match y with
   | .ret a=>(some (a))
   | .x0=>(some (decide ((b.length:Int)≤(3:Int))))else none
theorem EW (x0:List GSession):Ans (mv x0) (fun r=>Does E 25 [.one (V8 3 (x0.map VN))] [VY r]):=by
 unfold mv;apply VE;intro c;apply VD;intro y b;replace b:=De x0 x0 0 rfl c y b;cases y with
 |ret a =>have d:=b;exact Vz (DP Tryz.f25 [.lp .ret (cj a)] (AL d<|AN))
 |x0 =>have d:=b;exact Vz (DP Tryz.f25 [.lp (.exit 0) (mX x0),V5 (x0.length:Int)] (AL d<|ALn x0 VN<|AN))
inductive vB where|ret (v2:Bool)|x0
def bD (v0 v5:List GSession)(v6 v7:Int):US:=stL 55 [(0,.one (V8 3 (v0.map VN))),(5,.one (V8 3 (v5.map VN))),(6,V2 v6),(7,V2 v7)]
def dq (a:Bool):US:=stL 55 [(2,V3 a)]
def nW (v0:List GSession):US:=stL 55 [(0,.one (V8 3 (v0.map VN)))]
abbrev cK:US→Exit→US→Prop:=Round E 39 (an Tryz.f39 0)
def Ej (v0 v5:List GSession)(v6 v7:Int):vB→Prop| .ret a=>Loops E 39 (an Tryz.f39 0) (bD v0 v5 v6 v7) .ret (dq a)| .x0=>Loops E 39 (an Tryz.f39 0) (bD v0 v5 v6 v7) (.exit 0) (nW v0)
noncomputable def dj (v0:List GSession):List GSession→Nat→Option vB|[],i=>some (.x0)|hd::rest,i=>cond (ag hd.f0 1 1000000) (cond (Fw hd.f1) (cond (decide ((hd.f2.size:Int)>(60:Int))) (some (.ret false)) (cond (hd.f1==(0:Int)) (cond (!(hd.f2.toList==ByteArray.empty.toList)) (some (.ret false)) (cond (decide ((i:Int)>(0:Int))) ((ak v0 (IntKind.wrap .i64 ((i:Int)-(1:Int)))).bind fun g1=>cond (decide (hd.f0≤g1.f0)) (some (.ret false)) (dj v0 rest (i+1))) (dj v0 rest (i+1)))) (cond (decide ((i:Int)>(0:Int))) ((ak v0 (IntKind.wrap .i64 ((i:Int)-(1:Int)))).bind fun g1=>cond (decide (hd.f0≤g1.f0)) (some (.ret false)) (dj v0 rest (i+1))) (dj v0 rest (i+1))))) (some (.ret false))) (some (.ret false))
theorem Ei (v0 v5:List GSession)(rest:List GSession):∀(i:Nat) ,(v5).drop i=rest→v5.length≤9223372036854775807→Ans (dj v0 rest i) (Ej v0 v5 (v5.length:Int) (i:Int)):=by
 induction rest with
 |nil =>intro i k l;have hb:=aK k;unfold dj;exact Vz (VB (show cK (bD v0 v5 (v5.length:Int) (i:Int)) (.exit 0) (nW v0)from RP [.b false] (AC hb<|AN)) (by intro h;cases h))
 |cons hd rest o =>
  intro i k l;have hb:=aF k;have p:=aG k l;have c:=au k;have a:=aE k;unfold dj;apply VC<;>intro b
  ·apply VC<;>intro d
   ·apply VC<;>intro e
    ·exact Vz (VB (show cK (bD v0 v5 (v5.length:Int) (i:Int)) .ret (dq false)from RP [.b true,.row (VN hd),rT,rT,.b true] (AC hb<|AR VN a<|AD (VH (ao hd.f0 1 1000000) b)<|AD (VH (gM hd.f1) d)<|AC e<|AN)) (by intro h;cases h))
    ·apply VC<;>intro g
     ·apply VC<;>intro f
      ·exact Vz (VB (show cK (bD v0 v5 (v5.length:Int) (i:Int)) .ret (dq false)from RP [.b true,.row (VN hd),rT,rT,.b false,.b true,.b true] (AC hb<|AR VN a<|AD (VH (ao hd.f0 1 1000000) b)<|AD (VH (gM hd.f1) d)<|AC e<|AC g<|AC f<|AN)) (by intro h;cases h))
      ·apply VC<;>intro m
       ·apply VD;intro g1 n;apply VC<;>intro q
        ·exact Vz (VB (show cK (bD v0 v5 (v5.length:Int) (i:Int)) .ret (dq false)from RP [.b true,.row (VN hd),rT,rT,.b false,.b true,.b false,.b true,.row (VN g1),.b true] (AC hb<|AR VN a<|AD (VH (ao hd.f0 1 1000000) b)<|AD (VH (gM hd.f1) d)<|AC e<|AC g<|AC f<|AC m<|AR VN n<|AC q<|AN)) (by intro h;cases h))
        ·exact(o (i+1) c l).mono fun y j=>by have r:cK (bD v0 v5 (v5.length:Int) (i:Int)) .normal (bD v0 v5 (v5.length:Int) (inc (i:Int))):=RP [.b true,.row (VN hd),rT,rT,.b false,.b true,.b false,.b true,.row (VN g1),.b false] (AC hb<|AR VN a<|AD (VH (ao hd.f0 1 1000000) b)<|AD (VH (gM hd.f1) d)<|AC e<|AC g<|AC f<|AC m<|AR VN n<|AC q<|AN);rw[p]at r;cases y<;>exact VA r j
       ·exact(o (i+1) c l).mono fun y j=>by have r:cK (bD v0 v5 (v5.length:Int) (i:Int)) .normal (bD v0 v5 (v5.length:Int) (inc (i:Int))):=RP [.b true,.row (VN hd),rT,rT,.b false,.b true,.b false,.b false] (AC hb<|AR VN a<|AD (VH (ao hd.f0 1 1000000) b)<|AD (VH (gM hd.f1) d)<|AC e<|AC g<|AC f<|AC m<|AN);rw[p]at r;cases y<;>exact VA r j
     ·apply VC<;>intro f
      ·apply VD;intro g1 m;apply VC<;>intro n
       ·exact Vz (VB (show cK (bD v0 v5 (v5.length:Int) (i:Int)) .ret (dq false)from RP [.b true,.row (VN hd),rT,rT,.b false,.b false,.b true,.row (VN g1),.b true] (AC hb<|AR VN a<|AD (VH (ao hd.f0 1 1000000) b)<|AD (VH (gM hd.f1) d)<|AC e<|AC g<|AC f<|AR VN m<|AC n<|AN)) (by intro h;cases h))
       ·exact(o (i+1) c l).mono fun y j=>by have r:cK (bD v0 v5 (v5.length:Int) (i:Int)) .normal (bD v0 v5 (v5.length:Int) (inc (i:Int))):=RP [.b true,.row (VN hd),rT,rT,.b false,.b false,.b true,.row (VN g1),.b false] (AC hb<|AR VN a<|AD (VH (ao hd.f0 1 1000000) b)<|AD (VH (gM hd.f1) d)<|AC e<|AC g<|AC f<|AR VN m<|AC n<|AN);rw[p]at r;cases y<;>exact VA r j
      ·exact(o (i+1) c l).mono fun y j=>by have r:cK (bD v0 v5 (v5.length:Int) (i:Int)) .normal (bD v0 v5 (v5.length:Int) (inc (i:Int))):=RP [.b true,.row (VN hd),rT,rT,.b false,.b false,.b false] (AC hb<|AR VN a<|AD (VH (ao hd.f0 1 1000000) b)<|AD (VH (gM hd.f1) d)<|AC e<|AC g<|AC f<|AN);rw[p]at r;cases y<;>exact VA r j
   ·exact Vz (VB (show cK (bD v0 v5 (v5.length:Int) (i:Int)) .ret (dq false)from RP [.b true,.row (VN hd),rT,rF] (AC hb<|AR VN a<|AD (VH (ao hd.f0 1 1000000) b)<|AD (VH (gM hd.f1) d)<|AN)) (by intro h;cases h))
  ·exact Vz (VB (show cK (bD v0 v5 (v5.length:Int) (i:Int)) .ret (dq false)from RP [.b true,.row (VN hd),rF] (AC hb<|AR VN a<|AD (VH (ao hd.f0 1 1000000) b)<|AN)) (by intro h;cases h))
noncomputable def nl (b:List GSession):Option (Bool):=
  if b.length≤9223372036854775807 then(dj b b 0).bind fun y=>match y with
   | .ret a=>(some (a))
   | .x0=>(some (decide ((b.length:Int)≤(3:Int))))else none
theorem Fv (x0:List GSession):Ans (nl x0) (fun r=>Does E 39 [.one (V8 3 (x0.map VN))] [VY r]):=by
 unfold nl;apply VE;intro c;apply VD;intro y b;replace b:=Ei x0 x0 x0 0 rfl c y b;cases y with
 |ret a =>have d:=b;exact Vz (DP Tryz.f39 [V5 (x0.length:Int),.lp .ret (dq a)] (ALn x0 VN<|AL d<|AN))
 |x0 =>have d:=b;exact Vz (DP Tryz.f39 [V5 (x0.length:Int),.lp (.exit 0) (nW x0),V5 (x0.length:Int)] (ALn x0 VN<|AL d<|ALn x0 VN<|AN))
def gG {α:Type}(ax:List α)(i:Nat):Option α:=if i=0 then none else ax[i-1]?
theorem wy {α:Type}{ax:List α}{x:α}{rest:List α}{i:Nat}(h:ax.drop i=x::rest):gG ax (i+1)=some x:=by unfold gG;rw[Wo (by omega),Nat.add_sub_cancel];have:=aE h;rw[cp]at this;exact this
theorem yq {α:Type}{ax:List α}{x:α}{rest:List α}{i:Nat}(h:ax.drop i=x::rest)(hi:0<i)(b:ax.length≤1050000):∃y,gG ax i=some y∧ak ax (IntKind.wrap .i64 ((i:Int)-1))=some y:=by
 have a:=lH h;refine⟨ax[i-1],?_,?_⟩
 ·unfold gG;rw[Wo (by omega),Wg (by omega)]
 ·rw[du _ (by omega) (by omega),show((i:Int)-1)=((i-1:Nat):Int) by omega,cp,Wg (by omega)]
def RE (x:GSession):Bool:=ag x.f0 1 1000000&&(ag x.f1 0 1000000&&(!decide ((x.f2.size:Int)>60) && !((x.f1==0) && !(x.f2.toList==ByteArray.empty.toList))))
def rH:Option GSession→List GSession→Bool
 |_,[]=>true
 |p,x::l=>RE x&&((match p with|some y => !decide (x.f0≤y.f0)|none=>true)&&rH (some x) l)
def d6 (l:List GSession):Bool:=rH none l&&decide ((l.length:Int)≤3)
theorem RF (ax:List GSession)(c:ax.length≤1050000):∀(rest:List GSession)(i:Nat),ax.drop i=rest →
  cS ax rest i=some (cond (rH (gG ax i) rest) .x0 (.ret false))∧dj ax rest i=some (cond (rH (gG ax i) rest) .x0 (.ret false))
 |[],i,_=>⟨rfl,rfl⟩
 |x::rest,i,h=>by
  obtain⟨a,b⟩:=RF ax c rest (i+1) (au h);rw[wy h]at a b;have d:Fw x.f1=ag x.f1 0 1000000:=rfl;unfold cS dj rH RE;by_cases hi:0<i
  ·obtain⟨y,e,f⟩:=yq h hi c;have hc:decide ((i:Int)>0)=true:=Wi (by omega);have g:decide (y.f0≥x.f0)=decide (x.f0≤y.f0):=rfl;rw[e];simp only[hc,f,a,b,d,g,V9,Wn];cases ag x.f0 1 1000000<;>cases ag x.f1 0 1000000<;>cases decide ((x.f2.size:Int)>60)<;>cases x.f1==0<;>cases x.f2.toList==ByteArray.empty.toList<;>cases decide (x.f0≤y.f0)<;>exact⟨rfl,rfl⟩
  ·have hz:i=0:=by omega
   subst hz;have hc:decide (((0:Nat):Int)>0)=false:=rfl;have j:gG ax 0=none:=rfl;rw[j];simp only[hc,a,b,d,Wu];cases ag x.f0 1 1000000<;>cases ag x.f1 0 1000000<;>cases decide ((x.f2.size:Int)>60)<;>cases x.f1==0<;>cases x.f2.toList==ByteArray.empty.toList<;>exact⟨rfl,rfl⟩
theorem CH (l:List GSession)(h:ab.sm l):mv l=some (d6 l)∧nl l=some (d6 l):=by obtain⟨a,b⟩:=RF l h.1 l 0 rfl;have c:gG l 0=none:=rfl;rw[c]at a b;unfold mv nl d6;rw[Wa (bM h),Wa (bM h),a,b];cases rH none l<;>exact⟨rfl,rfl⟩
theorem dh (a:List GSession)(h:ab.sm a):Does E 25 [.one (V8 3 (a.map VN))] [VY (d6 a)]:=by exact EW a _ (CH a h).1
theorem gH (a:List GSession)(h:ab.sm a):Does E 39 [.one (V8 3 (a.map VN))] [VY (d6 a)]:=by exact Fv a _ (CH a h).2
inductive zn where|ret (v2:Bool)|x0
def aT (q0:Kd)(a:List GSession)(b:List GPlan)(c:List GRun)(d e v3:Int):US:=stL 67 [(1,.box () [V8 3 (a.map VN),V8 9 (b.map (VL q0 q0)),V8 5 (c.map (VM q0)),tI d,tI e]),(3,V2 v3)]
def bf (q0:Kd)(a:Bool):US:=stL 67 [(2,V3 a)]
def mu (q0:Kd)(a:List GSession)(b:List GPlan)(c:List GRun)(d e:Int):US:=stL 67 [(1,.box () [V8 3 (a.map VN),V8 9 (b.map (VL q0 q0)),V8 5 (c.map (VM q0)),tI d,tI e])]
abbrev bn:US→Exit→US→Prop:=Round E 27 (an Tryz.f27 0)
def II {q0:Kd}(a:List GSession)(b:List GPlan)(c:List GRun)(d e v3:Int):zn→Prop| .ret f=>Loops E 27 (an Tryz.f27 0) (aT q0 a b c d e v3) .ret (bf q0 f)| .x0=>Loops E 27 (an Tryz.f27 0) (aT q0 a b c d e v3) (.exit 0) (mu q0 a b c d e)
end
end Go.Proofs.YtjikhkndmohepaaGreatDoor.Am
